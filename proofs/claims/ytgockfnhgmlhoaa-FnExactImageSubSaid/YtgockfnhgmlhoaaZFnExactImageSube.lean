/- Part 5 of the proof of the law FnExactImageSub: functions and lists that say what the Go code computes, and that it does; no condition beside those that each theorem states. -/
import Derived.Test.YtgockfnhgmlhoaaZFnExactImageSubd
import Derived.Test.YtgockfnhgmlhoaaZFnExactImageSubWMore
import Derived.Test.YtgockfnhgmlhoaaZFnExactImageSubWKept
import Derived.Test.YtgockfnhgmlhoaaZFnExactImageSubWApart
import Derived.Test.YtgockfnhgmlhoaaZFnExactImageSubWFoot
import Derived.Test.YtgockfnhgmlhoaaZFnExactImageSubWSized
import Derived.Deep.RegionHeld3
namespace Go.Proofs.Ytgockfnhgmlhoaa.Q
open Go.RowKit Go.Proofs.YtgockfnhgmlhoaaW.PrintWords Go.Proofs.YtgockfnhgmlhoaaW.PrintLast Go.Proofs.YtgockfnhgmlhoaaW.PrintMore
attribute [local go_sem] max2_int min2_int max_two min_two max_three min_three max_four min_four
set_option linter.unusedVariables false
set_option linter.unusedSimpArgs false
def impl_ImageSub.j0 : Nat → List Int → List Int → Bool → Option (List Int × Bool)
 | 0, _, _, _ => none
 | k + 1, x1, x2, x17 => if x17 = true then (some ((([] : List Int)), false)) else ((impl_naturalMap.f k x2).bind fun t674 => ((impl_compose.f k x1 t674).bind fun t677 => ((impl_blockCount.f k x2).bind fun t680 => ((impl_imagesOf.f k t677 t680).bind fun t681 => (some (t681, true))))))
def impl_ImageSub.f (k : Nat) (a0_0 : Int) (l0_1 : List (S80)) (l1 : List Int) (l2 : List Int) : Option (List Int × Bool) := (impl_isCongruent.f k a0_0 l0_1 l2).bind fun t669 => (if t669 = true then ((impl_isSub.f k a0_0 l0_1 l1).bind fun t670 => (impl_ImageSub.j0 k l1 l2 (!t670))) else (impl_ImageSub.j0 k l1 l2 true))
theorem impl_ImageSub.mono_l : ∀ k, (∀ y0 y1 y2, LeO (impl_ImageSub.j0 k y0 y1 y2) (impl_ImageSub.j0 (k + 1) y0 y1 y2))
 | 0 => fun _ _ _ r h => by simp [impl_ImageSub.j0] at h
 | k + 1 => by
  have ih0 := impl_ImageSub.mono_l k
  ·intro y0 y1 y2
   unfold impl_ImageSub.j0
   repeat' first
   | (with_reducible exact ih0 _ _ _)
   | (with_reducible exact impl_blockCount.mono _ _)
   | (with_reducible exact impl_compose.mono _ _ _)
   | (with_reducible exact impl_imagesOf.mono _ _ _)
   | (with_reducible exact impl_isCongruent.mono _ _ _ _)
   | (with_reducible exact impl_isSub.mono _ _ _ _)
   | (with_reducible exact impl_naturalMap.mono _ _)
   | (with_reducible exact LeO.refl _)
   | (with_reducible exact LeO.none _)
   | (with_reducible refine LeO.ite ?_ ?_)
   | (with_reducible refine LeO.bind ?_ (fun _ => ?_))
   | exact ih0 _ _ _
   | exact impl_blockCount.mono _ _
   | exact impl_compose.mono _ _ _
   | exact impl_imagesOf.mono _ _ _
   | exact impl_isCongruent.mono _ _ _ _
   | exact impl_isSub.mono _ _ _ _
   | exact impl_naturalMap.mono _ _
   | exact LeO.none _
   | refine LeO.ite ?_ ?_
   | refine LeO.bind ?_ (fun _ => ?_)
theorem impl_ImageSub.mono : ∀ a0 a1 a2 a3 k, LeO (impl_ImageSub.f k a0 a1 a2 a3) (impl_ImageSub.f (k + 1) a0 a1 a2 a3) := by
 intro a0 a1 a2 a3 k
 have ih0 := impl_ImageSub.mono_l k
 unfold impl_ImageSub.f
 repeat' first
   | (with_reducible exact ih0 _ _ _)
   | (with_reducible exact impl_blockCount.mono _ _)
   | (with_reducible exact impl_compose.mono _ _ _)
   | (with_reducible exact impl_imagesOf.mono _ _ _)
   | (with_reducible exact impl_isCongruent.mono _ _ _ _)
   | (with_reducible exact impl_isSub.mono _ _ _ _)
   | (with_reducible exact impl_naturalMap.mono _ _)
   | (with_reducible exact LeO.refl _)
   | (with_reducible exact LeO.none _)
   | (with_reducible refine LeO.ite ?_ ?_)
   | (with_reducible refine LeO.bind ?_ (fun _ => ?_))
   | exact ih0 _ _ _
   | exact impl_blockCount.mono _ _
   | exact impl_compose.mono _ _ _
   | exact impl_imagesOf.mono _ _ _
   | exact impl_isCongruent.mono _ _ _ _
   | exact impl_isSub.mono _ _ _ _
   | exact impl_naturalMap.mono _ _
   | exact LeO.none _
   | refine LeO.ite ?_ ?_
   | refine LeO.bind ?_ (fun _ => ?_)
set_option maxHeartbeats 8000000 in
set_option maxRecDepth 100000 in
theorem impl_ImageSub.calls (k : Nat) (a0_0 : Int) (A0_1 : Option Addr) (c0_1 : Nat) (l0_1 : List (S80)) (A1 : Option Addr) (c1 : Nat) (l1 : List Int) (A2 : Option Addr) (c2 : Nat) (l2 : List Int) (r1 : List Int) (r2 : Bool) (w : World) (hr0_1 : Kd.C k80 w A0_1 l0_1.length l0_1) (hc0_1 : l0_1.length ≤ c0_1) (hr1 : Kd.C (Kd.int .i64) w A1 l1.length l1) (hc1 : l1.length ≤ c1) (hr2 : Kd.C (Kd.int .i64) w A2 l2.length l2) (hc2 : l2.length ≤ c2) (h : impl_ImageSub.f k a0_0 l0_1 l1 l2 = some (r1, r2)) :
  Calls Try.prog 24 #[.agg #[.int .i64 a0_0, .slice A0_1 l0_1.length c0_1], .slice A1 l1.length c1, .slice A2 l2.length c2] w fun e w' => ∃ v0_ : Value, e = .returned (.tuple #[v0_, .bool r2]) ∧ Kd.R (Kd.int .i64) 3 w' w.heap.size (fun _ => True) v0_ r1 ∧ Below w.heap.size w w' := by
 have hu31 := Try.underlying31
 have HR0_1 := Aside0.mk hr0_1
 have HC0_1 := Aside0.mk hc0_1
 clear hr0_1 hc0_1
 have HR1 := Aside0.mk hr1
 have HC1 := Aside0.mk hc1
 clear hr1 hc1
 have HR2 := Aside0.mk hr2
 have HC2 := Aside0.mk hc2
 clear hr2 hc2
 have HB := Aside0.mk (Below.refl w.heap.size w)
 have H : ((impl_isCongruent.f k a0_0 l0_1 l2).bind fun t669 => (if t669 = true then ((impl_isSub.f k a0_0 l0_1 l1).bind fun t670 => (impl_ImageSub.j0 k l1 l2 (!t670))) else (impl_ImageSub.j0 k l1 l2 true))) = some (r1, r2) := h
 clear h
 have HC4 := Aside0.mk H
 clear H
 go_enter Try.func24, Try.ntmps24
 go_upto_region 1 with (first | ((with_reducible refine gate_dst (N := 3) rfl ?_); refine box_event ?hg (N := 3) ?hd (cs := #[.int .i64 a0_0, .slice A0_1 l0_1.length c0_1]) (t := 31) ?hr ?_; (case hd => rfl); (case hg => rfl); (case hr => first | (go_simp; done) | (go_simp; rfl)); intro gb668 hg w5 hbox hb; have n0_ := Aside0.mk (below_step (by repeat (first | (with_reducible first | exact HB.out | apply below_alloc | apply pw_below_drewN | apply below_drew1) | exact HB.out)) hb); have n1_ := Aside0.mk (hbox); have n2_ := Aside0.mk ((by rw [hg]; exact (below_size (by repeat (first | (with_reducible first | exact HB.out | apply below_alloc | apply pw_below_drewN | apply below_drew1) | exact HB.out))) : w.heap.size ≤ gb668)); have n3_ := Aside0.mk ((by rw [hg]; exact (below_size (by repeat (first | (with_reducible first | exact HB.out | apply below_alloc | apply pw_below_drewN | apply below_drew1) | exact HB.out))) : w.heap.size ≤ gb668)); clear HB; have HB := n0_; have BK668 := n1_; have GW668 := n2_; have GE668 := n3_; clear n0_ n1_ n2_ n3_; clear hb hbox hg))
 (try simp only [Act.put, List.setIfInBounds_toArray, List.set_cons_zero, List.set_cons_succ])
 go_cut [17] (fun v17 wc => ∃ (kq : Nat) (x17_3 : Bool), v17 = .bool x17_3 ∧ Aside0 (impl_ImageSub.j0 kq l1 l2 x17_3 = some (r1, r2)) ∧ Aside0 (kq ≤ k) ∧ Aside0 (wc.heap[gb668]? = some (.cells #[.int .i64 a0_0, (.slice A0_1 l0_1.length c0_1)] 31 (0, 0))) ∧ Aside0 (Below w.heap.size w wc))
 case first =>
  have H := HC4.out
  clear HC4
  replace H := Option.bind_eq_some_iff.mp H
  obtain ⟨t669, A60, H⟩ := H
  replace H : (if t669 = true then ((impl_isSub.f k a0_0 l0_1 l1).bind fun t670 => (impl_ImageSub.j0 k l1 l2 (!t670))) else (impl_ImageSub.j0 k l1 l2 true)) = some (r1, r2) := H
  have A6 := Aside0.mk A60
  clear A60
  by_cases c7 : t669 = true
  ·subst c7
   have H1 : ((impl_isSub.f k a0_0 l0_1 l1).bind fun t670 => (impl_ImageSub.j0 k l1 l2 (!t670))) = some (r1, r2) := by rw [if_pos rfl] at H; exact H
   clear H
   have H := H1
   clear H1
   replace H := Option.bind_eq_some_iff.mp H
   obtain ⟨t670, A80, H⟩ := H
   replace H : (impl_ImageSub.j0 k l1 l2 (!t670)) = some (r1, r2) := H
   have A8 := Aside0.mk A80
   clear A80
   have H' := Aside0.mk H
   clear H
   have hcz9_0 : w5.cell? ⟨gb668, 0, none⟩ = some (.int .i64 a0_0) := (blk_cell BK668.out 0).trans rfl
   have hcz9_1 : w5.cell? ⟨gb668, 1, none⟩ = some (.slice A0_1 l0_1.length c0_1) := (blk_cell BK668.out 1).trans rfl
   have hfz9_0 := blk_frozen BK668.out 0
   have hfz9_1 := blk_frozen BK668.out 1
   go_wp2_with (first | ((with_reducible refine gate_callee (f := 46) rfl ?_); refine goesL_ (some 10) rfl rfl Try.func46 (by kernel_rfl) rfl #[.agg #[.int .i64 a0_0, .slice A0_1 l0_1.length c0_1], .slice A2 l2.length c2] rfl (by (try simp only [List.map_toArray, List.map_cons, List.map_nil]); first | done | rfl | (simp only [List.length_drop, List.length_take]; rfl)) ?_; (with_reducible refine (impl_isCongruent.calls k a0_0 _ _ l0_1 _ _ l2 true _ ?side1 ?side2 ?side3 ?side4 A6.out).mono ?_); (case side1 => repeat (first | exact (Kd.C_below HR0_1.out HB.out) | (with_reducible refine Kd.C_alloc ?_ _) | (with_reducible refine Kd.C_drewN ?_ _) | (with_reducible refine Kd.C_drew ?_))); (case side2 => exact HC0_1.out); (case side3 => repeat (first | exact (Kd.C_below HR2.out HB.out) | (with_reducible refine Kd.C_alloc ?_ _) | (with_reducible refine Kd.C_drewN ?_ _) | (with_reducible refine Kd.C_drew ?_))); (case side4 => exact HC2.out); rintro e w10 ⟨rfl, hb⟩; refine ⟨_, rfl, ?_⟩; have n0_ := Aside0.mk (blk_below (g := gb668) (o := .cells #[.int .i64 a0_0, .slice A0_1 l0_1.length c0_1] 31 (0, 0)) (by (with_reducible repeat (first | refine blk_drewN ?_ _ | refine blk_drew ?_ | refine blk_alloc ?_ _)); exact BK668.out) hb); have n1_ := Aside0.mk (below_step (by repeat (first | (with_reducible first | exact HB.out | apply below_alloc | apply pw_below_drewN | apply below_drew1 | refine below_set ?_ GE668.out) | exact HB.out)) hb); clear BK668; clear HB; have BK668 := n0_; have HB := n1_; clear n0_ n1_; (try clear hb); (try clear hb2); (try clear hk); (try clear hi); have hcz11_0 : w10.cell? ⟨gb668, 0, none⟩ = some (.int .i64 a0_0) := (blk_cell BK668.out 0).trans rfl; have hcz11_1 : w10.cell? ⟨gb668, 1, none⟩ = some (.slice A0_1 l0_1.length c0_1) := (blk_cell BK668.out 1).trans rfl; have hfz11_0 := blk_frozen BK668.out 0; have hfz11_1 := blk_frozen BK668.out 1) | (go_at_call 47; (with_reducible refine (impl_isSub.calls k a0_0 _ _ l0_1 _ _ l1 t670 _ ?side1 ?side2 ?side3 ?side4 A8.out).mono ?_); (case side1 => repeat (first | exact (Kd.C_below HR0_1.out HB.out) | (with_reducible refine Kd.C_alloc ?_ _) | (with_reducible refine Kd.C_drewN ?_ _) | (with_reducible refine Kd.C_drew ?_))); (case side2 => exact HC0_1.out); (case side3 => repeat (first | exact (Kd.C_below HR1.out HB.out) | (with_reducible refine Kd.C_alloc ?_ _) | (with_reducible refine Kd.C_drewN ?_ _) | (with_reducible refine Kd.C_drew ?_))); (case side4 => exact HC1.out); rintro e w12 ⟨rfl, hb⟩; have n0_ := Aside0.mk (blk_below (g := gb668) (o := .cells #[.int .i64 a0_0, .slice A0_1 l0_1.length c0_1] 31 (0, 0)) (by (with_reducible repeat (first | refine blk_drewN ?_ _ | refine blk_drew ?_ | refine blk_alloc ?_ _)); exact BK668.out) hb); have n1_ := Aside0.mk (below_step (by repeat (first | (with_reducible first | exact HB.out | apply below_alloc | apply pw_below_drewN | apply below_drew1 | refine below_set ?_ GE668.out) | exact HB.out)) hb); clear BK668; clear HB; have BK668 := n0_; have HB := n1_; clear n0_ n1_; (try clear hb); (try clear hb2); (try clear hk); (try clear hi)))
   go_meet
   case rel => exact ⟨_, (!t670), (by first | rfl | (simp; done) | (simp [*]; done)), H', ⟨by first | omega | exact Nat.le_refl _⟩, ⟨by (with_reducible repeat (first | refine blk_drewN ?_ _ | refine blk_drew ?_ | refine blk_alloc ?_ _)); exact BK668.out⟩, ⟨by repeat (first | (with_reducible first | exact HB.out | apply below_alloc | apply pw_below_drewN | apply below_drew1 | refine below_set ?_ GE668.out) | exact HB.out)⟩⟩
  ·replace c7 := Bool.eq_false_iff.mpr c7
   subst c7
   have H1 : (impl_ImageSub.j0 k l1 l2 true) = some (r1, r2) := by rw [if_neg (show ¬ (false = true) by decide)] at H; exact H
   clear H
   have H := H1
   clear H1
   have H' := Aside0.mk H
   clear H
   have hcz13_0 : w5.cell? ⟨gb668, 0, none⟩ = some (.int .i64 a0_0) := (blk_cell BK668.out 0).trans rfl
   have hcz13_1 : w5.cell? ⟨gb668, 1, none⟩ = some (.slice A0_1 l0_1.length c0_1) := (blk_cell BK668.out 1).trans rfl
   have hfz13_0 := blk_frozen BK668.out 0
   have hfz13_1 := blk_frozen BK668.out 1
   go_wp2_with (first | ((with_reducible refine gate_callee (f := 46) rfl ?_); refine goesL_ (some 10) rfl rfl Try.func46 (by kernel_rfl) rfl #[.agg #[.int .i64 a0_0, .slice A0_1 l0_1.length c0_1], .slice A2 l2.length c2] rfl (by (try simp only [List.map_toArray, List.map_cons, List.map_nil]); first | done | rfl | (simp only [List.length_drop, List.length_take]; rfl)) ?_; (with_reducible refine (impl_isCongruent.calls k a0_0 _ _ l0_1 _ _ l2 false _ ?side1 ?side2 ?side3 ?side4 A6.out).mono ?_); (case side1 => repeat (first | exact (Kd.C_below HR0_1.out HB.out) | (with_reducible refine Kd.C_alloc ?_ _) | (with_reducible refine Kd.C_drewN ?_ _) | (with_reducible refine Kd.C_drew ?_))); (case side2 => exact HC0_1.out); (case side3 => repeat (first | exact (Kd.C_below HR2.out HB.out) | (with_reducible refine Kd.C_alloc ?_ _) | (with_reducible refine Kd.C_drewN ?_ _) | (with_reducible refine Kd.C_drew ?_))); (case side4 => exact HC2.out); rintro e w14 ⟨rfl, hb⟩; refine ⟨_, rfl, ?_⟩; have n0_ := Aside0.mk (blk_below (g := gb668) (o := .cells #[.int .i64 a0_0, .slice A0_1 l0_1.length c0_1] 31 (0, 0)) (by (with_reducible repeat (first | refine blk_drewN ?_ _ | refine blk_drew ?_ | refine blk_alloc ?_ _)); exact BK668.out) hb); have n1_ := Aside0.mk (below_step (by repeat (first | (with_reducible first | exact HB.out | apply below_alloc | apply pw_below_drewN | apply below_drew1 | refine below_set ?_ GE668.out) | exact HB.out)) hb); clear BK668; clear HB; have BK668 := n0_; have HB := n1_; clear n0_ n1_; (try clear hb); (try clear hb2); (try clear hk); (try clear hi)))
   go_meet
   case rel => exact ⟨_, (true), (by first | rfl | (simp; done) | (simp [*]; done)), H', ⟨by first | omega | exact Nat.le_refl _⟩, ⟨by (with_reducible repeat (first | refine blk_drewN ?_ _ | refine blk_drew ?_ | refine blk_alloc ?_ _)); exact BK668.out⟩, ⟨by repeat (first | (with_reducible first | exact HB.out | apply below_alloc | apply pw_below_drewN | apply below_drew1 | refine below_set ?_ GE668.out) | exact HB.out)⟩⟩
 case rest =>
  clear HC4
  try clear c1
  try clear c2
  try clear p2
  try clear c4
  try clear c7
  try clear hcz11_0
  try clear hcz11_1
  try clear hcz13_0
  try clear hcz13_1
  try clear hcz9_0
  try clear hcz9_1
  try clear hfz11_0
  try clear hfz11_1
  try clear hfz13_0
  try clear hfz13_1
  try clear hfz9_0
  try clear hfz9_1
  obtain ⟨kq, x17_3, rfl, HA, HJ3, BK668, HB⟩ := hcut
  cases kq with
  | zero => exact absurd HA.out (by simp [impl_ImageSub.j0])
  | succ kj3 =>
   have H := HA.out
   clear HA
   simp only [impl_ImageSub.j0] at H
   by_cases c15 : x17_3 = true
   ·subst c15
    have H1 : (some ((([] : List Int)), false)) = some (r1, r2) := by rw [if_pos rfl] at H; exact H
    clear H
    have H := H1
    clear H1
    obtain ⟨y671, hy671⟩ : ∃ y_ : List Int, y_ = (([] : List Int)) := ⟨_, rfl⟩
    replace H : (some (y671, false)) = some (r1, r2) := by first | (rw [hy671]; with_reducible exact H) | (have H2_ := (Option.bind_some _ _).symm.trans H; rw [hy671]; with_reducible exact H2_) | (have H2_ := (Option.bind_some _ _).symm.trans H; with_reducible exact H2_) | with_reducible exact H | (rw [hy671]; exact H) | exact H
    have Ny671 := Aside0.mk hy671
    clear hy671
    simp only [Option.some.injEq, Prod.mk.injEq] at H
    obtain ⟨rfl, rfl⟩ := H
    go_wp2_with (first | ((with_reducible refine gate_dst (N := 18) rfl ?_); refine Kd.R_lit (Kd.int .i64) _ 3 ?hg (N := 18) ?hd (xs := ([] : List Int)) (inner := []) (ok := fun _ => True) (okp := fun _ => True) ?hr ?hp (fun _ hk => hk) trivial (Below.refl _ _) (Nat.le_refl _) (by simp) ?_; (case hd => rfl); (case hg => rfl); (case hr => first | (go_simp; done) | (go_simp; rfl)); (case hp => exact (Reps.none _ _)); intro v672 w16 ho17 hb hg_ hnew_; clear hg_ hnew_; (first | rw [← Ny671.out] at ho17 | (simp only [Int.reduceToNat] at ho17; rw [← Ny671.out] at ho17)); have n0_ := Aside0.mk (Kd.R_lower ho17 (below_size (by repeat (first | (with_reducible first | exact HB.out | apply below_alloc | apply pw_below_drewN | apply below_drew1 | refine below_set ?_ GE668.out) | exact HB.out)))); have n1_ := Aside0.mk (blk_below (g := gb668) (o := .cells #[.int .i64 a0_0, .slice A0_1 l0_1.length c0_1] 31 (0, 0)) (by (with_reducible repeat (first | refine blk_drewN ?_ _ | refine blk_drew ?_ | refine blk_alloc ?_ _)); exact BK668.out) hb); have n2_ := Aside0.mk (below_step (by repeat (first | (with_reducible first | exact HB.out | apply below_alloc | apply pw_below_drewN | apply below_drew1 | refine below_set ?_ GE668.out) | exact HB.out)) hb); clear BK668; clear HB; have HO673 := n0_; have BK668 := n1_; have HB := n2_; clear n0_ n1_ n2_; clear hb ho17))
    go_ret2
    exact ⟨_, by first | rfl | (simp [errW_none, errW_some] <;> rfl) | (simp [*, errW_none, errW_some] <;> rfl), by (with_reducible repeat (first | apply Kd.R_alloc | apply Kd.R_drewN | apply Kd.R_drew)); exact HO673.out, by repeat (first | (with_reducible first | exact HB.out | apply below_alloc | apply pw_below_drewN | apply below_drew1 | refine below_set ?_ GE668.out) | exact HB.out)⟩
   ·replace c15 := Bool.eq_false_iff.mpr c15
    subst c15
    have H1 : ((impl_naturalMap.f kj3 l2).bind fun t674 => ((impl_compose.f kj3 l1 t674).bind fun t677 => ((impl_blockCount.f kj3 l2).bind fun t680 => ((impl_imagesOf.f kj3 t677 t680).bind fun t681 => (some (t681, true)))))) = some (r1, r2) := by rw [if_neg (show ¬ (false = true) by decide)] at H; exact H
    clear H
    have H := H1
    clear H1
    replace H := Option.bind_eq_some_iff.mp H
    obtain ⟨t674, A180, H⟩ := H
    replace H : ((impl_compose.f kj3 l1 t674).bind fun t677 => ((impl_blockCount.f kj3 l2).bind fun t680 => ((impl_imagesOf.f kj3 t677 t680).bind fun t681 => (some (t681, true))))) = some (r1, r2) := H
    have A18 := Aside0.mk A180
    clear A180
    replace H := Option.bind_eq_some_iff.mp H
    obtain ⟨t677, A190, H⟩ := H
    replace H : ((impl_blockCount.f kj3 l2).bind fun t680 => ((impl_imagesOf.f kj3 t677 t680).bind fun t681 => (some (t681, true)))) = some (r1, r2) := H
    have A19 := Aside0.mk A190
    clear A190
    replace H := Option.bind_eq_some_iff.mp H
    obtain ⟨t680, A200, H⟩ := H
    replace H : ((impl_imagesOf.f kj3 t677 t680).bind fun t681 => (some (t681, true))) = some (r1, r2) := H
    have A20 := Aside0.mk A200
    clear A200
    replace H := Option.bind_eq_some_iff.mp H
    obtain ⟨t681, A210, H⟩ := H
    replace H : (some (t681, true)) = some (r1, r2) := H
    have A21 := Aside0.mk A210
    clear A210
    simp only [Option.some.injEq, Prod.mk.injEq] at H
    obtain ⟨rfl, rfl⟩ := H
    go_wp2_with (first | ((with_reducible refine gate_callee (f := 56) rfl ?_); refine goesL_ (some 21) rfl rfl Try.func56 (by kernel_rfl) rfl #[.slice A2 l2.length c2] rfl (by (try simp only [List.map_toArray, List.map_cons, List.map_nil]); first | done | rfl | (simp only [List.length_drop, List.length_take]; rfl)) ?_; (with_reducible refine (impl_naturalMap.calls kj3 _ _ l2 t674 _ ?side1 ?side2 A18.out).mono ?_); (case side1 => repeat (first | exact (Kd.C_below HR2.out HB.out) | (with_reducible refine Kd.C_alloc ?_ _) | (with_reducible refine Kd.C_drewN ?_ _) | (with_reducible refine Kd.C_drew ?_))); (case side2 => exact HC2.out); rintro e w22 ⟨v675, rfl, ho0, hb⟩; refine ⟨_, rfl, ?_⟩; have n0_ := Aside0.mk (Kd.R_lower ho0 (below_size (by repeat (first | (with_reducible first | exact HB.out | apply below_alloc | apply pw_below_drewN | apply below_drew1 | refine below_set ?_ GE668.out) | exact HB.out)))); have n1_ := Aside0.mk (blk_below (g := gb668) (o := .cells #[.int .i64 a0_0, .slice A0_1 l0_1.length c0_1] 31 (0, 0)) (by (with_reducible repeat (first | refine blk_drewN ?_ _ | refine blk_drew ?_ | refine blk_alloc ?_ _)); exact BK668.out) hb); have n2_ := Aside0.mk (below_step (by repeat (first | (with_reducible first | exact HB.out | apply below_alloc | apply pw_below_drewN | apply below_drew1 | refine below_set ?_ GE668.out) | exact HB.out)) hb); clear BK668; clear HB; have HO676 := n0_; have BK668 := n1_; have HB := n2_; clear n0_ n1_ n2_; (try clear hb); (try clear hb2); (try clear hk); (try clear hi); (try clear ho0); obtain ⟨Ao23, co23, eo23⟩ := Kd.R_slice HO676.out; subst eo23) | ((with_reducible refine gate_callee (f := 49) rfl ?_); refine goesL_ (some 22) rfl rfl Try.func49 (by kernel_rfl) rfl #[.slice A1 l1.length c1, .slice Ao23 t674.length co23] rfl (by (try simp only [List.map_toArray, List.map_cons, List.map_nil]); first | done | rfl | (simp only [List.length_drop, List.length_take]; rfl)) ?_; (with_reducible refine (impl_compose.calls kj3 _ _ l1 _ _ t674 t677 _ ?side1 ?side2 ?side3 ?side4 A19.out).mono ?_); (case side1 => repeat (first | exact (Kd.C_below HR1.out HB.out) | (with_reducible refine Kd.C_alloc ?_ _) | (with_reducible refine Kd.C_drewN ?_ _) | (with_reducible refine Kd.C_drew ?_))); (case side2 => exact HC1.out); (case side3 => repeat (first | exact (Kd.R_reads' HO676.out).2.2 | (with_reducible refine Kd.C_alloc ?_ _) | (with_reducible refine Kd.C_drewN ?_ _) | (with_reducible refine Kd.C_drew ?_))); (case side4 => exact (Kd.R_reads' HO676.out).2.1); rintro e w24 ⟨v678, rfl, ho0, hb⟩; refine ⟨_, rfl, ?_⟩; have n0_ := Aside0.mk (Kd.R_elder' (by (with_reducible repeat (first | apply Kd.R_alloc | apply Kd.R_drewN | apply Kd.R_drew)); exact HO676.out) (Kd.R_base ho0) hb); have n1_ := Aside0.mk (Kd.R_lower (Kd.R_new' ho0 (Kd.R_lt (by (with_reducible repeat (first | apply Kd.R_alloc | apply Kd.R_drewN | apply Kd.R_drew)); exact HO676.out))) (below_size (by repeat (first | (with_reducible first | exact HB.out | apply below_alloc | apply pw_below_drewN | apply below_drew1 | refine below_set ?_ GE668.out) | exact HB.out)))); have n2_ := Aside0.mk (blk_below (g := gb668) (o := .cells #[.int .i64 a0_0, .slice A0_1 l0_1.length c0_1] 31 (0, 0)) (by (with_reducible repeat (first | refine blk_drewN ?_ _ | refine blk_drew ?_ | refine blk_alloc ?_ _)); exact BK668.out) hb); have n3_ := Aside0.mk (below_step (by repeat (first | (with_reducible first | exact HB.out | apply below_alloc | apply pw_below_drewN | apply below_drew1 | refine below_set ?_ GE668.out) | exact HB.out)) hb); clear HO676; clear BK668; clear HB; have HO676 := n0_; have HO679 := n1_; have BK668 := n2_; have HB := n3_; clear n0_ n1_ n2_ n3_; (try clear hb); (try clear hb2); (try clear hk); (try clear hi); (try clear ho0)) | ((with_reducible refine gate_callee (f := 57) rfl ?_); refine goesL_ (some 24) rfl rfl Try.func57 (by kernel_rfl) rfl #[.slice A2 l2.length c2] rfl (by (try simp only [List.map_toArray, List.map_cons, List.map_nil]); first | done | rfl | (simp only [List.length_drop, List.length_take]; rfl)) ?_; (with_reducible refine (impl_blockCount.calls kj3 _ _ l2 t680 _ ?side1 ?side2 A20.out).mono ?_); (case side1 => repeat (first | exact (Kd.C_below HR2.out HB.out) | (with_reducible refine Kd.C_alloc ?_ _) | (with_reducible refine Kd.C_drewN ?_ _) | (with_reducible refine Kd.C_drew ?_))); (case side2 => exact HC2.out); rintro e w' ⟨rfl, ⟨nd, rfl⟩⟩; refine ⟨_, rfl, ?_⟩; obtain ⟨Ao25, co25, eo25⟩ := Kd.R_slice HO679.out; subst eo25) | ((with_reducible refine gate_callee (f := 55) rfl ?_); refine goesL_ (some 25) rfl rfl Try.func55 (by kernel_rfl) rfl #[.slice Ao25 t677.length co25, .int .i64 t680] rfl (by (try simp only [List.map_toArray, List.map_cons, List.map_nil]); first | done | rfl | (simp only [List.length_drop, List.length_take]; rfl)) ?_; (with_reducible refine (impl_imagesOf.calls kj3 _ _ t677 t680 t681 _ ?side1 ?side2 A21.out).mono ?_); (case side1 => repeat (first | exact (Kd.R_reads' HO679.out).2.2 | (with_reducible refine Kd.C_alloc ?_ _) | (with_reducible refine Kd.C_drewN ?_ _) | (with_reducible refine Kd.C_drew ?_))); (case side2 => exact (Kd.R_reads' HO679.out).2.1); rintro e w26 ⟨v682, rfl, ho0, hb⟩; refine ⟨_, rfl, ?_⟩; have n0_ := Aside0.mk (Kd.R_elder' (by (with_reducible repeat (first | apply Kd.R_alloc | apply Kd.R_drewN | apply Kd.R_drew)); exact HO676.out) (Kd.R_base ho0) hb); have n1_ := Aside0.mk (Kd.R_elder' (by (with_reducible repeat (first | apply Kd.R_alloc | apply Kd.R_drewN | apply Kd.R_drew)); exact HO679.out) (Kd.R_base ho0) hb); have n2_ := Aside0.mk (Kd.R_lower (Kd.R_new' (Kd.R_new' ho0 (Kd.R_lt (by (with_reducible repeat (first | apply Kd.R_alloc | apply Kd.R_drewN | apply Kd.R_drew)); exact HO676.out))) (Kd.R_lt (by (with_reducible repeat (first | apply Kd.R_alloc | apply Kd.R_drewN | apply Kd.R_drew)); exact HO679.out))) (below_size (by repeat (first | (with_reducible first | exact HB.out | apply below_alloc | apply pw_below_drewN | apply below_drew1 | refine below_set ?_ GE668.out) | exact HB.out)))); have n3_ := Aside0.mk (blk_below (g := gb668) (o := .cells #[.int .i64 a0_0, .slice A0_1 l0_1.length c0_1] 31 (0, 0)) (by (with_reducible repeat (first | refine blk_drewN ?_ _ | refine blk_drew ?_ | refine blk_alloc ?_ _)); exact BK668.out) hb); have n4_ := Aside0.mk (below_step (by repeat (first | (with_reducible first | exact HB.out | apply below_alloc | apply pw_below_drewN | apply below_drew1 | refine below_set ?_ GE668.out) | exact HB.out)) hb); clear HO676; clear HO679; clear BK668; clear HB; have HO676 := n0_; have HO679 := n1_; have HO683 := n2_; have BK668 := n3_; have HB := n4_; clear n0_ n1_ n2_ n3_ n4_; (try clear hb); (try clear hb2); (try clear hk); (try clear hi); (try clear ho0)))
    go_ret2
    exact ⟨_, by first | rfl | (simp [errW_none, errW_some] <;> rfl) | (simp [*, errW_none, errW_some] <;> rfl), by (with_reducible repeat (first | apply Kd.R_alloc | apply Kd.R_drewN | apply Kd.R_drew)); exact Kd.R_mono HO683.out (fun _ hk => trivial), by repeat (first | (with_reducible first | exact HB.out | apply below_alloc | apply pw_below_drewN | apply below_drew1 | refine below_set ?_ GE668.out) | exact HB.out)⟩
end Go.Proofs.Ytgockfnhgmlhoaa.Q

namespace Go.Proofs.Ytgockfnhgmlhoaa.Live
open Go.RowKit Go.Proofs.YtgockfnhgmlhoaaW.PrintWords Go.Proofs.YtgockfnhgmlhoaaW.PrintLast
set_option linter.unusedVariables false
structure Part where
 lo : Nat
 hi : Nat
 P : World → Prop
def Seg (w : World) (x : Part) : Prop := ∀ w' : World, (∀ k, x.lo ≤ k → k < x.hi → w'.heap[k]? = w.heap[k]?) → x.P w'
def Live (w : World) (L : List Part) : Prop := (∀ x ∈ L, x.lo ≤ x.hi ∧ x.hi ≤ w.heap.size ∧ Seg w x) ∧ L.Pairwise (fun new old => old.hi ≤ new.lo)
theorem Live.nil (w : World) : Live w [] := ⟨fun x hx => by simp at hx, List.Pairwise.nil⟩
theorem Live.get {w : World} {L : List Part} (h : Live w L) (i : Nat) {x : Part} (hi : L[i]? = some x) : x.P w :=
 (h.1 x (List.mem_of_getElem? hi)).2.2 w (fun _ _ _ => rfl)
theorem Seg.kept {w w' : World} {x : Part} {S : Nat → Prop} (h : Seg w x) (hk : Kept w w' S) (hh : x.hi ≤ w.heap.size) (hs : ∀ k, x.lo ≤ k → k < x.hi → ¬ S k) : Seg w' x :=
 fun w2 h2 => h w2 (fun k h3 h4 => (h2 k h3 h4).trans (hk.2 k (by omega) (hs k h3 h4)))
theorem Live.kept {w w' : World} {L : List Part} {S : Nat → Prop} (h : Live w L) (hk : Kept w w' S) (hs : ∀ x ∈ L, ∀ k, x.lo ≤ k → k < x.hi → ¬ S k) : Live w' L :=
 ⟨fun x hx => ⟨(h.1 x hx).1, Nat.le_trans (h.1 x hx).2.1 hk.1, (h.1 x hx).2.2.kept hk (h.1 x hx).2.1 (hs x hx)⟩, h.2⟩
theorem Live.below {w w' : World} {L : List Part} (h : Live w L) (hb : Below w.heap.size w w') : Live w' L :=
 h.kept (Kept.of_below hb (fun _ => False)) (fun _ _ _ _ _ hf => hf)
theorem Live.drew {w : World} {L : List Part} (h : Live w L) : Live w.drew L := h
theorem Live.make {w w' : World} {L : List Part} (h : Live w L) (hb : Below w.heap.size w w') {P : World → Prop} (hP : Seg w' ⟨w.heap.size, w'.heap.size, P⟩) : Live w' (⟨w.heap.size, w'.heap.size, P⟩ :: L) := by
 have h1 := h.below hb
 refine ⟨fun x hx => ?_, List.Pairwise.cons (fun x hx => (h.1 x hx).2.1) h1.2⟩
 rcases List.mem_cons.1 hx with rfl | hx
 ·exact ⟨hb.size, Nat.le_refl _, hP⟩
 ·exact h1.1 x hx
theorem pairwise_set {L : List Part} (h : L.Pairwise (fun new old => old.hi ≤ new.lo)) (i : Nat) {x y : Part} (hi : L[i]? = some x) (h1 : y.lo = x.lo) (h2 : y.hi = x.hi) : (L.set i y).Pairwise (fun new old => old.hi ≤ new.lo) := by
 rw [List.pairwise_iff_getElem] at h ⊢
 obtain ⟨hil, hx⟩ := List.getElem?_eq_some_iff.1 hi
 have key : ∀ (j : Nat) (hj : j < (L.set i y).length), ((L.set i y)[j]).lo = (L[j]'(by simpa using hj)).lo ∧ ((L.set i y)[j]).hi = (L[j]'(by simpa using hj)).hi := by
  intro j hj
  rw [List.getElem_set]
  split
  ·rename_i e
   subst e
   rw [h1, h2, ← hx]
   exact ⟨rfl, rfl⟩
  ·exact ⟨rfl, rfl⟩
 intro a b ha hb hab
 rw [(key a ha).1, (key b hb).2]
 exact h a b (by simpa using ha) (by simpa using hb) hab
theorem Live.mark {w w' : World} {L : List Part} (h : Live w L) (i : Nat) {x : Part} (hi : L[i]? = some x) (hk : Kept w w' (fun k => x.lo ≤ k ∧ k < x.hi)) {P' : World → Prop} (hP : Seg w' ⟨x.lo, x.hi, P'⟩) : Live w' (L.set i ⟨x.lo, x.hi, P'⟩) := by
 have hp := h.2
 rw [List.pairwise_iff_getElem] at hp
 obtain ⟨hil, hx⟩ := List.getElem?_eq_some_iff.1 hi
 refine ⟨fun y hy => ?_, pairwise_set h.2 i hi rfl rfl⟩
 obtain ⟨j, hj⟩ := List.getElem?_of_mem hy
 rw [List.getElem?_set] at hj
 by_cases e : i = j
 ·subst e
  rw [if_pos rfl, if_pos hil] at hj
  injection hj with hj
  subst hj
  have hm := h.1 x (List.mem_of_getElem? hi)
  exact ⟨hm.1, Nat.le_trans hm.2.1 hk.1, hP⟩
 ·rw [if_neg e] at hj
  obtain ⟨hjl, hjx⟩ := List.getElem?_eq_some_iff.1 hj
  have hm := h.1 y (List.mem_of_getElem? hj)
  refine ⟨hm.1, Nat.le_trans hm.2.1 hk.1, hm.2.2.kept hk hm.2.1 (fun k h3 h4 h5 => ?_)⟩
  rcases Nat.lt_or_ge i j with h6 | h6
  ·have := hp i j hil hjl h6
   rw [hx, hjx] at this
   omega
  ·have := hp j i hjl hil (by omega)
   rw [hx, hjx] at this
   omega
theorem Live.make_box {w : World} {L : List Part} (h : Live w L) (o : Obj) (g : Nat) (hg : g = w.heap.size) : ∃ lo hi, Live (w.alloc o) (⟨lo, hi, fun w => w.heap[g]? = some o ∧ lo ≤ g ∧ g < hi⟩ :: L) :=
 ⟨w.heap.size, (w.alloc o).heap.size, h.make (below_alloc (Below.refl _ _) o) (fun w' hw => by subst hg; exact ⟨(hw _ (Nat.le_refl _) (by simp)).trans (heap_alloc_new w o), Nat.le_refl _, by simp⟩)⟩
theorem Live.make_S {α : Type} {d : Kd α} {e base : Nat} {ok : Nat → Prop} {v : Value} {xs : List α} {w w' : World} {L : List Part} (h : Live w L) (hb : Below w.heap.size w w') (ho : Kd.S d e w' w.heap.size ok v xs) (hbase : base ≤ w.heap.size) :
  ∃ lo hi, Live w' (⟨lo, hi, fun w => Kd.S d e w base (fun k => lo ≤ k ∧ k < hi) v xs⟩ :: L) :=
 ⟨_, _, h.make hb (fun w2 hw => Kd.S_lower (Kd.S_move (Kd.S_mono (Kd.S_bound ho) (fun k hk => ⟨hk.2.1, hk.2.2.1⟩)) (fun k hk => hw k hk.1 hk.2)) hbase)⟩
theorem Live.make_R {α : Type} {d : Kd α} {e base : Nat} {ok : Nat → Prop} {v : Value} {xs : List α} {w w' : World} {L : List Part} (h : Live w L) (hb : Below w.heap.size w w') (ho : d.R e w' w.heap.size ok v xs) (hbase : base ≤ w.heap.size) :
  ∃ lo hi, Live w' (⟨lo, hi, fun w => d.R e w base (fun k => lo ≤ k ∧ k < hi) v xs⟩ :: L) :=
 ⟨_, _, h.make hb (fun w2 hw => Kd.R_lower (Kd.R_move (Kd.R_mono (Kd.R_bound ho) (fun k hk => ⟨hk.2.1, hk.2.2.1⟩)) (fun k hk => hw k hk.1 hk.2)) hbase)⟩
section
variable {α : Type} {d : Kd α} {e base lo hi : Nat} {w : World} {ok : Nat → Prop} {v : Value} {xs : List α}
theorem seg_R {base' : Nat} (h : d.R e w base ok v xs) (hok : ∀ k, ok k → base ≤ k → k < w.heap.size → lo ≤ k ∧ k < hi) (hb : base' ≤ base) : Seg w ⟨lo, hi, fun w => d.R e w base' (fun k => lo ≤ k ∧ k < hi) v xs⟩ := fun w' hw =>
 Kd.R_lower (Kd.R_move (Kd.R_mono (Kd.R_bound h) (fun k hk => hok k hk.1 hk.2.1 hk.2.2.1)) (fun k hk => hw k hk.1 hk.2)) hb
theorem seg_S {base' : Nat} (h : Kd.S d e w base ok v xs) (hok : ∀ k, ok k → base ≤ k → k < w.heap.size → lo ≤ k ∧ k < hi) (hb : base' ≤ base) : Seg w ⟨lo, hi, fun w => Kd.S d e w base' (fun k => lo ≤ k ∧ k < hi) v xs⟩ := fun w' hw =>
 Kd.S_lower (Kd.S_move (Kd.S_mono (Kd.S_bound h) (fun k hk => hok k hk.1 hk.2.1 hk.2.2.1)) (fun k hk => hw k hk.1 hk.2)) hb
end
end Go.Proofs.Ytgockfnhgmlhoaa.Live

namespace Go.Proofs.Ytgockfnhgmlhoaa
open Go.RowKit Go.Proofs.YtgockfnhgmlhoaaW.PrintWords Go.Proofs.YtgockfnhgmlhoaaW.PrintLast Go.Proofs.YtgockfnhgmlhoaaW.PrintMore Go.Proofs.Ytgockfnhgmlhoaa.Live Go.Proofs.Ytgockfnhgmlhoaa.Q
def Stmt.FnExactImageSub : Prop := ∀ (a0 : Int) (l0 : List (Q.S77)) (l1 : List (Int)) (l2 : List (Int)), (Lit.int .i64 a0).wf = true → l0.length ≤ maxLen → (∀ x ∈ l0, (Lit.int .i64 x.f0).wf = true ∧ x.f1.length ≤ maxLen ∧ ∀ y_x ∈ x.f1, (Lit.int .i64 y_x).wf = true) → l1.length ≤ maxLen → (∀ x ∈ l1, (Lit.int .i64 x).wf = true) → l2.length ≤ maxLen → (∀ x ∈ l2, (Lit.int .i64 x).wf = true) → l1.length ≤ 1048576 → l2.length ≤ 1048576 → ∃ k : Nat, ∃ t0 : Int, laws_szAlgebra.f k a0 l0 1048576 = some t0 ∧ (0 ≤ t0 → ∃ (X0 : Int) (X1 : List (S80)) (X2 : List Int) (X3 : List Int) (X4 : List Int) (X5 : Bool), laws_toAlgebra.f k a0 l0 = some (X0, X1) ∧ laws_toIntS.f k l1 = some X2 ∧ laws_toIntS.f k l2 = some X3 ∧ spec_ImageSub.f k X0 X1 X2 X3 = some (X4, X5) ∧ impl_ImageSub.f k X0 X1 X2 X3 = some (X4, X5) ∧ laws_eqIntS.f k X4 X4 = some true ∧ laws_eqAlgebra.f k X0 X1 X0 X1 = some true ∧ laws_eqIntS.f k X2 X2 = some true ∧ laws_eqIntS.f k X3 X3 = some true ∧ laws_markIntS.f k X2 (1 + (totO X1 : Int)) = some ((((1 + (totO X1 : Int)) + (X2.length : Int))), (asc X2.length (1 + (totO X1 : Int)))) ∧ laws_markIntS.f k X3 ((1 + (totO X1 : Int)) + (X2.length : Int)) = some (((((1 + (totO X1 : Int)) + (X2.length : Int)) + (X3.length : Int))), (asc X3.length ((1 + (totO X1 : Int)) + (X2.length : Int)))) ∧ laws_markIntS.f k X4 1 = some (((1 + (X4.length : Int))), (asc X4.length 1)) ∧ laws_heldIntS.f k (asc X4.length 1) 1 = some (1 + (X4.length : Int)) ∧ (1 + (totO X1 : Int)) ≤ 4611686018427387904)
end Go.Proofs.Ytgockfnhgmlhoaa

namespace Go.Proofs.Ytgockfnhgmlhoaa
open Go.ChangeShapes Go.WideShapes
end Go.Proofs.Ytgockfnhgmlhoaa
namespace Go.Proofs.Ytgockfnhgmlhoaa.Pure
open Go.RowKit Go.Proofs.Ytgockfnhgmlhoaa.Q Go.Proofs.YtgockfnhgmlhoaaW.PrintWords Go.Proofs.YtgockfnhgmlhoaaW.PrintLast
set_option linter.unusedVariables false
set_option linter.unusedSimpArgs false
theorem Ev.pos {α : Type} {c : Prop} [Decidable c] {f g : Nat → Option α} {r : α} (h : c) (hf : Ev f r) : Ev (fun k => if c then f k else g k) r := by
 simpa only [if_pos h] using hf
theorem Ev.neg {α : Type} {c : Prop} [Decidable c] {f g : Nat → Option α} {r : α} (h : ¬ c) (hg : Ev g r) : Ev (fun k => if c then f k else g k) r := by
 simpa only [if_neg h] using hg
theorem Ev.ite {α : Type} {c : Prop} [Decidable c] {f g : Nat → Option α} {r : α} (h : c → Ev f r) (h' : ¬ c → Ev g r) : Ev (fun k => if c then f k else g k) r := by
 by_cases hc : c
 ·exact Ev.pos hc (h hc)
 ·exact Ev.neg hc (h' hc)
theorem Ev.bind1 {α β : Type} {x : α} {f : Nat → α → Option β} {r : β} (k : Ev (fun n => f n x) r) : Ev (fun n => (some x).bind (f n)) r := k
theorem _root_.Go.Proofs.YtgockfnhgmlhoaaW.PrintWords.Ev.to {α : Type} {g : Nat → Option α} {r s : α} (h : Ev g r) (e : r = s) : Ev g s := e ▸ h
theorem w64 {x : Int} (h1 : -9223372036854775808 ≤ x) (h2 : x ≤ 9223372036854775807) : wrap64 x = x := by unfold wrap64; omega
theorem w64s {i n : Nat} (h : i < n) (hn : n ≤ 9223372036854775807) : wrap64 ((i : Int) + 1) = ((i + 1 : Nat) : Int) := by unfold wrap64; omega
def gd (l : List Int) (i : Nat) : Int := l.getD i 0
theorem rdn (xs : List Int) (i : Nat) : rd xs (i : Int) = gd xs i := by simp [rd, gd]
theorem gd_lt {xs : List Int} {i : Nat} (h : i < xs.length) : gd xs i = xs[i] := by simp [gd, List.getD, h]
theorem set_at {x : List Int} {i : Nat} (v : Int) (hi : i < x.length) : gd (x.set i v) i = v := by simp [gd, List.getD, hi]
theorem set_ne {x : List Int} {i j : Nat} (v : Int) (h : i ≠ j) : gd (x.set i v) j = gd x j := by simp only [gd, List.getD]; rw [List.getElem?_set_ne h]
theorem ext_gd {a b : List Int} (h : a.length = b.length) (e : ∀ i, i < a.length → gd a i = gd b i) : a = b := by
 apply List.ext_getElem h
 intro i h1 h2
 have := e i h1
 rwa [gd_lt h1, gd_lt h2] at this
theorem take_snoc (l : List Int) {i : Nat} (h : i < l.length) : l.take i ++ [gd l i] = l.take (i + 1) := by
 rw [gd_lt h, List.take_append_getElem]
theorem _root_.Go.Proofs.YtgockfnhgmlhoaaW.PrintWords.Ev.and {α β : Type} {g : Nat → Option α} {f : Nat → Option β} {r : α} {s : β} (h : Ev g r) (h' : Ev f s) : ∃ K, ∀ k, K ≤ k → g k = some r ∧ f k = some s := by
 obtain ⟨K, h⟩ := h
 obtain ⟨K', h'⟩ := h'
 exact ⟨max K K', fun k hk => ⟨h k (by omega), h' k (by omega)⟩⟩
def Evs (P : Nat → Prop) : Prop := ∃ K, ∀ k, K ≤ k → P k
theorem Evs.of {α : Type} {g : Nat → Option α} {r : α} (h : Ev g r) : Evs (fun k => g k = some r) := h
theorem Evs.and {P Q : Nat → Prop} (h : Evs P) (h' : Evs Q) : Evs (fun k => P k ∧ Q k) := by
 obtain ⟨K, h⟩ := h
 obtain ⟨K', h'⟩ := h'
 exact ⟨max K K', fun k hk => ⟨h k (by omega), h' k (by omega)⟩⟩
theorem Evs.true {P : Prop} (h : P) : Evs (fun _ => P) := ⟨0, fun _ _ => h⟩
theorem Evs.ex {P : Nat → Prop} (h : Evs P) : ∃ k, P k := by
 obtain ⟨K, h⟩ := h
 exact ⟨K, h K (Nat.le_refl _)⟩
theorem drop_cons {α : Type} (l : List α) (z : α) {i : Nat} (h : i < l.length) : l.drop i = l.getD i z :: l.drop (i + 1) := by
 rw [List.drop_eq_getElem_cons h]
 simp [List.getD, h]
theorem all_loop {α : Type} (l : List α) (z : α) (p : α → Bool) (L : Nat → Int → Option Bool) (hend : Ev (fun k => L k (l.length : Int)) true)
  (hT : ∀ (i : Nat) (r : Bool), i < l.length → p (l.getD i z) = true → Ev (fun k => L k ((i + 1 : Nat) : Int)) r → Ev (fun k => L k (i : Int)) r)
  (hF : ∀ i : Nat, i < l.length → p (l.getD i z) = false → Ev (fun k => L k (i : Int)) false) : ∀ (d i : Nat), i + d = l.length → Ev (fun k => L k (i : Int)) ((l.drop i).all p) := by
 intro d
 induction d with
 | zero =>
  intro i hi
  have : i = l.length := by omega
  subst this
  simpa using hend
 | succ d ih =>
  intro i hi
  rw [drop_cons l z (by omega), List.all_cons]
  cases hp : p (l.getD i z) with
  | true => simpa using hT i _ (by omega) hp (ih (i + 1) (by omega))
  | false => simpa using hF i (by omega) hp
theorem set_loop {α β γ : Type} (l : List α) (z : α) (f : α → β) (L : Nat → List β → Int → Option γ) (fin : γ) (hend : Ev (fun k => L k (l.map f) (l.length : Int)) fin)
  (hstep : ∀ (i : Nat) (out : List β), i < l.length → out.length = l.length → Ev (fun k => L k (out.set i (f (l.getD i z))) ((i + 1 : Nat) : Int)) fin → Ev (fun k => L k out (i : Int)) fin) :
  ∀ (d i : Nat) (out : List β), i + d = l.length → out.length = l.length → (∀ j, j < i → out[j]? = (l.map f)[j]?) → Ev (fun k => L k out (i : Int)) fin := by
 intro d
 induction d with
 | zero =>
  intro i out hi ho h
  have : i = l.length := by omega
  subst this
  have : out = l.map f := by
   apply List.ext_getElem?
   intro j
   rcases Nat.lt_or_ge j l.length with h1 | h1
   ·exact h j h1
   ·rw [List.getElem?_eq_none (by omega), List.getElem?_eq_none (by simpa using h1)]
  rw [this]
  exact hend
 | succ d ih =>
  intro i out hi ho h
  refine hstep i out (by omega) ho (ih (i + 1) _ (by omega) (by simpa using ho) (fun j hj => ?_))
  rw [List.getElem?_set]
  by_cases e : i = j
  ·subst e
   rw [if_pos rfl, if_pos (by omega)]
   simp [List.getD, show i < l.length by omega]
  ·rw [if_neg e]
   exact h j (by omega)
def partAt (p : List Int) (i : Nat) : Bool := decide (0 ≤ gd p i) && (decide (gd p i ≤ (i : Int)) && decide (gd p (gd p i).toNat = gd p i))
def partB (n : Int) (p : List Int) : Bool := decide ((p.length : Int) = n) && (List.range' 0 p.length).all (partAt p)
def sizeB (n : Int) : Bool := decide (1 ≤ n ∧ n ≤ 8)
theorem spec_l1In_eq (a b c : Int) : spec_l1In.f a b c = some (decide (b ≤ a ∧ a ≤ c)) := by
 unfold spec_l1In.f
 split
 ·congr 1; simp; omega
 ·congr 1; simp; omega
theorem impl_isPartition_loop (p : List Int) (hl : p.length ≤ 35184372088832) : ∀ (d i : Nat), i + d = p.length → Ev (fun k => impl_isPartition.l0 k p p (p.length : Int) (i : Int)) ((List.range' i d).all (partAt p)) := by
 intro d
 induction d with
 | zero =>
  intro i hi
  refine Ev.step (fun _ => impl_isPartition.l0.eq_2 ..) ?_
  refine Ev.neg (by omega) ?_
  exact Ev.now _
 | succ d ih =>
  intro i hi
  refine Ev.step (fun _ => impl_isPartition.l0.eq_2 ..) ?_
  refine Ev.pos (by omega) ?_
  refine Ev.pos (by omega) ?_
  refine Ev.pos (by omega) ?_
  rw [w64s (n := p.length) (by omega) (by omega), rdn, List.range'_succ, List.all_cons]
  refine Ev.ite (fun h => (Ev.now _).to (by simp [partAt]; omega)) (fun h1 => ?_)
  refine Ev.ite (fun h => (Ev.now _).to (by simp [partAt]; omega)) (fun h2 => ?_)
  refine Ev.pos (by omega) ?_
  refine Ev.pos (by omega) ?_
  have e : rd p (gd p i) = gd p (gd p i).toNat := rfl
  rw [e]
  refine Ev.ite (fun h => ?_) (fun h => (Ev.now _).to (by simp [partAt]; omega))
  refine (ih (i + 1) (by omega)).to ?_
  have : partAt p i = true := by simp [partAt]; omega
  rw [this]
  simp
theorem impl_isPartition_ev (n : Int) (p : List Int) (hl : p.length ≤ 35184372088832) : Ev (fun k => impl_isPartition.f k n p) (partB n p) := by
 unfold impl_isPartition.f partB
 refine Ev.ite (fun h => ?_) (fun h => ?_)
 ·refine (impl_isPartition_loop p hl p.length 0 (by omega)).to ?_
  simp [h]
 ·exact (Ev.now _).to (by simp [h])
theorem spec_l6Partition_loop (p : List Int) (hl : p.length ≤ 35184372088832) : ∀ (d i : Nat), i + d = p.length → Ev (fun k => spec_l6Partition.l0 k (p.length : Int) p (i : Int)) ((List.range' i d).all (partAt p)) := by
 intro d
 induction d with
 | zero =>
  intro i hi
  refine Ev.step (fun _ => spec_l6Partition.l0.eq_2 ..) ?_
  refine Ev.neg (by omega) ?_
  exact Ev.now _
 | succ d ih =>
  intro i hi
  refine Ev.step (fun _ => spec_l6Partition.l0.eq_2 ..) ?_
  refine Ev.pos (by omega) ?_
  refine Ev.pos (by omega) ?_
  refine Ev.pos (by omega) ?_
  rw [w64s (n := p.length) (by omega) (by omega), rdn, List.range'_succ, List.all_cons, spec_l1In_eq]
  refine Ev.bind1 ?_
  refine Ev.ite (fun h1 => ?_) (fun h => (Ev.now _).to (by simp [partAt] at h ⊢; omega))
  have h2 := of_decide_eq_true h1
  refine Ev.pos (by omega) ?_
  refine Ev.pos (by omega) ?_
  have e : rd p (gd p i) = gd p (gd p i).toNat := rfl
  rw [e]
  refine Ev.ite (fun h => ?_) (fun h => (Ev.now _).to (by simp [partAt]; omega))
  refine (ih (i + 1) (by omega)).to ?_
  have : partAt p i = true := by simp [partAt]; omega
  rw [this]
  simp
theorem spec_l6Partition_ev (n : Int) (p : List Int) (hl : p.length ≤ 35184372088832) : Ev (fun k => spec_l6Partition.f k n p) (partB n p) := by
 unfold spec_l6Partition.f partB
 refine Ev.ite (fun h => ?_) (fun h => ?_)
 ·rw [← h]
  refine (spec_l6Partition_loop p hl p.length 0 (by omega)).to ?_
  simp
 ·exact (Ev.now _).to (by simp [h])
theorem partAt_of {n : Int} {p : List Int} (h : partB n p = true) {i : Nat} (hi : i < p.length) : 0 ≤ gd p i ∧ gd p i ≤ i ∧ gd p (gd p i).toNat = gd p i := by
 simp only [partB, Bool.and_eq_true, List.all_eq_true, List.mem_range'_1, decide_eq_true_eq] at h
 have := h.2 i ⟨by omega, by omega⟩
 simpa [partAt] using this
theorem partB_len {n : Int} {p : List Int} (h : partB n p = true) : (p.length : Int) = n := by
 simp only [partB, Bool.and_eq_true, decide_eq_true_eq] at h
 exact h.1
def uni (p : List Int) (x y : Int) : List Int :=
 p.map fun v => if v = max (gd p x.toNat) (gd p y.toNat) then min (gd p x.toNat) (gd p y.toNat) else v
theorem uni_length (p : List Int) (x y : Int) : (uni p x y).length = p.length := by simp [uni]
theorem gd_map (f : Int → Int) (p : List Int) {i : Nat} (h : i < p.length) : gd (p.map f) i = f (gd p i) := by
 rw [gd_lt (by simpa using h), gd_lt h]
 simp
theorem impl_unite_loop (q : List Int) (a b : Int) (hq : q.length ≤ 35184372088832) : ∀ (d i : Nat) (x : List Int), i + d = q.length → x.length = q.length →
  (∀ j, j < i → gd x j = if gd q j = b then a else gd q j) → (∀ j, i ≤ j → gd x j = gd q j) →
  Ev (fun k => impl_unite.l0 k x a b (q.length : Int) (i : Int)) (true, q.map fun v => if v = b then a else v) := by
 intro d
 induction d with
 | zero =>
  intro i x hi hx h1 h2
  refine Ev.step (fun _ => impl_unite.l0.eq_2 ..) (Ev.neg (by omega) ?_)
  have : x = q.map fun v => if v = b then a else v := ext_gd (by simp [hx]) (fun j hj => by rw [gd_map _ _ (by omega)]; exact h1 j (by omega))
  rw [this]
  exact Ev.now _
 | succ d ih =>
  intro i x hi hx h1 h2
  refine Ev.step (fun _ => impl_unite.l0.eq_2 ..) ?_
  rw [rdn, w64s (n := q.length) (by omega) (by omega), Int.toNat_natCast]
  refine Ev.pos (by omega) (Ev.pos (by omega) (Ev.pos (by omega) (Ev.ite (fun h => ?_) (fun h => ?_))))
  ·refine ih (i + 1) _ (by omega) (by simpa using hx) (fun j hj => ?_) (fun j hj => ?_)
   ·by_cases e : j = i
    ·subst e
     rw [set_at _ (by omega), if_pos (by rw [← h2 j (Nat.le_refl _)]; exact h)]
    ·rw [set_ne _ (fun e' => e e'.symm)]
     exact h1 j (by omega)
   ·rw [set_ne _ (by omega)]
    exact h2 j (by omega)
  ·refine ih (i + 1) _ (by omega) hx (fun j hj => ?_) (fun j hj => h2 j (by omega))
   by_cases e : j = i
   ·subst e
    rw [h2 j (Nat.le_refl _)] at h ⊢
    rw [if_neg h]
   ·exact h1 j (by omega)
theorem impl_unite_ev (p : List Int) (x y : Nat) (hx : x < p.length) (hy : y < p.length) (hp : p.length ≤ 35184372088832) :
  Ev (fun k => impl_unite.f k p (x : Int) (y : Int)) (decide (gd p x ≠ gd p y), uni p x y) := by
 unfold impl_unite.f
 simp only [rdn]
 have key : ∀ a b : Int, a = min (gd p x) (gd p y) → b = max (gd p x) (gd p y) → gd p x ≠ gd p y → Ev (fun k => impl_unite.j0 k p a b) (decide (gd p x ≠ gd p y), uni p x y) := by
  intro a b ha hb hne
  refine Ev.step (fun _ => impl_unite.j0.eq_2 ..) ?_
  refine (impl_unite_loop p a b hp p.length 0 p (by omega) rfl (fun j hj => by omega) (fun j _ => rfl)).to ?_
  simp only [uni, Int.toNat_natCast, ← ha, ← hb]
  simp [hne]
 refine Ev.pos (by omega) (Ev.pos (by omega) (Ev.pos (by omega) (Ev.pos (by omega) (Ev.ite (fun h => ?_) (fun h => Ev.ite (fun h' => ?_) (fun h' => ?_))))))
 ·refine (Ev.now _).to ?_
  have : uni p x y = p := by
   simp only [uni, Int.toNat_natCast, h, Int.max_self, Int.min_self]
   apply ext_gd (by simp)
   intro j hj
   rw [gd_map _ _ (by simpa using hj)]
   split <;> simp_all
  rw [this]
  simp [h]
 ·exact key _ _ (by omega) (by omega) h
 ·exact key _ _ (by omega) (by omega) h
theorem spec_l1Least_eq (a b : Int) : spec_l1Least.f a b = some (min a b) := by
 unfold spec_l1Least.f
 split
 ·congr 1; omega
 ·congr 1; omega
theorem spec_l1Most_eq (a b : Int) : spec_l1Most.f a b = some (max a b) := by
 unfold spec_l1Most.f
 split
 ·congr 1; omega
 ·congr 1; omega
theorem spec_l6Unite_loop (p : List Int) (a b : Int) (hp : p.length < 17592186044416) : ∀ (d i : Nat), i + d = p.length →
  Ev (fun k => spec_l6Unite.l0 k p a b ((p.map fun v => if v = b then a else v).take i) (i : Int)) (p.map fun v => if v = b then a else v) := by
 intro d
 induction d with
 | zero =>
  intro i hi
  refine Ev.step (fun _ => spec_l6Unite.l0.eq_2 ..) (Ev.neg (by omega) ?_)
  rw [List.take_of_length_le (by simp; omega)]
  exact Ev.now _
 | succ d ih =>
  intro i hi
  have hl : ((p.map fun v => if v = b then a else v).take i).length = i := by simp; omega
  refine Ev.step (fun _ => spec_l6Unite.l0.eq_2 ..) ?_
  rw [rdn, w64s (n := p.length) (by omega) (by omega)]
  have e := take_snoc (p.map fun v => if v = b then a else v) (i := i) (by simp; omega)
  rw [gd_map _ _ (by omega)] at e
  refine Ev.pos (by omega) (Ev.pos (by omega) (Ev.ite (fun h => Ev.pos (by omega) ?_) (fun h => Ev.pos (by omega) ?_)))
  ·rw [if_pos h] at e
   rw [e]
   exact ih (i + 1) (by omega)
  ·rw [if_neg h] at e
   rw [e]
   exact ih (i + 1) (by omega)
theorem spec_l6Unite_ev (p : List Int) (x y : Nat) (hx : x < p.length) (hy : y < p.length) (hp : p.length < 17592186044416) :
  Ev (fun k => spec_l6Unite.f k p (x : Int) (y : Int)) (uni p x y) := by
 unfold spec_l6Unite.f
 simp only [rdn, spec_l1Least_eq, spec_l1Most_eq]
 refine Ev.pos (by omega) (Ev.pos (by omega) (Ev.pos (by omega) (Ev.pos (by omega) (Ev.bind1 (Ev.bind1 ?_)))))
 have := spec_l6Unite_loop p (min (gd p x) (gd p y)) (max (gd p x) (gd p y)) hp p.length 0 (by omega)
 rw [List.take_zero] at this
 exact this
theorem impl_clone_eq (l : List Int) (hl : l.length < 17592186044416) : impl_clone.f l = some l := by
 unfold impl_clone.f
 simp [hl]
theorem spec_l1Own_eq (l : List Int) (hl : l.length < 17592186044416) : spec_l1Own.f l = some l := by
 unfold spec_l1Own.f
 simp [hl]
theorem asc_at {n i : Nat} (a : Int) (h : i < n) : gd (asc n a) i = a + i := by simp [asc, gd, List.getD, h]
theorem toIntS_loop (l : List Int) (hl : l.length ≤ 35184372088832) : ∀ (d i : Nat) (x : List Int), i + d = l.length → x.length = l.length → (∀ j, j < i → gd x j = gd l j) → Ev (fun k => laws_toIntS.l0 k l x (i : Int)) l := by
 intro d
 induction d with
 | zero =>
  intro i x hi hx h
  refine Ev.step (fun _ => laws_toIntS.l0.eq_2 ..) ?_
  refine Ev.neg (by omega) ?_
  have : x = l := by
   apply List.ext_getElem hx
   intro j h1 h2
   have := h j (by omega)
   simpa [gd, List.getD, h1, h2] using this
  subst this
  exact Ev.now _
 | succ d ih =>
  intro i x hi hx h
  refine Ev.step (fun _ => laws_toIntS.l0.eq_2 ..) ?_
  refine Ev.pos (by omega) ?_
  refine Ev.pos (by omega) ?_
  refine Ev.pos (by omega) ?_
  rw [w64s (n := l.length) (by omega) (by omega), rdn, Int.toNat_natCast]
  refine ih (i + 1) _ (by omega) (by simpa using hx) ?_
  intro j hj
  by_cases e : j = i
  ·subst e
   simp [gd, List.getD, show j < x.length by omega]
  ·have := h j (by omega)
   simp only [gd, List.getD] at this ⊢
   rw [List.getElem?_set_ne (by omega)]
   exact this
theorem toIntS_ev (l : List Int) (hl : l.length ≤ 35184372088832) : Ev (fun k => laws_toIntS.f k l) l := by
 unfold laws_toIntS.f
 refine Ev.pos (by omega) ?_
 refine Ev.pos (by omega) ?_
 exact toIntS_loop l hl l.length 0 _ (by omega) (by simp) (fun j hj => by omega)
theorem eqIntS_loop (a b : List Int) (hb : b.length = a.length) (hl : a.length ≤ 35184372088832) : ∀ (d i : Nat), i + d = a.length → Ev (fun k => laws_eqIntS.l0 k a b (i : Int)) (decide (a.drop i = b.drop i)) := by
 intro d
 induction d with
 | zero =>
  intro i hi
  refine Ev.step (fun _ => laws_eqIntS.l0.eq_2 ..) ?_
  refine Ev.neg (by omega) ?_
  refine (Ev.now _).to ?_
  rw [List.drop_of_length_le (by omega), List.drop_of_length_le (by omega)]
  simp
 | succ d ih =>
  intro i hi
  refine Ev.step (fun _ => laws_eqIntS.l0.eq_2 ..) ?_
  refine Ev.pos (by omega) ?_
  refine Ev.pos (by omega) ?_
  refine Ev.pos (by omega) ?_
  rw [w64s (n := a.length) (by omega) (by omega), rdn, rdn]
  have e1 : a.drop i = gd a i :: a.drop (i + 1) := by rw [gd_lt (by omega)]; exact List.drop_eq_getElem_cons (by omega)
  have e2 : b.drop i = gd b i :: b.drop (i + 1) := by rw [gd_lt (by omega)]; exact List.drop_eq_getElem_cons (by omega)
  refine Ev.ite (fun h => ?_) (fun h => ?_)
  ·refine (ih (i + 1) (by omega)).to ?_
   rw [e1, e2, h]
   simp
  ·refine (Ev.now _).to ?_
   rw [e1, e2]
   simp [h]
theorem eqIntS_ev (a b : List Int) (hl : a.length ≤ 35184372088832) : Ev (fun k => laws_eqIntS.f k a b) (decide (a = b)) := by
 unfold laws_eqIntS.f
 refine Ev.ite (fun h => ?_) (fun h => ?_)
 ·exact eqIntS_loop a b (by omega) hl a.length 0 (by omega)
 ·refine (Ev.now _).to ?_
  have : a ≠ b := fun e => h (by rw [e])
  simp [this]
theorem eqIntS_same (a : List Int) (hl : a.length ≤ 35184372088832) : Ev (fun k => laws_eqIntS.f k a a) true := (eqIntS_ev a a hl).to (by simp)
abbrev IOp := S80
abbrev LOp := S77
theorem rdO_n (xs : List IOp) (i : Nat) : rd_T80 xs (i : Int) = xs.getD i z80 := by simp [rd_T80]
theorem rdL_n (xs : List LOp) (i : Nat) : rd_T77 xs (i : Int) = xs.getD i z77 := by simp [rd_T77]
def inB (n x : Int) : Bool := decide (0 ≤ x ∧ x < n)
def powI (n k : Int) : Int := n ^ k.toNat
def opB (n a : Int) (l : List Int) : Bool := decide (0 ≤ a ∧ a ≤ 3) && (decide ((l.length : Int) = powI n a) && l.all (inB n))
def algB (n : Int) (ops : List IOp) : Bool := sizeB n && (decide (ops.length ≤ 4) && ops.all fun x => opB n x.f0 x.f1)
theorem impl_power_ev (n k : Int) (hn : 1 ≤ n ∧ n ≤ 8) (hk : 0 ≤ k ∧ k ≤ 3) : Ev (fun f => impl_power.f f n k) (powI n k) := by
 have h1 : n = 1 ∨ n = 2 ∨ n = 3 ∨ n = 4 ∨ n = 5 ∨ n = 6 ∨ n = 7 ∨ n = 8 := by omega
 have h2 : k = 0 ∨ k = 1 ∨ k = 2 ∨ k = 3 := by omega
 refine Ev.of (fun f => impl_power.mono n k f) (k := 5) ?_
 rcases h1 with rfl | rfl | rfl | rfl | rfl | rfl | rfl | rfl <;> rcases h2 with rfl | rfl | rfl | rfl <;> decide +kernel
theorem spec_l2Pow_ev (n k : Int) (hn : 1 ≤ n ∧ n ≤ 8) (hk : 0 ≤ k ∧ k ≤ 3) : Ev (fun f => spec_l2Pow.f f n k) (powI n k) := by
 have h1 : n = 1 ∨ n = 2 ∨ n = 3 ∨ n = 4 ∨ n = 5 ∨ n = 6 ∨ n = 7 ∨ n = 8 := by omega
 have h2 : k = 0 ∨ k = 1 ∨ k = 2 ∨ k = 3 := by omega
 refine Ev.of (fun f => spec_l2Pow.mono n k f) (k := 5) ?_
 rcases h1 with rfl | rfl | rfl | rfl | rfl | rfl | rfl | rfl <;> rcases h2 with rfl | rfl | rfl | rfl <;> decide +kernel
theorem impl_inSize_ev (l : List Int) (n : Int) (hl : l.length ≤ 35184372088832) : Ev (fun k => impl_inSize.f k l n) (l.all (inB n)) := by
 unfold impl_inSize.f
 refine all_loop l 0 (inB n) (fun k i => impl_inSize.l0 k n l (l.length : Int) i) ?_ ?_ ?_ l.length 0 (by omega)
 ·exact Ev.step (fun _ => impl_inSize.l0.eq_2 ..) (Ev.neg (by omega) (Ev.now _))
 ·intro i r hi hp h
  have hp' := of_decide_eq_true hp
  refine Ev.step (fun _ => impl_inSize.l0.eq_2 ..) ?_
  rw [w64s (n := l.length) (by omega) (by omega), rdn]
  change 0 ≤ gd l i ∧ gd l i < n at hp'
  exact Ev.pos (by omega) (Ev.pos (by omega) (Ev.pos (by omega) (Ev.neg (by omega) (Ev.neg (by omega) h))))
 ·intro i hi hp
  have hp' := of_decide_eq_false hp
  change ¬ (0 ≤ gd l i ∧ gd l i < n) at hp'
  refine Ev.step (fun _ => impl_inSize.l0.eq_2 ..) ?_
  rw [rdn]
  refine Ev.pos (by omega) (Ev.pos (by omega) (Ev.pos (by omega) (Ev.ite (fun _ => Ev.now _) (fun h1 => Ev.pos (by omega) (Ev.now _)))))
theorem impl_isOp_ev (n a : Int) (l : List Int) (hn : sizeB n = true) (hl : l.length ≤ 35184372088832) : Ev (fun k => impl_isOp.f k a l n) (opB n a l) := by
 have hn' := of_decide_eq_true hn
 unfold impl_isOp.f opB
 refine Ev.ite (fun h1 => Ev.ite (fun h2 => ?_) (fun h2 => (Ev.now _).to ?_)) (fun h1 => (Ev.now _).to ?_)
 ·refine (impl_power_ev n a hn' ⟨by omega, by omega⟩).bind (Ev.ite (fun h3 => ?_) (fun h3 => (Ev.now _).to ?_))
  ·refine (impl_inSize_ev l n hl).bind ((Ev.now _).to ?_)
   rw [decide_eq_true (show 0 ≤ a ∧ a ≤ 3 by omega), decide_eq_true h3]
   simp
  ·rw [decide_eq_false h3]
   simp
 ·rw [decide_eq_false (show ¬ (0 ≤ a ∧ a ≤ 3) by omega)]
  simp
 ·rw [decide_eq_false (show ¬ (0 ≤ a ∧ a ≤ 3) by omega)]
  simp
theorem spec_l2Op_ev (n a : Int) (l : List Int) (hn : sizeB n = true) (hl : l.length ≤ 35184372088832) : Ev (fun k => spec_l2Op.f k n a l) (opB n a l) := by
 have hn' := of_decide_eq_true hn
 have loop : Ev (fun k => spec_l2Op.l0 k n 0 a l) (l.all (inB n)) := by
  refine all_loop l 0 (inB n) (fun k i => spec_l2Op.l0 k n i a l) ?_ ?_ ?_ l.length 0 (by omega)
  ·exact Ev.step (fun _ => spec_l2Op.l0.eq_2 ..) (Ev.neg (by omega) (Ev.now _))
  ·intro i r hi hp h
   have hp' := of_decide_eq_true hp
   change 0 ≤ gd l i ∧ gd l i < n at hp'
   refine Ev.step (fun _ => spec_l2Op.l0.eq_2 ..) ?_
   rw [w64s (n := l.length) (by omega) (by omega), rdn, spec_l1In_eq, w64 (by omega) (by omega)]
   refine Ev.pos (by omega) (Ev.pos (by omega) (Ev.bind1 (Ev.pos (decide_eq_true (by omega)) h)))
  ·intro i hi hp
   have hp' := of_decide_eq_false hp
   change ¬ (0 ≤ gd l i ∧ gd l i < n) at hp'
   refine Ev.step (fun _ => spec_l2Op.l0.eq_2 ..) ?_
   rw [rdn, spec_l1In_eq, w64 (by omega) (by omega)]
   refine Ev.pos (by omega) (Ev.pos (by omega) (Ev.bind1 (Ev.neg (by rw [decide_eq_true_eq]; omega) (Ev.now _))))
 unfold spec_l2Op.f opB
 rw [spec_l1In_eq]
 refine Ev.bind1 (Ev.ite (fun h1 => ?_) (fun h1 => ?_))
 ·have h1' := of_decide_eq_true h1
  refine (spec_l2Pow_ev n a hn' h1').bind ?_
  refine Ev.step (fun _ => spec_l2Op.j0.eq_2 ..) (Ev.ite (fun h2 => (Ev.now _).to ?_) (fun h2 => loop.to ?_))
  ·have : ¬ ((l.length : Int) = powI n a) := by simpa using h2
   simp [this]
  ·have : (l.length : Int) = powI n a := by simpa using h2
   rw [decide_eq_true h1', decide_eq_true this]
   simp
 ·refine Ev.step (fun _ => spec_l2Op.j0.eq_2 ..) (Ev.pos rfl ((Ev.now _).to ?_))
  simp at h1 ⊢
  omega
def fitO (ops : List IOp) : Prop := ops.length ≤ 8796093022208 ∧ ∀ x ∈ ops, x.f1.length ≤ 1048576
theorem fitO_at {ops : List IOp} (h : fitO ops) {i : Nat} (hi : i < ops.length) : (ops.getD i z80).f1.length ≤ 1048576 := by
 refine h.2 _ ?_
 rw [List.getD_eq_getElem?_getD, List.getElem?_eq_getElem hi]
 exact List.getElem_mem hi
theorem impl_IsAlgebra_ev (n : Int) (ops : List IOp) (hf : fitO ops) : Ev (fun k => impl_IsAlgebra.f k n ops) (algB n ops) := by
 have hl := hf.1
 have loop : sizeB n = true → Ev (fun k => impl_IsAlgebra.l0 k ops (ops.length : Int) 0 n ops) (ops.all fun x => opB n x.f0 x.f1) := by
  intro hn
  refine all_loop ops z80 (fun x => opB n x.f0 x.f1) (fun k i => impl_IsAlgebra.l0 k ops (ops.length : Int) i n ops) ?_ ?_ ?_ ops.length 0 (by omega)
  ·exact Ev.step (fun _ => impl_IsAlgebra.l0.eq_2 ..) (Ev.neg (by omega) (Ev.now _))
  ·intro i r hi hp h
   refine Ev.step (fun _ => impl_IsAlgebra.l0.eq_2 ..) ?_
   rw [w64s (n := ops.length) (by omega) (by omega), rdO_n]
   have he := impl_isOp_ev n (ops.getD i z80).f0 (ops.getD i z80).f1 hn (by have := fitO_at hf hi; omega)
   rw [hp] at he
   exact Ev.pos (by omega) (Ev.pos (by omega) (Ev.pos (by omega) (he.bind (Ev.pos rfl h))))
  ·intro i hi hp
   refine Ev.step (fun _ => impl_IsAlgebra.l0.eq_2 ..) ?_
   rw [rdO_n]
   have he := impl_isOp_ev n (ops.getD i z80).f0 (ops.getD i z80).f1 hn (by have := fitO_at hf hi; omega)
   rw [hp] at he
   exact Ev.pos (by omega) (Ev.pos (by omega) (Ev.pos (by omega) (he.bind (Ev.neg (by decide) (Ev.now _)))))
 unfold impl_IsAlgebra.f
 have no : sizeB n = false → algB n ops = false := fun h => by simp [algB, h]
 refine Ev.ite (fun h => ?_) (fun h => Ev.ite (fun h' => ?_) (fun h' => ?_))
 ·exact Ev.step (fun _ => impl_IsAlgebra.j0.eq_2 ..) (Ev.pos rfl ((Ev.now _).to (no (decide_eq_false (by omega))).symm))
 ·exact Ev.step (fun _ => impl_IsAlgebra.j0.eq_2 ..) (Ev.pos rfl ((Ev.now _).to (no (decide_eq_false (by omega))).symm))
 ·have hn : sizeB n = true := decide_eq_true (by omega)
  refine Ev.step (fun _ => impl_IsAlgebra.j0.eq_2 ..) (Ev.ite (fun h2 => (Ev.now _).to ?_) (fun h2 => (loop hn).to ?_))
  ·have := of_decide_eq_true h2
   simp [algB, show ¬ ops.length ≤ 4 by omega]
  ·have : ops.length ≤ 4 := by simp at h2; omega
   simp [algB, hn, this]
theorem spec_l2Good_ev (n : Int) (ops : List IOp) (hf : fitO ops) : Ev (fun k => spec_l2Good.f k n ops) (algB n ops) := by
 have hl := hf.1
 have loop : sizeB n = true → Ev (fun k => spec_l2Good.l0 k 0 n ops) (ops.all fun x => opB n x.f0 x.f1) := by
  intro hn
  refine all_loop ops z80 (fun x => opB n x.f0 x.f1) (fun k i => spec_l2Good.l0 k i n ops) ?_ ?_ ?_ ops.length 0 (by omega)
  ·exact Ev.step (fun _ => spec_l2Good.l0.eq_2 ..) (Ev.neg (by omega) (Ev.now _))
  ·intro i r hi hp h
   refine Ev.step (fun _ => spec_l2Good.l0.eq_2 ..) ?_
   rw [w64s (n := ops.length) (by omega) (by omega), rdO_n]
   have he := spec_l2Op_ev n (ops.getD i z80).f0 (ops.getD i z80).f1 hn (by have := fitO_at hf hi; omega)
   rw [hp] at he
   exact Ev.pos (by omega) (Ev.pos (by omega) (he.bind (Ev.pos rfl h)))
  ·intro i hi hp
   refine Ev.step (fun _ => spec_l2Good.l0.eq_2 ..) ?_
   rw [rdO_n]
   have he := spec_l2Op_ev n (ops.getD i z80).f0 (ops.getD i z80).f1 hn (by have := fitO_at hf hi; omega)
   rw [hp] at he
   exact Ev.pos (by omega) (Ev.pos (by omega) (he.bind (Ev.neg (by decide) (Ev.now _))))
 unfold spec_l2Good.f
 rw [spec_l1In_eq]
 refine Ev.bind1 (Ev.ite (fun h => ?_) (fun h => ?_))
 ·refine Ev.step (fun _ => spec_l2Good.j0.eq_2 ..) (Ev.ite (fun h2 => (Ev.now _).to ?_) (fun h2 => (loop h).to ?_))
  ·have := of_decide_eq_true h2
   simp [algB, show ¬ ops.length ≤ 4 by omega]
  ·have : ops.length ≤ 4 := by simp at h2; omega
   have h' : sizeB n = true := h
   simp [algB, h', this]
 ·refine Ev.step (fun _ => spec_l2Good.j0.eq_2 ..) (Ev.pos rfl ((Ev.now _).to ?_))
  have h' : sizeB n = false := by simpa [sizeB] using h
  simp [algB, h']
def argsM (n : Int) : Nat → Int → List Int
 | 0, _ => []
 | k + 1, i => argsM n k (i / n) ++ [i % n]
def valM (n : Int) (l : List Int) : Int := l.foldl (fun at_ x => at_ * n + x) 0
theorem argsM_length (n : Int) : ∀ (k : Nat) (i : Int), (argsM n k i).length = k := by
 intro k
 induction k with
 | zero => intro i; rfl
 | succ k ih => intro i; simp [argsM, ih]
theorem argsM_in {n : Int} (hn : 1 ≤ n) : ∀ (k : Nat) (i : Int), 0 ≤ i → ∀ x ∈ argsM n k i, 0 ≤ x ∧ x < n := by
 intro k
 induction k with
 | zero => intro i _ x hx; simp [argsM] at hx
 | succ k ih =>
  intro i hi x hx
  simp only [argsM, List.mem_append, List.mem_singleton] at hx
  rcases hx with hx | rfl
  ·exact ih _ (Int.ediv_nonneg hi (by omega)) x hx
  ·exact ⟨Int.emod_nonneg _ (by omega), Int.emod_lt_of_pos _ (by omega)⟩
theorem valM_snoc (n : Int) (l : List Int) (x : Int) : valM n (l ++ [x]) = valM n l * n + x := by simp [valM]
theorem rev_ind {α : Type} {P : List α → Prop} (h0 : P []) (h1 : ∀ l x, P l → P (l ++ [x])) (l : List α) : P l := by
 have key : ∀ (n : Nat) (l : List α), l.length = n → P l := by
  intro n
  induction n with
  | zero =>
   intro l hl
   have : l = [] := List.eq_nil_of_length_eq_zero hl
   subst this
   exact h0
  | succ n ih =>
   intro l hl
   have hne : l ≠ [] := fun h => by subst h; simp at hl
   rw [← List.dropLast_concat_getLast hne]
   exact h1 _ _ (ih _ (by simp [hl]))
 exact key l.length l rfl
theorem valM_in {n : Int} (hn : 1 ≤ n) (l : List Int) : (∀ x ∈ l, 0 ≤ x ∧ x < n) → 0 ≤ valM n l ∧ valM n l < n ^ l.length := by
 induction l using rev_ind with
 | h0 => intro _; simp [valM]
 | h1 l x ih =>
  intro h
  obtain ⟨h1, h2⟩ := ih (fun y hy => h y (by simp [hy]))
  obtain ⟨h3, h4⟩ := h x (by simp)
  rw [valM_snoc, List.length_append, List.length_singleton, Int.pow_succ]
  have h5 : 0 ≤ valM n l * n := Int.mul_nonneg h1 (by omega)
  have h6 : (valM n l + 1) * n ≤ n ^ l.length * n := Int.mul_le_mul_of_nonneg_right (by omega) (by omega)
  rw [Int.add_mul] at h6
  omega
theorem valM_args {n : Int} (hn : 1 ≤ n) : ∀ (k : Nat) (i : Int), 0 ≤ i → i < n ^ k → valM n (argsM n k i) = i := by
 intro k
 induction k with
 | zero => intro i h0 h1; simp at h1; simp [valM, argsM]; omega
 | succ k ih =>
  intro i h0 h1
  rw [argsM, valM_snoc, ih (i / n) (Int.ediv_nonneg h0 (by omega)) (Int.ediv_lt_of_lt_mul (by omega) (by rw [Int.pow_succ] at h1; exact h1))]
  rw [Int.mul_comm]
  exact Int.mul_ediv_add_emod i n
theorem div_in {i n : Int} (h0 : 0 ≤ i) (hi : i ≤ 1152921504606846976) (hn : 1 ≤ n) : wrap64 (Int.tdiv i n) = i / n ∧ 0 ≤ i / n ∧ i / n ≤ i := by
 have h1 : Int.tdiv i n = i / n := Int.tdiv_eq_ediv_of_nonneg h0
 have h2 : 0 ≤ i / n := Int.ediv_nonneg h0 (by omega)
 have h3 : i / n ≤ i := Int.ediv_le_self n h0
 exact ⟨by rw [h1, w64 (by omega) (by omega)], h2, h3⟩
theorem spec_l2Args_loop (n : Int) (hn : 1 ≤ n) (k : Nat) (hk : k ≤ 8796093022208) : ∀ (j : Nat) (i : Int) (x : List Int), j ≤ k → x.length = k → 0 ≤ i → i ≤ 1152921504606846976 → Ev (fun f => spec_l2Args.l0 f n i x ((j : Int) - 1)) (argsM n j i ++ x.drop j) := by
 intro j
 induction j with
 | zero =>
  intro i x _ _ _ _
  exact Ev.step (fun _ => spec_l2Args.l0.eq_2 ..) (Ev.neg (by omega) (Ev.now _))
 | succ j ih =>
  intro i x hj hx h0 hi
  obtain ⟨e1, e2, e3⟩ := div_in h0 hi hn
  refine Ev.step (fun _ => spec_l2Args.l0.eq_2 ..) (Ev.pos (by omega) (Ev.neg (by omega) (Ev.pos (by omega) (Ev.pos (by omega) ?_))))
  rw [e1, Int.tmod_eq_emod_of_nonneg h0, show (((j + 1 : Nat) : Int) - 1).toNat = j by omega, w64 (x := ((j + 1 : Nat) : Int) - 1 - 1) (by omega) (by omega), show (((j + 1 : Nat) : Int) - 1 - 1) = (j : Int) - 1 by omega]
  refine (ih (i / n) (x.set j (i % n)) (by omega) (by simpa using hx) e2 (by omega)).to ?_
  rw [argsM, List.append_assoc]
  congr 1
  rw [List.drop_eq_getElem_cons (by simp; omega), List.drop_set_of_lt (by omega)]
  simp
theorem spec_l2Args_ev (n : Int) (k : Nat) (i : Int) (hn : 1 ≤ n) (hk : k ≤ 3) (h0 : 0 ≤ i) (hi : i ≤ 1152921504606846976) : Ev (fun f => spec_l2Args.f f n (k : Int) i) (argsM n k i) := by
 unfold spec_l2Args.f
 refine Ev.pos (by omega) (Ev.pos (by omega) ?_)
 rw [w64 (by omega) (by omega)]
 exact (spec_l2Args_loop n hn k (by omega) k i _ (Nat.le_refl _) (by simp) h0 hi).to (by simp)
theorem grow_in {n a x : Int} (hn : 1 ≤ n ∧ n ≤ 8) (ha : 0 ≤ a ∧ a ≤ 1048576) (hx : 0 ≤ x ∧ x < n) : wrap64 (wrap64 (a * n) + x) = a * n + x := by
 have h1 : 0 ≤ a * n := Int.mul_nonneg ha.1 (by omega)
 have h2 : a * n ≤ 1048576 * 8 := Int.mul_le_mul ha.2 hn.2 (by omega) (by omega)
 rw [w64 (x := a * n) (by omega) (by omega), w64 (by omega) (by omega)]
theorem pow_le3 {n : Int} (hn : 1 ≤ n ∧ n ≤ 8) {k : Nat} (hk : k ≤ 3) : n ^ k ≤ 512 := by
 have h1 : n = 1 ∨ n = 2 ∨ n = 3 ∨ n = 4 ∨ n = 5 ∨ n = 6 ∨ n = 7 ∨ n = 8 := by omega
 have h2 : k = 0 ∨ k = 1 ∨ k = 2 ∨ k = 3 := by omega
 rcases h1 with rfl | rfl | rfl | rfl | rfl | rfl | rfl | rfl <;> rcases h2 with rfl | rfl | rfl | rfl <;> decide
theorem spec_l2Value_loop (n : Int) (ops : List IOp) (op : Nat) (args : List Int) (hn : 1 ≤ n ∧ n ≤ 8) (hop : op < ops.length) (ha : ∀ x ∈ args, 0 ≤ x ∧ x < n) (hl : args.length ≤ 3) (ht : n ^ args.length ≤ ((ops.getD op z80).f1.length : Int)) :
  ∀ (d i : Nat), i + d = args.length → Ev (fun k => spec_l2Value.l0 k (op : Int) args (valM n (args.take i)) (i : Int) n ops) (gd (ops.getD op z80).f1 (valM n args).toNat) := by
 have hv := valM_in hn.1 args ha
 intro d
 induction d with
 | zero =>
  intro i hi
  refine Ev.step (fun _ => spec_l2Value.l0.eq_2 ..) (Ev.neg (by omega) ?_)
  rw [List.take_of_length_le (by omega), rdO_n]
  exact Ev.pos (by omega) (Ev.pos (by omega) (Ev.pos hv.1 (Ev.pos (by omega) (Ev.now _))))
 | succ d ih =>
  intro i hi
  have hx := ha (gd args i) (by rw [gd_lt (by omega)]; exact List.getElem_mem _)
  have hvi := valM_in hn.1 (args.take i) (fun x h => ha x (List.mem_of_mem_take h))
  have h512 := pow_le3 hn (k := (args.take i).length) (by simp; omega)
  refine Ev.step (fun _ => spec_l2Value.l0.eq_2 ..) (Ev.pos (by omega) (Ev.pos (by omega) ?_))
  rw [rdn, grow_in hn ⟨hvi.1, by omega⟩ hx, w64s (n := args.length) (by omega) (by omega), ← valM_snoc, take_snoc _ (by omega)]
  exact ih (i + 1) (by omega)
theorem spec_l2Value_ev (n : Int) (ops : List IOp) (op : Nat) (args : List Int) (hn : 1 ≤ n ∧ n ≤ 8) (hop : op < ops.length) (ha : ∀ x ∈ args, 0 ≤ x ∧ x < n) (hl : args.length ≤ 3) (ht : n ^ args.length ≤ ((ops.getD op z80).f1.length : Int)) :
  Ev (fun k => spec_l2Value.f k n ops (op : Int) args) (gd (ops.getD op z80).f1 (valM n args).toNat) := by
 unfold spec_l2Value.f
 exact spec_l2Value_loop n ops op args hn hop ha hl ht args.length 0 (by omega)
theorem algB_size {n : Int} {ops : List IOp} (h : algB n ops = true) : 1 ≤ n ∧ n ≤ 8 := by
 simp [algB] at h
 exact of_decide_eq_true h.1
theorem algB_few {n : Int} {ops : List IOp} (h : algB n ops = true) : ops.length ≤ 4 := by
 simp [algB] at h
 exact h.2.1
theorem algB_op {n : Int} {ops : List IOp} (h : algB n ops = true) {i : Nat} (hi : i < ops.length) : opB n (ops.getD i z80).f0 (ops.getD i z80).f1 = true := by
 simp [algB] at h
 have := h.2.2 (ops.getD i z80) (by rw [List.getD_eq_getElem?_getD, List.getElem?_eq_getElem hi]; exact List.getElem_mem hi)
 exact this
theorem opB_of {n a : Int} {l : List Int} (h : opB n a l = true) : ∃ k : Nat, a = k ∧ k ≤ 3 ∧ (l.length : Int) = n ^ k ∧ ∀ x ∈ l, 0 ≤ x ∧ x < n := by
 simp only [opB, Bool.and_eq_true, decide_eq_true_eq, List.all_eq_true, inB] at h
 refine ⟨a.toNat, by omega, by omega, h.2.1, h.2.2⟩
def conv (l : List LOp) : List IOp := l.map fun x => ⟨x.f0, x.f1⟩
theorem conv_length (l : List LOp) : (conv l).length = l.length := by simp [conv]
theorem laws_szIntS_eq (l : List Int) (t : Int) (hl : l.length ≤ maxLen) (ht : 0 ≤ t ∧ t ≤ 1048576) : ∃ r, laws_szIntS.f l t = some r ∧ -1 ≤ r ∧ (0 ≤ r → r = t - l.length) ∧ (r < 0 → t < (l.length : Int)) := by
 unfold maxLen at hl
 unfold laws_szIntS.f
 rw [w64 (by omega) (by omega)]
 split
 ·exact ⟨-1, rfl, by omega, by omega, by omega⟩
 ·exact ⟨_, rfl, by omega, by omega, by omega⟩
theorem laws_szOp_eq (a : Int) (l : List Int) (t : Int) (hl : l.length ≤ maxLen) (ht : 0 ≤ t ∧ t ≤ 1048576) : ∃ r, laws_szOp.f a l t = some r ∧ -1 ≤ r ∧ (0 ≤ r → r = t - l.length) ∧ (r < 0 → t < (l.length : Int)) := by
 obtain ⟨r, hr, h1, h2, h3⟩ := laws_szIntS_eq l t hl ht
 unfold laws_szOp.f
 rw [hr]
 simp only [Option.bind_some]
 split
 ·exact ⟨-1, rfl, by omega, by omega, fun _ => h3 (by omega)⟩
 ·exact ⟨r, rfl, h1, h2, h3⟩
theorem laws_szOpS_loop (l : List LOp) (hl : l.length ≤ 1048576) (hg : ∀ x ∈ l, x.f1.length ≤ maxLen) : ∀ (d i : Nat) (t : Int), i + d = l.length → 0 ≤ t ∧ t ≤ 1048576 →
  ∃ r, Ev (fun k => laws_szOpS.l0 k l t (i : Int)) r ∧ -1 ≤ r ∧ r ≤ t ∧ (0 ≤ r → ∀ x ∈ l.drop i, (x.f1.length : Int) ≤ t) := by
 intro d
 induction d with
 | zero =>
  intro i t hi ht
  refine ⟨t, Ev.step (fun _ => laws_szOpS.l0.eq_2 ..) (Ev.neg (by omega) (Ev.now _)), by omega, by omega, fun _ x hx => ?_⟩
  rw [List.drop_of_length_le (by omega)] at hx
  simp at hx
 | succ d ih =>
  intro i t hi ht
  have hm : l.getD i z77 ∈ l := by
   rw [List.getD_eq_getElem?_getD, List.getElem?_eq_getElem (by omega)]
   exact List.getElem_mem _
  obtain ⟨r, hr, h1, h2, h3⟩ := laws_szOp_eq (l.getD i z77).f0 (l.getD i z77).f1 t (hg _ hm) ht
  by_cases hn : r < 0
  ·refine ⟨-1, Ev.step (fun _ => laws_szOpS.l0.eq_2 ..) ?_, by omega, by omega, by omega⟩
   rw [rdL_n, hr]
   exact Ev.pos (by omega) (Ev.pos (by omega) (Ev.bind1 (Ev.pos hn (Ev.now _))))
  ·have he := h2 (by omega)
   obtain ⟨q, hq, h4, h5, h6⟩ := ih (i + 1) r (by omega) (by omega)
   refine ⟨q, Ev.step (fun _ => laws_szOpS.l0.eq_2 ..) ?_, h4, by omega, fun h0 x hx => ?_⟩
   ·rw [rdL_n, hr, w64s (n := l.length) (by omega) (by omega)]
    exact Ev.pos (by omega) (Ev.pos (by omega) (Ev.bind1 (Ev.neg hn hq)))
   ·rw [drop_cons l z77 (by omega), List.mem_cons] at hx
    rcases hx with rfl | hx
    ·omega
    ·have := h6 h0 x hx
     omega
theorem laws_szOpS_ev (l : List LOp) (t : Int) (hl : l.length ≤ maxLen) (hg : ∀ x ∈ l, x.f1.length ≤ maxLen) (ht : 0 ≤ t ∧ t ≤ 1048576) :
  ∃ r, Ev (fun k => laws_szOpS.f k l t) r ∧ -1 ≤ r ∧ r ≤ t ∧ (0 ≤ r → (l.length : Int) ≤ t ∧ ∀ x ∈ l, (x.f1.length : Int) ≤ t) := by
 unfold maxLen at hl
 by_cases h : t - (l.length : Int) < 0
 ·refine ⟨-1, ?_, by omega, by omega, by omega⟩
  unfold laws_szOpS.f
  rw [w64 (by omega) (by omega)]
  exact Ev.pos h (Ev.now _)
 ·obtain ⟨r, h1, h2, h3, h4⟩ := laws_szOpS_loop l (by omega) hg l.length 0 (t - l.length) (by omega) (by omega)
  refine ⟨r, ?_, h2, by omega, fun h0 => ⟨by omega, fun x hx => ?_⟩⟩
  ·unfold laws_szOpS.f
   rw [w64 (by omega) (by omega)]
   exact Ev.neg h h1
  ·have := h4 h0 x (by simpa using hx)
   omega
theorem laws_szAlgebra_ev (s : Int) (l : List LOp) (t : Int) (hl : l.length ≤ maxLen) (hg : ∀ x ∈ l, x.f1.length ≤ maxLen) (ht : 0 ≤ t ∧ t ≤ 1048576) :
  ∃ r, Ev (fun k => laws_szAlgebra.f k s l t) r ∧ -1 ≤ r ∧ r ≤ t ∧ (0 ≤ r → (l.length : Int) ≤ t ∧ ∀ x ∈ l, (x.f1.length : Int) ≤ t) := by
 obtain ⟨r, h1, h2, h3, h4⟩ := laws_szOpS_ev l t hl hg ht
 unfold laws_szAlgebra.f
 by_cases h : r < 0
 ·exact ⟨-1, h1.bind (Ev.pos h (Ev.now _)), by omega, by omega, by omega⟩
 ·exact ⟨r, h1.bind (Ev.neg h (Ev.now _)), h2, h3, h4⟩
theorem laws_toOp_ev (a : Int) (l : List Int) (hl : l.length ≤ 35184372088832) : Ev (fun k => laws_toOp.f k a l) (a, l) := by
 unfold laws_toOp.f
 exact (toIntS_ev l hl).bind (Ev.now _)
theorem laws_toOpS_ev (l : List LOp) (hl : l.length ≤ 8796093022208) (hg : ∀ x ∈ l, x.f1.length ≤ 35184372088832) : Ev (fun k => laws_toOpS.f k l) (conv l) := by
 unfold laws_toOpS.f
 refine Ev.pos (by omega) (Ev.pos (by omega) ?_)
 refine set_loop l z77 (fun x : LOp => (⟨x.f0, x.f1⟩ : IOp)) (fun k out i => laws_toOpS.l0 k l out i) (conv l) ?_ ?_ l.length 0 _ (by omega) (by simp) (fun j hj => by omega)
 ·exact Ev.step (fun _ => laws_toOpS.l0.eq_2 ..) (Ev.neg (by omega) (Ev.now _))
 ·intro i out hi ho h
  have hm : l.getD i z77 ∈ l := by
   rw [List.getD_eq_getElem?_getD, List.getElem?_eq_getElem (by omega)]
   exact List.getElem_mem _
  refine Ev.step (fun _ => laws_toOpS.l0.eq_2 ..) ?_
  rw [rdL_n, w64s (n := l.length) (by omega) (by omega), Int.toNat_natCast]
  exact Ev.pos (by omega) (Ev.pos (by omega) ((laws_toOp_ev _ _ (hg _ hm)).bind (Ev.pos (by omega) h)))
theorem laws_toAlgebra_ev (s : Int) (l : List LOp) (hl : l.length ≤ 8796093022208) (hg : ∀ x ∈ l, x.f1.length ≤ 35184372088832) : Ev (fun k => laws_toAlgebra.f k s l) (s, conv l) := by
 unfold laws_toAlgebra.f
 exact (laws_toOpS_ev l hl hg).bind (Ev.now _)
theorem laws_eqOp_same (a : Int) (l : List Int) (hl : l.length ≤ 35184372088832) : Ev (fun k => laws_eqOp.f k a l a l) true := by
 unfold laws_eqOp.f
 exact Ev.pos rfl ((eqIntS_same l hl).bind (Ev.pos rfl (Ev.now _)))
theorem laws_eqOpS_same (l : List IOp) (hf : fitO l) : Ev (fun k => laws_eqOpS.f k l l) true := by
 have hl := hf.1
 unfold laws_eqOpS.f
 refine Ev.pos rfl ?_
 have : Ev (fun k => laws_eqOpS.l0 k l l ((0 : Nat) : Int)) ((l.drop 0).all fun _ => true) := by
  refine all_loop l z80 (fun _ => true) (fun k i => laws_eqOpS.l0 k l l i) ?_ ?_ ?_ l.length 0 (by omega)
  ·exact Ev.step (fun _ => laws_eqOpS.l0.eq_2 ..) (Ev.neg (by omega) (Ev.now _))
  ·intro i r hi _ h
   refine Ev.step (fun _ => laws_eqOpS.l0.eq_2 ..) ?_
   rw [rdO_n, w64s (n := l.length) (by omega) (by omega)]
   exact Ev.pos (by omega) (Ev.pos (by omega) (Ev.pos (by omega) ((laws_eqOp_same _ _ (by have := fitO_at hf hi; omega)).bind (Ev.pos rfl h))))
  ·intro i hi hp
   simp at hp
 exact this.to (by rw [List.all_eq_true]; intro x _; rfl)
theorem laws_eqAlgebra_same (s : Int) (l : List IOp) (hf : fitO l) : Ev (fun k => laws_eqAlgebra.f k s l s l) true := by
 unfold laws_eqAlgebra.f
 exact Ev.pos rfl ((laws_eqOpS_same l hf).bind (Ev.pos rfl (Ev.now _)))
theorem conv_fit (l : List LOp) (hl : l.length ≤ 8796093022208) (hg : ∀ x ∈ l, x.f1.length ≤ 1048576) : fitO (conv l) := by
 refine ⟨by rw [conv_length]; exact hl, fun x hx => ?_⟩
 obtain ⟨y, hy, rfl⟩ := List.mem_map.1 hx
 exact hg y hy
theorem range_at {N i : Nat} (h : i < N) : (List.range N).getD i 0 = i := by simp [List.getD, h]
theorem spec_l1Same_ev (a b : List Int) (ha : a.length ≤ 8796093022208) : Ev (fun k => spec_l1Same.f k a b) (decide (a = b)) := by
 unfold spec_l1Same.f
 refine Ev.ite (fun h => ?_) (fun h => (Ev.now _).to (by rw [eq_comm, decide_eq_false_iff_not]; intro e; exact h (by rw [e])))
 have hl : a.length = b.length := by omega
 have key : Ev (fun k => spec_l1Same.l0 k a b ((0 : Nat) : Int)) (((List.range a.length).drop 0).all fun i => decide (gd a i = gd b i)) := by
  refine all_loop (List.range a.length) 0 (fun i => decide (gd a i = gd b i)) (fun k i => spec_l1Same.l0 k a b i) ?_ ?_ ?_ a.length 0 (by simp)
  ·rw [List.length_range]
   exact Ev.step (fun _ => spec_l1Same.l0.eq_2 ..) (Ev.neg (by omega) (Ev.now _))
  ·intro i r hi hp h
   rw [List.length_range] at hi
   rw [range_at hi] at hp
   refine Ev.step (fun _ => spec_l1Same.l0.eq_2 ..) ?_
   rw [rdn, rdn, w64s (n := a.length) (by omega) (by omega)]
   exact Ev.pos (by omega) (Ev.pos (by omega) (Ev.pos (by omega) (Ev.pos (of_decide_eq_true hp) h)))
  ·intro i hi hp
   rw [List.length_range] at hi
   rw [range_at hi] at hp
   refine Ev.step (fun _ => spec_l1Same.l0.eq_2 ..) ?_
   rw [rdn, rdn]
   exact Ev.pos (by omega) (Ev.pos (by omega) (Ev.pos (by omega) (Ev.neg (of_decide_eq_false hp) (Ev.now _))))
 refine key.to ?_
 rw [Bool.eq_iff_iff, decide_eq_true_iff, List.drop_zero, List.all_eq_true]
 constructor
 ·intro h
  exact ext_gd hl (fun i hi => of_decide_eq_true (h i (List.mem_range.2 hi)))
 ·intro h i _
  rw [h, decide_eq_true rfl]
theorem rdi (l : List Int) {i : Int} (h : 0 ≤ i) : rd l i = gd l i.toNat := by
 obtain ⟨j, rfl⟩ : ∃ j : Nat, i = (j : Int) := ⟨i.toNat, by omega⟩
 rw [rdn, Int.toNat_natCast]
def ap (p : List Int) (i : Nat) : Nat := (gd p i).toNat
theorem gd_ap {n : Int} {p : List Int} (h : partB n p = true) {i : Nat} (hi : i < p.length) : gd p i = (ap p i : Int) := by
 have := partAt_of h hi
 unfold ap
 omega
theorem ap_le {n : Int} {p : List Int} (h : partB n p = true) {i : Nat} (hi : i < p.length) : ap p i ≤ i := by
 have := partAt_of h hi
 unfold ap
 omega
theorem ap_lt {n : Int} {p : List Int} (h : partB n p = true) {i : Nat} (hi : i < p.length) : ap p i < p.length := by
 have := ap_le h hi
 omega
theorem ap_ap {n : Int} {p : List Int} (h : partB n p = true) {i : Nat} (hi : i < p.length) : ap p (ap p i) = ap p i := by
 have := partAt_of h hi
 unfold ap
 rw [this.2.2]
def finer (p q : List Int) : Prop := ∀ i, i < p.length → ap q (ap p i) = ap q i
theorem finer_refl {n : Int} {p : List Int} (h : partB n p = true) : finer p p := fun i hi => ap_ap h hi
theorem finer_trans {n : Int} {p q r : List Int} (hp : partB n p = true) (hq : partB n q = true) (h : finer p q) (h' : finer q r) : finer p r := fun i hi => by
 have e1 := partB_len hp
 have e2 := partB_len hq
 have h1 := h' (ap p i) (by have := ap_lt hp hi; omega)
 rw [h i hi] at h1
 rw [← h1, h' i (by omega)]
theorem finer_anti {n : Int} {p q : List Int} (hp : partB n p = true) (hq : partB n q = true) (h : finer p q) (h' : finer q p) : p = q := by
 have e1 := partB_len hp
 have e2 := partB_len hq
 apply ext_gd (by omega)
 intro i hi
 rw [gd_ap hp hi, gd_ap hq (by omega)]
 have h1 := h i hi
 have h2 := h' i (by omega)
 have h3 := ap_le hq (i := ap p i) (by have := ap_lt hp hi; omega)
 have h4 := ap_le hp (i := ap q i) (by have := ap_lt hq (i := i) (by omega); omega)
 omega
theorem part_of_ap {n : Int} {p : List Int} (hl : (p.length : Int) = n) (h : ∀ i, i < p.length → 0 ≤ gd p i ∧ ap p i ≤ i ∧ ap p (ap p i) = ap p i) (hg : ∀ i, i < p.length → 0 ≤ gd p i) : partB n p = true := by
 simp only [partB, Bool.and_eq_true, decide_eq_true_eq, List.all_eq_true, List.mem_range'_1]
 refine ⟨hl, fun i hi => ?_⟩
 have hi' : i < p.length := by omega
 obtain ⟨h1, h2, h3⟩ := h i hi'
 have h4 := hg (ap p i) (by omega)
 unfold ap at h2 h3 h4
 simp only [partAt, Bool.and_eq_true, decide_eq_true_eq]
 omega
theorem uni_ap {n : Int} {p : List Int} (h : partB n p = true) {x y i : Nat} (hx : x < p.length) (hy : y < p.length) (hi : i < p.length) : ap (uni p (x : Int) (y : Int)) i = if ap p i = max (ap p x) (ap p y) then min (ap p x) (ap p y) else ap p i := by
 unfold ap uni
 rw [gd_map _ _ hi]
 simp only [Int.toNat_natCast]
 have h1 := gd_ap h hx
 have h2 := gd_ap h hy
 have h3 := gd_ap h hi
 unfold ap at h1 h2 h3
 split <;> split <;> omega
theorem uni_part {n : Int} {p : List Int} (h : partB n p = true) {x y : Nat} (hx : x < p.length) (hy : y < p.length) : partB n (uni p (x : Int) (y : Int)) = true := by
 have hl := partB_len h
 have hpos : ∀ i, i < p.length → 0 ≤ gd (uni p (x : Int) (y : Int)) i := fun i hi => by
  unfold uni
  rw [gd_map _ _ hi]
  simp only [Int.toNat_natCast]
  have h1 := (partAt_of h hx).1
  have h2 := (partAt_of h hy).1
  have h3 := (partAt_of h hi).1
  split <;> omega
 refine part_of_ap (by rw [uni_length]; exact hl) (fun i hi => ?_) (fun i hi => by rw [uni_length] at hi; exact hpos i hi)
 rw [uni_length] at hi
 have a1 := ap_le h hi
 have a2 := ap_ap h hi
 have b1 := ap_lt h hx
 have b2 := ap_lt h hy
 have c1 := ap_ap h hx
 have c2 := ap_ap h hy
 refine ⟨hpos i hi, ?_, ?_⟩
 ·rw [uni_ap h hx hy hi]
  split <;> omega
 ·have hj : ap (uni p (x : Int) (y : Int)) i < p.length := by
   rw [uni_ap h hx hy hi]
   split <;> omega
  rw [uni_ap h hx hy hj]
  generalize hv : ap (uni p (x : Int) (y : Int)) i = v
  rw [uni_ap h hx hy hi] at hv
  have e : v = ap p x ∨ v = ap p y ∨ v = ap p i := by
   split at hv <;> omega
  have e2 : ap p v = v := by
   rcases e with e | e | e <;> rw [e] <;> assumption
  rw [e2]
  split at hv <;> split <;> omega
theorem uni_up {n : Int} {p : List Int} (h : partB n p = true) {x y : Nat} (hx : x < p.length) (hy : y < p.length) : finer p (uni p (x : Int) (y : Int)) := fun i hi => by
 rw [uni_ap h hx hy (ap_lt h hi), uni_ap h hx hy hi, ap_ap h hi]
theorem uni_least {n : Int} {p r : List Int} (h : partB n p = true) {x y : Nat} (hx : x < p.length) (hy : y < p.length) (hr : finer p r) (he : ap r x = ap r y) : finer (uni p (x : Int) (y : Int)) r := fun i hi => by
 rw [uni_length] at hi
 rw [uni_ap h hx hy hi]
 have h1 := hr x hx
 have h2 := hr y hy
 have h3 := hr i hi
 split
 ·rename_i e
  rcases Nat.le_total (ap p x) (ap p y) with hle | hle
  ·rw [Nat.min_eq_left hle, h1, he, ← h2, ← h3, e, Nat.max_eq_right hle]
  ·rw [Nat.min_eq_right hle, h2, ← he, ← h1, ← h3, e, Nat.max_eq_left hle]
 ·exact h3
theorem uni_same {p : List Int} {x y : Nat} (e : gd p x = gd p y) : uni p (x : Int) (y : Int) = p := by
 simp only [uni, Int.toNat_natCast, e, Int.max_self, Int.min_self]
 apply ext_gd (by simp)
 intro j hj
 rw [gd_map _ _ (by simpa using hj)]
 split <;> simp_all
def sm (p : List Int) : Nat := (p.map Int.toNat).sum
theorem sm_le (f : Int → Int) : ∀ p : List Int, (∀ x ∈ p, (f x).toNat ≤ x.toNat) → sm (p.map f) ≤ sm p := by
 intro p
 induction p with
 | nil => intro _; simp [sm]
 | cons x xs ih =>
  intro h
  have h1 := h x (by simp)
  have h2 := ih (fun y hy => h y (by simp [hy]))
  simp only [sm, List.map_cons, List.sum_cons] at h2 ⊢
  omega
theorem sm_lt (f : Int → Int) : ∀ p : List Int, (∀ x ∈ p, (f x).toNat ≤ x.toNat) → (∃ x ∈ p, (f x).toNat < x.toNat) → sm (p.map f) < sm p := by
 intro p
 induction p with
 | nil => rintro _ ⟨x, hx, _⟩; simp at hx
 | cons x xs ih =>
  rintro h ⟨y, hy, hlt⟩
  have h1 := h x (by simp)
  have h2 := sm_le f xs (fun y hy => h y (by simp [hy]))
  simp only [sm, List.map_cons, List.sum_cons] at h2 ⊢
  rcases List.mem_cons.1 hy with rfl | hy
  ·omega
  ·have h3 := ih (fun y hy => h y (by simp [hy])) ⟨y, hy, hlt⟩
   simp only [sm] at h3
   omega
theorem uni_sm {n : Int} {p : List Int} (h : partB n p = true) {x y : Nat} (hx : x < p.length) (hy : y < p.length) (hne : gd p x ≠ gd p y) : sm (uni p (x : Int) (y : Int)) < sm p := by
 have h1 := partAt_of h hx
 have h2 := partAt_of h hy
 refine sm_lt _ p (fun v hv => ?_) ?_
 ·simp only [Int.toNat_natCast]
  split <;> omega
 ·simp only [Int.toNat_natCast]
  rcases Int.le_total (gd p x) (gd p y) with hle | hle
  ·refine ⟨gd p y, ?_, ?_⟩
   ·rw [gd_lt hy]
    exact List.getElem_mem hy
   ·rw [if_pos (by omega)]
    omega
  ·refine ⟨gd p x, ?_, ?_⟩
   ·rw [gd_lt hx]
    exact List.getElem_mem hx
   ·rw [if_pos (by omega)]
    omega
def repl (n st i y : Nat) : Nat := (i / st / n * n + y) * st + i % st
def digit (n st i : Nat) : Nat := i / st % n
theorem repl_self {n st i : Nat} : repl n st i (digit n st i) = i := by
 unfold repl digit
 rw [Nat.mul_comm (i / st / n) n, Nat.div_add_mod, Nat.mul_comm, Nat.div_add_mod]
theorem repl_div {n st i y : Nat} (hs : 0 < st) : repl n st i y / st = i / st / n * n + y := by
 unfold repl
 rw [Nat.mul_comm, Nat.mul_add_div hs, Nat.div_eq_of_lt (Nat.mod_lt _ hs), Nat.add_zero]
theorem repl_mod {n st i y : Nat} : repl n st i y % st = i % st := by
 unfold repl
 rw [Nat.mul_add_mod_self_right, Nat.mod_mod]
theorem digit_repl {n st i y : Nat} (hs : 0 < st) (hy : y < n) : digit n st (repl n st i y) = y := by
 unfold digit
 rw [repl_div hs, Nat.mul_add_mod_self_right, Nat.mod_eq_of_lt hy]
theorem repl_repl {n st i y z : Nat} (hs : 0 < st) (hy : y < n) : repl n st (repl n st i y) z = repl n st i z := by
 have h1 : repl n st i y / st / n = i / st / n := by
  rw [repl_div hs, Nat.mul_comm, Nat.mul_add_div (by omega), Nat.div_eq_of_lt hy, Nat.add_zero]
 show (repl n st i y / st / n * n + z) * st + repl n st i y % st = repl n st i z
 rw [h1, repl_mod]
 rfl
theorem repl_lt {n e ar i y : Nat} (hn : 0 < n) (he : e < ar) (hi : i < n ^ ar) (hy : y < n) : repl n (n ^ e) i y < n ^ ar := by
 have hs : 0 < n ^ e := Nat.pow_pos hn
 obtain ⟨d, rfl⟩ : ∃ d, ar = e + (d + 1) := ⟨ar - e - 1, by omega⟩
 have h1 : i / n ^ e < n ^ (d + 1) := Nat.div_lt_of_lt_mul (by rw [← Nat.pow_add]; exact hi)
 have h2 : i / n ^ e / n < n ^ d := Nat.div_lt_of_lt_mul (by rw [Nat.pow_succ] at h1; rw [Nat.mul_comm]; exact h1)
 have h3 : i / n ^ e / n * n + y < n ^ (d + 1) := by
  have : (i / n ^ e / n + 1) * n ≤ n ^ d * n := Nat.mul_le_mul_right n h2
  rw [Nat.pow_succ]
  rw [Nat.add_mul] at this
  omega
 unfold repl
 have h4 := Nat.mod_lt i hs
 have h5 : (i / n ^ e / n * n + y + 1) * n ^ e ≤ n ^ (d + 1) * n ^ e := Nat.mul_le_mul_right _ h3
 rw [Nat.add_mul, Nat.one_mul] at h5
 rw [Nat.pow_add, Nat.mul_comm (n ^ e)]
 omega
def arN (A : List IOp) (o : Nat) : Nat := (A.getD o z80).f0.toNat
def tb (A : List IOp) (o i : Nat) : Nat := ap (A.getD o z80).f1 i
def tlen (A : List IOp) (o : Nat) : Nat := (A.getD o z80).f1.length
theorem op_facts {n : Nat} {A : List IOp} (h : algB n A = true) {o : Nat} (ho : o < A.length) : (A.getD o z80).f0 = (arN A o : Int) ∧ arN A o ≤ 3 ∧ tlen A o = n ^ arN A o ∧ ∀ i, i < tlen A o → gd (A.getD o z80).f1 i = (tb A o i : Int) ∧ tb A o i < n := by
 obtain ⟨k, e1, e2, e3, e4⟩ := opB_of (algB_op h ho)
 have hk : arN A o = k := by unfold arN; omega
 refine ⟨by omega, by omega, ?_, fun i hi => ?_⟩
 ·unfold tlen
  rw [hk]
  have : ((n ^ k : Nat) : Int) = (n : Int) ^ k := by simp
  omega
 ·have hm := e4 (gd (A.getD o z80).f1 i) (by rw [gd_lt hi]; exact List.getElem_mem hi)
  unfold tb ap
  omega
abbrev Pt := Nat × Nat × Nat
def ptsAt (n : Nat) (A : List IOp) : List Pt := (List.range A.length).flatMap fun o => (List.range (arN A o)).flatMap fun e => (List.range (tlen A o)).map fun i => (o, e, i)
def okPt (n : Nat) (A : List IOp) (t : Pt) : Prop := t.1 < A.length ∧ t.2.1 < arN A t.1 ∧ t.2.2 < tlen A t.1
def ptL (A : List IOp) (t : Pt) : Nat := tb A t.1 t.2.2
def ptR (n : Nat) (A : List IOp) (p : List Int) (t : Pt) : Nat := tb A t.1 (repl n (n ^ t.2.1) t.2.2 (ap p (digit n (n ^ t.2.1) t.2.2)))
def cong (n : Nat) (A : List IOp) (p : List Int) : Prop := ∀ t, okPt n A t → ap p (ptL A t) = ap p (ptR n A p t)
theorem digit_lt {n st i : Nat} (hn : 0 < n) : digit n st i < n := Nat.mod_lt _ hn
theorem pt_in {n : Nat} {A : List IOp} (h : algB n A = true) {p : List Int} (hp : partB n p = true) {t : Pt} (ht : okPt n A t) : ptL A t < n ∧ ptR n A p t < n ∧ repl n (n ^ t.2.1) t.2.2 (ap p (digit n (n ^ t.2.1) t.2.2)) < tlen A t.1 := by
 obtain ⟨h1, h2, h3⟩ := ht
 have hn := algB_size h
 have hl := partB_len hp
 obtain ⟨e1, e2, e3, e4⟩ := op_facts h h1
 have hd : ap p (digit n (n ^ t.2.1) t.2.2) < n := by
  have := ap_lt hp (i := digit n (n ^ t.2.1) t.2.2) (by have := digit_lt (n := n) (st := n ^ t.2.1) (i := t.2.2) (by omega); omega)
  omega
 have hr : repl n (n ^ t.2.1) t.2.2 (ap p (digit n (n ^ t.2.1) t.2.2)) < tlen A t.1 := by
  rw [e3]
  exact repl_lt (by omega) h2 (by rw [← e3]; exact h3) hd
 exact ⟨(e4 _ h3).2, (e4 _ hr).2, hr⟩
theorem cong_at {n : Nat} {A : List IOp} (h : algB n A = true) {p r : List Int} (hp : partB n p = true) (hr : partB n r = true) (hc : cong n A r) (hf : finer p r) {t : Pt} (ht : okPt n A t) : ap r (ptL A t) = ap r (ptR n A p t) := by
 have hn := algB_size h
 have hl := partB_len hp
 have hl' := partB_len hr
 obtain ⟨_, _, hi⟩ := pt_in h hp ht
 have hs : 0 < n ^ t.2.1 := Nat.pow_pos (by omega)
 have hdn : digit n (n ^ t.2.1) t.2.2 < n := digit_lt (by omega)
 have hd : ap p (digit n (n ^ t.2.1) t.2.2) < n := by
  have := ap_lt hp (i := digit n (n ^ t.2.1) t.2.2) (by omega)
  omega
 have c1 := hc t ht
 have c2 := hc (t.1, t.2.1, repl n (n ^ t.2.1) t.2.2 (ap p (digit n (n ^ t.2.1) t.2.2))) ⟨ht.1, ht.2.1, hi⟩
 unfold ptL ptR at c1 c2 ⊢
 simp only at c2
 rw [digit_repl hs hd, repl_repl hs hd, hf _ (by omega)] at c2
 rw [c1, c2]
def stepU (n : Nat) (A : List IOp) (q : List Int) (p : List Int) (t : Pt) : List Int := uni p (ptL A t : Int) (ptR n A q t : Int)
structure Under (n : Nat) (A : List IOp) (p0 p : List Int) : Prop where
 part : partB n p = true
 up : finer p0 p
 least : ∀ r, partB n r = true → cong n A r → finer p0 r → finer p r
theorem Under.refl {n : Nat} {A : List IOp} {p : List Int} (h : partB n p = true) : Under n A p p := ⟨h, finer_refl h, fun _ _ _ h => h⟩
theorem Under.step {n : Nat} {A : List IOp} {p0 p q : List Int} (ha : algB n A = true) (h0 : partB n p0 = true) (h : Under n A p0 p) (hq : Under n A p0 q) {t : Pt} (ht : okPt n A t) : Under n A p0 (stepU n A q p t) := by
 have hl := partB_len h.part
 obtain ⟨i1, i2, _⟩ := pt_in ha hq.part ht
 refine ⟨uni_part h.part (by omega) (by omega), finer_trans h0 h.part h.up (uni_up h.part (by omega) (by omega)), fun r hr hc hf => ?_⟩
 exact uni_least h.part (by omega) (by omega) (h.least r hr hc hf) (cong_at ha hq.part hr hc (hq.least r hr hc hf) ht)
def isClose (n : Nat) (A : List IOp) (p0 p : List Int) : Prop := Under n A p0 p ∧ cong n A p
theorem isClose_one {n : Nat} {A : List IOp} {p0 p q : List Int} (h : isClose n A p0 p) (h' : isClose n A p0 q) : p = q :=
 finer_anti h.1.part h'.1.part (h.1.least q h'.1.part h'.2 h'.1.up) (h'.1.least p h.1.part h.2 h.1.up)
theorem isClose_self {n : Nat} {A : List IOp} {p : List Int} (h : partB n p = true) : isClose n A p p ↔ cong n A p := ⟨fun h => h.2, fun hc => ⟨Under.refl h, hc⟩⟩
abbrev CS := Bool × Bool × List Int
def stepI (n : Nat) (A : List IOp) (s : CS) (t : Pt) : CS :=
 (s.1 || decide (gd s.2.2 (ptL A t) ≠ gd s.2.2 (ptR n A s.2.2 t)), s.2.1 || decide (gd s.2.2 (ptL A t) ≠ gd s.2.2 (ptR n A s.2.2 t)), stepU n A s.2.2 s.2.2 t)
theorem stepI_same {n : Nat} {A : List IOp} {s : CS} {t : Pt} (h : gd s.2.2 (ptL A t) = gd s.2.2 (ptR n A s.2.2 t)) : stepI n A s t = s := by
 unfold stepI stepU
 rw [uni_same h, decide_eq_false (by simpa using h), Bool.or_false, Bool.or_false]
theorem foldI_facts {n : Nat} {A : List IOp} {p0 : List Int} (ha : algB n A = true) (h0 : partB n p0 = true) : ∀ (ts : List Pt) (s : CS), (∀ t ∈ ts, okPt n A t) → Under n A p0 s.2.2 →
  Under n A p0 (ts.foldl (stepI n A) s).2.2 ∧ sm (ts.foldl (stepI n A) s).2.2 ≤ sm s.2.2 ∧
  (ts.foldl (stepI n A) s = s ∧ (∀ t ∈ ts, gd s.2.2 (ptL A t) = gd s.2.2 (ptR n A s.2.2 t)) ∨ (ts.foldl (stepI n A) s).1 = true ∧ (ts.foldl (stepI n A) s).2.1 = true ∧ sm (ts.foldl (stepI n A) s).2.2 < sm s.2.2) := by
 intro ts
 induction ts with
 | nil => intro s _ h; exact ⟨h, Nat.le_refl _, .inl ⟨rfl, fun t ht => by simp at ht⟩⟩
 | cons t ts ih =>
  intro s hts h
  have ht := hts t (by simp)
  have hl := partB_len h.part
  obtain ⟨i1, i2, _⟩ := pt_in ha h.part ht
  rw [List.foldl_cons]
  by_cases e : gd s.2.2 (ptL A t) = gd s.2.2 (ptR n A s.2.2 t)
  ·rw [stepI_same e]
   obtain ⟨j1, j2, j3⟩ := ih s (fun x hx => hts x (by simp [hx])) h
   refine ⟨j1, j2, ?_⟩
   rcases j3 with ⟨j3, j4⟩ | j3
   ·refine .inl ⟨j3, fun x hx => ?_⟩
    rcases List.mem_cons.1 hx with rfl | hx
    ·exact e
    ·exact j4 x hx
   ·exact .inr j3
  ·have hU : Under n A p0 (stepI n A s t).2.2 := Under.step ha h0 h h ht
   obtain ⟨j1, j2, j3⟩ := ih (stepI n A s t) (fun x hx => hts x (by simp [hx])) hU
   have hs : sm (stepI n A s t).2.2 < sm s.2.2 := uni_sm h.part (by omega) (by omega) e
   have f1 : (stepI n A s t).1 = true := by simp [stepI, e]
   have f2 : (stepI n A s t).2.1 = true := by simp [stepI, e]
   refine ⟨j1, by omega, .inr ?_⟩
   rcases j3 with ⟨j3, j4⟩ | ⟨j3, j4, j5⟩
   ·rw [j3]
    exact ⟨f1, f2, hs⟩
   ·exact ⟨j3, j4, by omega⟩
theorem idx_repl {n st i y : Nat} : (i : Int) + ((y : Int) - (digit n st i : Int)) * (st : Int) = (repl n st i y : Int) := by
 have h := repl_self (n := n) (st := st) (i := i)
 have h1 : (repl n st i (digit n st i) : Int) = (i : Int) := by rw [h]
 unfold repl at h1 ⊢
 simp only [Int.natCast_add, Int.natCast_mul] at h1 ⊢
 rw [Int.add_mul] at h1 ⊢
 rw [Int.sub_mul]
 omega
theorem nat_digit (n st i : Nat) : ((i : Int) / (st : Int)) % (n : Int) = (digit n st i : Int) := by
 unfold digit
 simp
theorem close_idx {n st i y : Nat} (hn : 1 ≤ n ∧ n ≤ 8) (hs : 1 ≤ st ∧ st ≤ 512) (hi : i ≤ 512) (hy : y < n) : Int.tmod (wrap64 (Int.tdiv (i : Int) (st : Int))) (n : Int) = (digit n st i : Int) ∧
  wrap64 ((i : Int) + wrap64 (wrap64 ((y : Int) - (digit n st i : Int)) * (st : Int))) = (repl n st i y : Int) := by
 obtain ⟨e1, e2, e3⟩ := div_in (i := (i : Int)) (n := (st : Int)) (by omega) (by omega) (by omega)
 have hd : digit n st i < n := digit_lt (by omega)
 have h1 : (-8) * 512 ≤ ((y : Int) - (digit n st i : Int)) * (st : Int) ∧ ((y : Int) - (digit n st i : Int)) * (st : Int) ≤ 8 * 512 := by
  constructor
  ·have q1 : (-8) * (st : Int) ≤ ((y : Int) - (digit n st i : Int)) * (st : Int) := Int.mul_le_mul_of_nonneg_right (by omega) (by omega)
   omega
  ·have q1 : ((y : Int) - (digit n st i : Int)) * (st : Int) ≤ 8 * (st : Int) := Int.mul_le_mul_of_nonneg_right (by omega) (by omega)
   omega
 refine ⟨by rw [e1, Int.tmod_eq_emod_of_nonneg e2, nat_digit], ?_⟩
 rw [w64 (x := (y : Int) - (digit n st i : Int)) (by omega) (by omega), w64 (x := ((y : Int) - (digit n st i : Int)) * (st : Int)) (by omega) (by omega), w64 (by omega) (by omega), idx_repl]
theorem pow_cast (n e : Nat) : ((n : Int) ^ e) = ((n ^ e : Nat) : Int) := by simp
theorem npow_le {n e : Nat} (hn : 1 ≤ n ∧ n ≤ 8) (he : e ≤ 3) : 1 ≤ n ^ e ∧ n ^ e ≤ 512 := by
 have h1 := pow_le3 (n := (n : Int)) ⟨by omega, by omega⟩ he
 rw [pow_cast] at h1
 have : 0 < n ^ e := Nat.pow_pos (by omega)
 omega
theorem impl_closePartition_in3 {n : Nat} {A : List IOp} {p0 : List Int} (ha : algB n A = true) (h0 : partB n p0 = true) (o e : Nat) (ho : o < A.length) (he : e < arN A o) (r : Bool × List Int) :
  ∀ (d i : Nat) (s : CS), i + d = tlen A o → Under n A p0 s.2.2 →
   (∀ s', s' = (((List.range (tlen A o)).drop i).map fun i => (o, e, i)).foldl (stepI n A) s → Ev (fun k => impl_closePartition.l2 k s'.2.2 s'.1 s'.2.1 (wrap64 (((n ^ e : Nat) : Int) * (n : Int))) (wrap64 ((e : Int) + 1)) A (A.length : Int) (o : Int) (n : Int) A (arN A o : Int) (A.getD o z80).f1) r) →
   Ev (fun k => impl_closePartition.l3 k s.2.2 s.1 s.2.1 ((n ^ e : Nat) : Int) (e : Int) A (A.length : Int) (o : Int) (A.getD o z80).f1 (tlen A o : Int) (i : Int) (n : Int) A (arN A o : Int) (A.getD o z80).f1) r := by
 have hn := algB_size ha
 obtain ⟨q1, q2, q3, q4⟩ := op_facts ha ho
 have hst := npow_le (n := n) (e := e) (by omega) (by omega)
 have hT := npow_le (n := n) (e := arN A o) (by omega) q2
 intro d
 induction d with
 | zero =>
  intro i s hi hs h
  refine Ev.step (fun _ => impl_closePartition.l3.eq_2 ..) (Ev.neg (by omega) (h s ?_))
  rw [List.drop_of_length_le (by simp; omega)]
  rfl
 | succ d ih =>
  intro i s hi hs h
  have hl := partB_len hs.part
  have ht : okPt n A (o, e, i) := ⟨ho, he, by show i < tlen A o; omega⟩
  obtain ⟨i1, i2, i3⟩ := pt_in ha hs.part ht
  have i3' : repl n (n ^ e) i (ap s.2.2 (digit n (n ^ e) i)) < tlen A o := i3
  have hd : digit n (n ^ e) i < n := digit_lt (by omega)
  have hy := gd_ap hs.part (i := digit n (n ^ e) i) (by omega)
  have hyn : ap s.2.2 (digit n (n ^ e) i) < n := by have := ap_lt hs.part (i := digit n (n ^ e) i) (by omega); omega
  obtain ⟨c1, c2⟩ := close_idx (n := n) (st := n ^ e) (i := i) (y := ap s.2.2 (digit n (n ^ e) i)) (by omega) hst (by omega) hyn
  have v1 : gd (A.getD o z80).f1 i = (ptL A (o, e, i) : Int) := (q4 i (by omega)).1
  have v2 : gd (A.getD o z80).f1 (repl n (n ^ e) i (ap s.2.2 (digit n (n ^ e) i))) = (ptR n A s.2.2 (o, e, i) : Int) := (q4 _ i3').1
  have hT1 : (A.getD o z80).f1.length = tlen A o := rfl
  have hdl : ((digit n (n ^ e) i : Nat) : Int) < (s.2.2.length : Int) := by
   rw [hl]
   exact Int.ofNat_lt.2 hd
  have hrl : ((repl n (n ^ e) i (ap s.2.2 (digit n (n ^ e) i)) : Nat) : Int) < ((A.getD o z80).f1.length : Int) := Int.ofNat_lt.2 i3'
  rw [drop_cons (List.range (tlen A o)) 0 (i := i) (by simp; omega), range_at (by omega), List.map_cons, List.foldl_cons] at h
  refine Ev.step (fun _ => impl_closePartition.l3.eq_2 ..) ?_
  rw [c1, rdn, rdn, hy, c2, rdn, v1, v2, w64s (i := i) (n := tlen A o) (by omega) (by omega)]
  refine Ev.pos (by omega) (Ev.pos (by omega) (Ev.pos (by omega) (Ev.neg (by omega) (Ev.neg (by omega) (Ev.pos (Int.natCast_nonneg _) (Ev.pos hdl (Ev.pos (Int.natCast_nonneg _) (Ev.pos hrl ?_))))))))
  refine (impl_unite_ev s.2.2 _ _ (by omega) (by omega) (by omega)).bind ?_
  have hU : Under n A p0 (stepI n A s (o, e, i)).2.2 := Under.step ha h0 hs hs ht
  have := ih (i + 1) (stepI n A s (o, e, i)) (by omega) hU h
  by_cases hc : gd s.2.2 (ptL A (o, e, i)) ≠ gd s.2.2 (ptR n A s.2.2 (o, e, i))
  ·have e1 : stepI n A s (o, e, i) = (true, true, stepU n A s.2.2 s.2.2 (o, e, i)) := by simp only [stepI, decide_eq_true hc, Bool.or_true]
   rw [e1] at this
   exact Ev.pos (decide_eq_true hc) this
  ·have e1 : stepI n A s (o, e, i) = (s.1, s.2.1, stepU n A s.2.2 s.2.2 (o, e, i)) := by simp only [stepI, decide_eq_false hc, Bool.or_false]
   rw [e1] at this
   exact Ev.neg (by simp only [decide_eq_true_eq]; exact hc) this
theorem impl_closePartition_in2 {n : Nat} {A : List IOp} {p0 : List Int} (ha : algB n A = true) (h0 : partB n p0 = true) (o : Nat) (ho : o < A.length) (r : Bool × List Int) :
  ∀ (d e : Nat) (s : CS), e + d = arN A o → Under n A p0 s.2.2 →
   (∀ s', s' = (((List.range (arN A o)).drop e).flatMap fun e => (List.range (tlen A o)).map fun i => (o, e, i)).foldl (stepI n A) s → Ev (fun k => impl_closePartition.l1 k s'.2.2 s'.1 s'.2.1 A (A.length : Int) (wrap64 ((o : Int) + 1)) (n : Int) A) r) →
   Ev (fun k => impl_closePartition.l2 k s.2.2 s.1 s.2.1 ((n ^ e : Nat) : Int) (e : Int) A (A.length : Int) (o : Int) (n : Int) A (arN A o : Int) (A.getD o z80).f1) r := by
 have hn := algB_size ha
 obtain ⟨q1, q2, q3, q4⟩ := op_facts ha ho
 intro d
 induction d with
 | zero =>
  intro e s he hs h
  refine Ev.step (fun _ => impl_closePartition.l2.eq_2 ..) (Ev.neg (by omega) (h s ?_))
  rw [List.drop_of_length_le (by simp; omega)]
  rfl
 | succ d ih =>
  intro e s he hs h
  have hst := npow_le (n := n) (e := e) (by omega) (by omega)
  have hst2 := npow_le (n := n) (e := e + 1) (by omega) (by omega)
  rw [drop_cons (List.range (arN A o)) 0 (i := e) (by simp; omega), range_at (by omega), List.flatMap_cons, List.foldl_append] at h
  refine Ev.step (fun _ => impl_closePartition.l2.eq_2 ..) (Ev.pos (by omega) ?_)
  refine impl_closePartition_in3 ha h0 o e ho (by omega) r (tlen A o) 0 s (by omega) hs ?_
  intro s' hs'
  have e1 : ((n ^ e : Nat) : Int) * (n : Int) = ((n ^ (e + 1) : Nat) : Int) := by rw [Nat.pow_succ, Int.natCast_mul]
  rw [e1, w64 (by omega) (by omega), w64s (i := e) (n := 1000) (by omega) (by omega)]
  rw [List.drop_zero] at hs'
  have hU := (foldI_facts ha h0 ((List.range (tlen A o)).map fun i => (o, e, i)) s (fun t ht => by
   obtain ⟨i, hi, rfl⟩ := List.mem_map.1 ht
   exact ⟨ho, by show e < arN A o; omega, List.mem_range.1 hi⟩) hs).1
  rw [← hs'] at hU h
  exact ih (e + 1) s' (by omega) hU h
theorem impl_closePartition_in1 {n : Nat} {A : List IOp} {p0 : List Int} (ha : algB n A = true) (h0 : partB n p0 = true) (r : Bool × List Int) :
  ∀ (d o : Nat) (s : CS), o + d = A.length → Under n A p0 s.2.2 →
   (∀ s', s' = (((List.range A.length).drop o).flatMap fun o => (List.range (arN A o)).flatMap fun e => (List.range (tlen A o)).map fun i => (o, e, i)).foldl (stepI n A) s → Ev (fun k => impl_closePartition.l0 k s'.2.2 s'.1 s'.2.1 (n : Int) A) r) →
   Ev (fun k => impl_closePartition.l1 k s.2.2 s.1 s.2.1 A (A.length : Int) (o : Int) (n : Int) A) r := by
 have hf := algB_few ha
 intro d
 induction d with
 | zero =>
  intro o s ho hs h
  refine Ev.step (fun _ => impl_closePartition.l1.eq_2 ..) (Ev.neg (by omega) (h s ?_))
  rw [List.drop_of_length_le (by simp; omega)]
  rfl
 | succ d ih =>
  intro o s ho hs h
  obtain ⟨q1, q2, q3, q4⟩ := op_facts ha (o := o) (by omega)
  rw [drop_cons (List.range A.length) 0 (i := o) (by simp; omega), range_at (by omega), List.flatMap_cons, List.foldl_append] at h
  refine Ev.step (fun _ => impl_closePartition.l1.eq_2 ..) (Ev.pos (by omega) (Ev.pos (by omega) (Ev.pos (by omega) ?_)))
  rw [rdO_n, q1]
  have := impl_closePartition_in2 ha h0 o (by omega) r (arN A o) 0 s (by omega) hs ?_
  ·rw [Nat.pow_zero] at this
   exact this
  ·intro s' hs'
   rw [w64s (i := o) (n := 1000) (by omega) (by omega)]
   rw [List.drop_zero] at hs'
   have hU := (foldI_facts ha h0 ((List.range (arN A o)).flatMap fun e => (List.range (tlen A o)).map fun i => (o, e, i)) s (fun t ht => by
    obtain ⟨e, he, ht⟩ := List.mem_flatMap.1 ht
    obtain ⟨i, hi, rfl⟩ := List.mem_map.1 ht
    exact ⟨by show o < A.length; omega, List.mem_range.1 he, List.mem_range.1 hi⟩) hs).1
   rw [← hs'] at hU h
   exact ih (o + 1) s' (by omega) hU h
theorem pts_ok {n : Nat} {A : List IOp} : ∀ t, t ∈ ptsAt n A ↔ okPt n A t := by
 rintro ⟨o, e, i⟩
 simp only [ptsAt, List.mem_flatMap, List.mem_map, List.mem_range, Prod.mk.injEq, okPt]
 constructor
 ·rintro ⟨o', h1, e', h2, i', h3, rfl, rfl, rfl⟩
  exact ⟨h1, h2, h3⟩
 ·rintro ⟨h1, h2, h3⟩
  exact ⟨o, h1, e, h2, i, h3, rfl, rfl, rfl⟩
theorem impl_closePartition_loop {n : Nat} {A : List IOp} {p0 : List Int} (ha : algB n A = true) (h0 : partB n p0 = true) : ∀ (m : Nat) (p : List Int) (was : Bool), sm p < m → Under n A p0 p →
  ∃ q, isClose n A p0 q ∧ sm q ≤ sm p ∧ Ev (fun k => impl_closePartition.l0 k p was true (n : Int) A) (was || decide (q ≠ p), q) := by
 intro m
 induction m with
 | zero => intro p was hm; omega
 | succ m ih =>
  intro p was hm hp
  obtain ⟨f1, f2, f3⟩ := foldI_facts ha h0 (ptsAt n A) (was, false, p) (fun t ht => (pts_ok t).1 ht) hp
  rcases f3 with ⟨f3, f4⟩ | ⟨f3, f4, f5⟩
  ·refine ⟨p, ⟨hp, fun t ht => ?_⟩, Nat.le_refl _, ?_⟩
   ·have := f4 t ((pts_ok t).2 ht)
    unfold ap
    rw [this]
   ·refine Ev.step (fun _ => impl_closePartition.l0.eq_2 ..) (Ev.pos rfl ?_)
    refine impl_closePartition_in1 ha h0 _ A.length 0 (was, false, p) (by omega) hp ?_
    intro s' hs'
    have e : s' = (was, false, p) := by rw [hs', List.drop_zero]; exact f3
    rw [e]
    exact Ev.step (fun _ => impl_closePartition.l0.eq_2 ..) (Ev.neg (by simp) ((Ev.now _).to (by simp)))
  ·obtain ⟨q, q1, q2, q3⟩ := ih _ true (by simp only at f5; omega) f1
   have hlt : sm q < sm p := by simp only at f5; omega
   have hne : q ≠ p := fun e => by rw [e] at hlt; omega
   refine ⟨q, q1, by omega, ?_⟩
   refine Ev.step (fun _ => impl_closePartition.l0.eq_2 ..) (Ev.pos rfl ?_)
   refine impl_closePartition_in1 ha h0 _ A.length 0 (was, false, p) (by omega) hp ?_
   intro s' hs'
   have e : s' = (ptsAt n A).foldl (stepI n A) (was, false, p) := by rw [hs', List.drop_zero]; rfl
   rw [e, f3, f4]
   refine q3.to ?_
   rw [decide_eq_true hne]
   simp
theorem impl_closePartition_ev {n : Nat} {A : List IOp} {p : List Int} (ha : algB n A = true) (h0 : partB n p = true) : ∃ q, isClose n A p q ∧ Ev (fun k => impl_closePartition.f k (n : Int) A p) (decide (q ≠ p), q) := by
 obtain ⟨q, q1, q2, q3⟩ := impl_closePartition_loop ha h0 (sm p + 1) p false (by omega) (Under.refl h0)
 exact ⟨q, q1, q3.to (by simp)⟩
theorem args_digit (n : Nat) : ∀ (ar i j : Nat), j < ar → gd (argsM (n : Int) ar (i : Int)) j = (digit n (n ^ (ar - 1 - j)) i : Int) := by
 intro ar
 induction ar with
 | zero => intro i j h; omega
 | succ ar ih =>
  intro i j hj
  rw [argsM]
  have hl := argsM_length (n : Int) ar ((i : Int) / (n : Int))
  by_cases e : j = ar
  ·subst e
   rw [gd_lt (by simp [hl]), List.getElem_append_right (by omega)]
   simp [hl, digit]
  ·rw [gd_lt (by simp [hl]; omega), List.getElem_append_left (by omega), ← gd_lt (by omega)]
   have := ih (i / n) j (by omega)
   rw [Int.natCast_ediv] at this
   rw [this]
   unfold digit
   rw [Nat.div_div_eq_div_mul, show ar + 1 - 1 - j = (ar - 1 - j) + 1 by omega, Nat.pow_succ, Nat.mul_comm n]
theorem repl_up (n st i y : Nat) : repl n st (i / n) y * n + i % n = repl n (n * st) i y := by
 unfold repl
 rw [Nat.div_div_eq_div_mul i n st, Nat.mod_mul]
 generalize i / (n * st) / n * n + y = X
 generalize i / n % st = b
 rw [Nat.add_mul, Nat.mul_assoc X st n, Nat.mul_comm st n, Nat.mul_comm b n]
 omega
theorem args_repl (n : Nat) (hn : 1 ≤ n) : ∀ (ar i j y : Nat), j < ar → i < n ^ ar → valM (n : Int) ((argsM (n : Int) ar (i : Int)).set j (y : Int)) = (repl n (n ^ (ar - 1 - j)) i y : Int) := by
 intro ar
 induction ar with
 | zero => intro i j y h; omega
 | succ ar ih =>
  intro i j y hj hi
  rw [argsM]
  have hl := argsM_length (n : Int) ar ((i : Int) / (n : Int))
  have hi2 : i / n < n ^ ar := Nat.div_lt_of_lt_mul (by rw [Nat.pow_succ] at hi; rw [Nat.mul_comm]; exact hi)
  by_cases e : j = ar
  ·subst e
   rw [List.set_append_right _ _ (by omega), hl, Nat.sub_self, List.set_cons_zero, valM_snoc, valM_args (by omega) _ _ (Int.ediv_nonneg (by omega) (by omega)) (by rw [← Int.natCast_ediv, pow_cast]; exact Int.ofNat_lt.2 hi2)]
   unfold repl
   simp [Nat.mod_one]
  ·rw [List.set_append_left _ _ (by omega), valM_snoc]
   have := ih (i / n) j y (by omega) hi2
   rw [Int.natCast_ediv] at this
   rw [this, ← Int.natCast_emod]
   have key : repl n (n ^ (ar - 1 - j)) (i / n) y * n + i % n = repl n (n ^ (ar + 1 - 1 - j)) i y := by
    rw [show ar + 1 - 1 - j = (ar - 1 - j) + 1 by omega, Nat.pow_succ, Nat.mul_comm (n ^ (ar - 1 - j)) n]
    exact repl_up n _ i y
   rw [← key]
   simp
def ptsS (A : List IOp) : List Pt := (List.range A.length).flatMap fun o => (List.range (tlen A o)).flatMap fun i => (List.range (arN A o)).map fun j => (o, arN A o - 1 - j, i)
theorem ptsS_ok {n : Nat} {A : List IOp} : ∀ t, t ∈ ptsS A ↔ okPt n A t := by
 rintro ⟨o, e, i⟩
 simp only [ptsS, List.mem_flatMap, List.mem_map, List.mem_range, Prod.mk.injEq, okPt]
 constructor
 ·rintro ⟨o', h1, i', h2, j', h3, rfl, h4, rfl⟩
  exact ⟨h1, by omega, h2⟩
 ·rintro ⟨h1, h2, h3⟩
  exact ⟨o, h1, i, h3, arN A o - 1 - e, by omega, rfl, by omega, rfl⟩
def pushP (n : Nat) (A : List IOp) (q : List Int) : List Int := (ptsS A).foldl (stepU n A q) q
theorem foldS_facts {n : Nat} {A : List IOp} {p0 q : List Int} (ha : algB n A = true) (h0 : partB n p0 = true) (hq : Under n A p0 q) : ∀ (ts : List Pt) (p : List Int), (∀ t ∈ ts, okPt n A t) → Under n A p0 p →
  Under n A p0 (ts.foldl (stepU n A q) p) ∧ sm (ts.foldl (stepU n A q) p) ≤ sm p ∧
  (ts.foldl (stepU n A q) p = p ∧ (∀ t ∈ ts, gd p (ptL A t) = gd p (ptR n A q t)) ∨ sm (ts.foldl (stepU n A q) p) < sm p) := by
 intro ts
 induction ts with
 | nil => intro p _ h; exact ⟨h, Nat.le_refl _, .inl ⟨rfl, fun t ht => by simp at ht⟩⟩
 | cons t ts ih =>
  intro p hts h
  have ht := hts t (by simp)
  have hl := partB_len h.part
  obtain ⟨i1, i2, _⟩ := pt_in ha hq.part ht
  rw [List.foldl_cons]
  by_cases e : gd p (ptL A t) = gd p (ptR n A q t)
  ·have e1 : stepU n A q p t = p := uni_same e
   rw [e1]
   obtain ⟨j1, j2, j3⟩ := ih p (fun x hx => hts x (by simp [hx])) h
   refine ⟨j1, j2, ?_⟩
   rcases j3 with ⟨j3, j4⟩ | j3
   ·refine .inl ⟨j3, fun x hx => ?_⟩
    rcases List.mem_cons.1 hx with rfl | hx
    ·exact e
    ·exact j4 x hx
   ·exact .inr j3
  ·have hU : Under n A p0 (stepU n A q p t) := Under.step ha h0 h hq ht
   obtain ⟨j1, j2, j3⟩ := ih (stepU n A q p t) (fun x hx => hts x (by simp [hx])) hU
   have hs : sm (stepU n A q p t) < sm p := uni_sm h.part (by omega) (by omega) e
   exact ⟨j1, by omega, .inr (by omega)⟩
theorem pushP_facts {n : Nat} {A : List IOp} {p0 q : List Int} (ha : algB n A = true) (h0 : partB n p0 = true) (hq : Under n A p0 q) : Under n A p0 (pushP n A q) ∧ (pushP n A q = q ∧ cong n A q ∨ sm (pushP n A q) < sm q) := by
 obtain ⟨f1, f2, f3⟩ := foldS_facts ha h0 hq (ptsS A) q (fun t ht => (ptsS_ok t).1 ht) hq
 refine ⟨f1, ?_⟩
 rcases f3 with ⟨f3, f4⟩ | f3
 ·refine .inl ⟨f3, fun t ht => ?_⟩
  have := f4 t ((ptsS_ok t).2 ht)
  unfold ap
  rw [this]
 ·exact .inr f3
theorem pushP_cong {n : Nat} {A : List IOp} {p : List Int} (ha : algB n A = true) (hp : partB n p = true) : pushP n A p = p ↔ cong n A p := by
 obtain ⟨f1, f2⟩ := pushP_facts ha hp (Under.refl hp)
 constructor
 ·intro e
  rcases f2 with f2 | f2
  ·exact f2.2
  ·rw [e] at f2
   omega
 ·intro hc
  exact finer_anti f1.part hp (f1.least p hp hc (finer_refl hp)) f1.up
theorem spec_l6Push_in2 {n : Nat} {A : List IOp} {p0 q : List Int} (ha : algB n A = true) (h0 : partB n p0 = true) (hq : Under n A p0 q) (o i : Nat) (ho : o < A.length) (hi : i < tlen A o) (r : List Int) :
  ∀ (d j : Nat) (p : List Int), j + d = arN A o → Under n A p0 p →
   (∀ p', p' = (((List.range (arN A o)).drop j).map fun j => ((o, arN A o - 1 - j, i) : Pt)).foldl (stepU n A q) p → Ev (fun k => spec_l6Push.l1 k q p' (o : Int) (wrap64 ((i : Int) + 1)) (n : Int) A) r) →
   Ev (fun k => spec_l6Push.l2 k q p (o : Int) (i : Int) (argsM (n : Int) (arN A o) (i : Int)) (j : Int) (n : Int) A) r := by
 have hn := algB_size ha
 have hlq := partB_len hq.part
 obtain ⟨q1, q2, q3, q4⟩ := op_facts ha ho
 have hal := argsM_length (n : Int) (arN A o) (i : Int)
 intro d
 induction d with
 | zero =>
  intro j p hj hp h
  refine Ev.step (fun _ => spec_l6Push.l2.eq_2 ..) (Ev.neg (by omega) (h p ?_))
  rw [List.drop_of_length_le (by simp; omega)]
  rfl
 | succ d ih =>
  intro j p hj hp h
  have hl := partB_len hp.part
  have ht : okPt n A (o, arN A o - 1 - j, i) := ⟨ho, by show arN A o - 1 - j < arN A o; omega, hi⟩
  obtain ⟨i1, i2, i3⟩ := pt_in ha hq.part ht
  have hd : digit n (n ^ (arN A o - 1 - j)) i < n := digit_lt (by omega)
  have hdig := args_digit n (arN A o) i j (by omega)
  have hy := gd_ap hq.part (i := digit n (n ^ (arN A o - 1 - j)) i) (by omega)
  have hyn : ap q (digit n (n ^ (arN A o - 1 - j)) i) < n := by have := ap_lt hq.part (i := digit n (n ^ (arN A o - 1 - j)) i) (by omega); omega
  have hrep := args_repl n (by omega) (arN A o) i j (ap q (digit n (n ^ (arN A o - 1 - j)) i)) (by omega) (by rw [← q3]; exact hi)
  have hin : ∀ x ∈ (argsM (n : Int) (arN A o) (i : Int)).set j ((ap q (digit n (n ^ (arN A o - 1 - j)) i) : Nat) : Int), 0 ≤ x ∧ x < (n : Int) := fun x hx => by
   rcases List.mem_or_eq_of_mem_set hx with hx | rfl
   ·exact argsM_in (by omega) _ _ (by omega) x hx
   ·exact ⟨Int.natCast_nonneg _, Int.ofNat_lt.2 hyn⟩
  have hdl : ((digit n (n ^ (arN A o - 1 - j)) i : Nat) : Int) < (q.length : Int) := by
   rw [hlq]
   exact Int.ofNat_lt.2 hd
  have hT1 : (A.getD o z80).f1.length = tlen A o := rfl
  have v1 : gd (A.getD o z80).f1 i = (ptL A (o, arN A o - 1 - j, i) : Int) := (q4 i hi).1
  have v2 : gd (A.getD o z80).f1 (repl n (n ^ (arN A o - 1 - j)) i (ap q (digit n (n ^ (arN A o - 1 - j)) i))) = (ptR n A q (o, arN A o - 1 - j, i) : Int) := (q4 _ i3).1
  rw [drop_cons (List.range (arN A o)) 0 (i := j) (by simp; omega), range_at (by omega), List.map_cons, List.foldl_cons] at h
  have hval := spec_l2Value_ev (n : Int) A o _ ⟨by omega, by omega⟩ ho hin (by rw [List.length_set, hal]; omega) (by rw [List.length_set, hal, hT1, q3, pow_cast]; exact Int.le_refl _)
  rw [hrep, Int.toNat_natCast, v2] at hval
  refine Ev.step (fun _ => spec_l6Push.l2.eq_2 ..) (Ev.pos (by omega) ?_)
  rw [spec_l1Own_eq _ (by omega)]
  refine Ev.bind1 ?_
  rw [rdn, hdig, rdn, hy, Int.toNat_natCast, rdO_n, rdn, v1, w64s (i := j) (n := 1000) (by omega) (by omega)]
  refine Ev.pos (by omega) (Ev.pos (Int.natCast_nonneg _) (Ev.pos hdl (Ev.pos (by omega) (Ev.pos (by omega) (Ev.pos (by omega) (Ev.pos (by omega) (Ev.pos (by omega) (hval.bind ?_))))))))
  refine (spec_l6Unite_ev p _ _ (by omega) (by omega) (by omega)).bind ?_
  exact ih (j + 1) (stepU n A q p (o, arN A o - 1 - j, i)) (by omega) (Under.step ha h0 hp hq ht) h
theorem spec_l6Push_in1 {n : Nat} {A : List IOp} {p0 q : List Int} (ha : algB n A = true) (h0 : partB n p0 = true) (hq : Under n A p0 q) (o : Nat) (ho : o < A.length) (r : List Int) :
  ∀ (d i : Nat) (p : List Int), i + d = tlen A o → Under n A p0 p →
   (∀ p', p' = (((List.range (tlen A o)).drop i).flatMap fun i => (List.range (arN A o)).map fun j => ((o, arN A o - 1 - j, i) : Pt)).foldl (stepU n A q) p → Ev (fun k => spec_l6Push.l0 k q p' (wrap64 ((o : Int) + 1)) (n : Int) A) r) →
   Ev (fun k => spec_l6Push.l1 k q p (o : Int) (i : Int) (n : Int) A) r := by
 have hn := algB_size ha
 obtain ⟨q1, q2, q3, q4⟩ := op_facts ha ho
 have hT := npow_le (n := n) (e := arN A o) (by omega) q2
 have hT1 : (A.getD o z80).f1.length = tlen A o := rfl
 intro d
 induction d with
 | zero =>
  intro i p hi hp h
  refine Ev.step (fun _ => spec_l6Push.l1.eq_2 ..) ?_
  rw [rdO_n]
  refine Ev.pos (by omega) (Ev.pos (by omega) (Ev.neg (by omega) (h p ?_)))
  rw [List.drop_of_length_le (by simp; omega)]
  rfl
 | succ d ih =>
  intro i p hi hp h
  rw [drop_cons (List.range (tlen A o)) 0 (i := i) (by simp; omega), range_at (by omega), List.flatMap_cons, List.foldl_append] at h
  refine Ev.step (fun _ => spec_l6Push.l1.eq_2 ..) ?_
  rw [rdO_n, q1]
  refine Ev.pos (by omega) (Ev.pos (by omega) (Ev.pos (by omega) ((spec_l2Args_ev (n : Int) (arN A o) (i : Int) (by omega) q2 (by omega) (by omega)).bind ?_)))
  refine spec_l6Push_in2 ha h0 hq o i ho (by omega) r (arN A o) 0 p (by omega) hp ?_
  intro p' hp'
  rw [w64s (i := i) (n := 1000) (by omega) (by omega)]
  rw [List.drop_zero] at hp'
  have hU := (foldS_facts ha h0 hq ((List.range (arN A o)).map fun j => ((o, arN A o - 1 - j, i) : Pt)) p (fun t ht => by
   obtain ⟨j, hj, rfl⟩ := List.mem_map.1 ht
   have := List.mem_range.1 hj
   exact ⟨ho, by show arN A o - 1 - j < arN A o; omega, by show i < tlen A o; omega⟩) hp).1
  rw [← hp'] at hU h
  exact ih (i + 1) p' (by omega) hU h
theorem spec_l6Push_in0 {n : Nat} {A : List IOp} {p0 q : List Int} (ha : algB n A = true) (h0 : partB n p0 = true) (hq : Under n A p0 q) :
  ∀ (d o : Nat) (p : List Int), o + d = A.length → Under n A p0 p →
   Ev (fun k => spec_l6Push.l0 k q p (o : Int) (n : Int) A) ((((List.range A.length).drop o).flatMap fun o => (List.range (tlen A o)).flatMap fun i => (List.range (arN A o)).map fun j => ((o, arN A o - 1 - j, i) : Pt)).foldl (stepU n A q) p) := by
 have hf := algB_few ha
 intro d
 induction d with
 | zero =>
  intro o p ho hp
  rw [List.drop_of_length_le (by simp; omega)]
  exact Ev.step (fun _ => spec_l6Push.l0.eq_2 ..) (Ev.neg (by omega) (Ev.now _))
 | succ d ih =>
  intro o p ho hp
  rw [drop_cons (List.range A.length) 0 (i := o) (by simp; omega), range_at (by omega), List.flatMap_cons, List.foldl_append]
  refine Ev.step (fun _ => spec_l6Push.l0.eq_2 ..) (Ev.pos (by omega) ?_)
  refine spec_l6Push_in1 ha h0 hq o (by omega) _ (tlen A o) 0 p (by omega) hp ?_
  intro p' hp'
  rw [w64s (i := o) (n := 1000) (by omega) (by omega)]
  rw [List.drop_zero] at hp'
  have hU := (foldS_facts ha h0 hq ((List.range (tlen A o)).flatMap fun i => (List.range (arN A o)).map fun j => ((o, arN A o - 1 - j, i) : Pt)) p (fun t ht => by
   obtain ⟨i, hi, ht⟩ := List.mem_flatMap.1 ht
   obtain ⟨j, hj, rfl⟩ := List.mem_map.1 ht
   have := List.mem_range.1 hj
   exact ⟨by show o < A.length; omega, by show arN A o - 1 - j < arN A o; omega, List.mem_range.1 hi⟩) hp).1
  rw [← hp'] at hU ⊢
  exact ih (o + 1) p' (by omega) hU
theorem spec_l6Push_ev {n : Nat} {A : List IOp} {p0 q : List Int} (ha : algB n A = true) (h0 : partB n p0 = true) (hq : Under n A p0 q) : Ev (fun k => spec_l6Push.f k (n : Int) A q) (pushP n A q) := by
 have hn := algB_size ha
 have hl := partB_len hq.part
 unfold spec_l6Push.f
 rw [spec_l1Own_eq q (by omega)]
 exact Ev.bind1 (spec_l6Push_in0 ha h0 hq A.length 0 q (by omega) hq)
def congB (n : Nat) (A : List IOp) (p : List Int) : Bool := (ptsAt n A).all fun t => decide (ap p (ptL A t) = ap p (ptR n A p t))
theorem congB_iff {n : Nat} {A : List IOp} {p : List Int} : congB n A p = true ↔ cong n A p := by
 unfold congB cong
 rw [List.all_eq_true]
 constructor
 ·intro h t ht
  exact of_decide_eq_true (h t ((pts_ok t).2 ht))
 ·intro h t ht
  exact decide_eq_true (h t ((pts_ok t).1 ht))
theorem impl_isCongruence_ev {n : Nat} {A : List IOp} {p : List Int} (ha : algB n A = true) (hl : p.length ≤ 1048576) : Ev (fun k => impl_isCongruence.f k (n : Int) A p) (partB n p && congB n A p) := by
 unfold impl_isCongruence.f
 refine (impl_isPartition_ev n p (by omega)).bind (Ev.ite (fun h => ?_) (fun h => (Ev.now _).to (by simp [h])))
 rw [impl_clone_eq p (by omega)]
 obtain ⟨q, q1, q2⟩ := impl_closePartition_ev ha h
 refine Ev.bind1 (q2.bind ((Ev.now _).to ?_))
 rw [h, Bool.true_and, Bool.eq_iff_iff, congB_iff]
 have e : q = p ↔ cong n A p := by
  constructor
  ·intro e
   rw [← e]
   exact q1.2
  ·intro hc
   exact isClose_one q1 ((isClose_self h).2 hc)
 simp [e]
theorem spec_l6Is_ev {n : Nat} {A : List IOp} {p : List Int} (ha : algB n A = true) (hl : p.length ≤ 1048576) : Ev (fun k => spec_l6Is.f k (n : Int) A p) (partB n p && congB n A p) := by
 unfold spec_l6Is.f
 refine (spec_l6Partition_ev n p (by omega)).bind (Ev.ite (fun h => ?_) (fun h => (Ev.now _).to (by simp [h])))
 have hU := (pushP_facts ha h (Under.refl h)).1
 have h1 := partB_len hU.part
 have h2 := partB_len h
 refine (spec_l6Push_ev ha h (Under.refl h)).bind ((spec_l1Same_ev _ _ (by omega)).bind ((Ev.now _).to ?_))
 rw [h, Bool.true_and, Bool.eq_iff_iff, congB_iff, decide_eq_true_iff, pushP_cong ha h]
def imgs (f : List Int) (l : List Int) : List Int := l.map fun x => gd f x.toNat
theorem imgs_length (f l : List Int) : (imgs f l).length = l.length := by simp [imgs]
theorem imgs_at (f l : List Int) {i : Nat} (h : i < l.length) : gd (imgs f l) i = gd f (gd l i).toNat := by
 rw [gd_lt (by rw [imgs_length]; exact h), gd_lt h]
 simp [imgs]
theorem gd_takeN (l : List Int) {i j : Nat} (h : j < i) : gd (l.take i) j = gd l j := by simp [gd, List.getD, List.getElem?_take, h]
theorem impl_compose_ev (l f : List Int) (hl : l.length ≤ 1048576) (hin : ∀ x ∈ l, 0 ≤ x ∧ x < (f.length : Int)) : Ev (fun k => impl_compose.f k l f) (imgs f l) := by
 unfold impl_compose.f
 refine Ev.pos (by omega) (Ev.pos (by omega) ?_)
 refine set_loop l 0 (fun x => gd f x.toNat) (fun k out i => impl_compose.l0 k f out l (l.length : Int) i) (imgs f l) ?_ ?_ l.length 0 _ (by omega) (by simp) (fun j hj => by omega)
 ·exact Ev.step (fun _ => impl_compose.l0.eq_2 ..) (Ev.neg (by omega) (Ev.now _))
 ·intro i out hi ho h
  have hx := hin (gd l i) (by rw [gd_lt hi]; exact List.getElem_mem hi)
  change Ev (fun k => impl_compose.l0 k f (out.set i (gd f (gd l i).toNat)) l (l.length : Int) ((i + 1 : Nat) : Int)) _ at h
  refine Ev.step (fun _ => impl_compose.l0.eq_2 ..) ?_
  rw [rdn, rdi f hx.1, w64s (n := l.length) (by omega) (by omega), Int.toNat_natCast]
  exact Ev.pos (by omega) (Ev.pos (by omega) (Ev.pos (by omega) (Ev.pos hx.1 (Ev.pos hx.2 (Ev.pos (by omega) h)))))
def rootB (p : List Int) (i : Nat) : Bool := decide (gd p i = (i : Int))
theorem rootB_t {p : List Int} {i : Nat} (h : gd p i = (i : Int)) : rootB p i = true := decide_eq_true h
theorem rootB_f {p : List Int} {i : Nat} (h : ¬ gd p i = (i : Int)) : ¬ rootB p i = true := fun e => h (of_decide_eq_true e)
def cnt (p : List Int) (i : Nat) : Nat := (List.range i).countP (rootB p)
def leastM (p : List Int) : List Int := ((List.range p.length).filter (rootB p)).map fun (i : Nat) => (i : Int)
def natM (p : List Int) : List Int := (List.range p.length).map fun i => ((cnt p (gd p i).toNat : Nat) : Int)
theorem cnt_succ (p : List Int) (i : Nat) : cnt p (i + 1) = cnt p i + if rootB p i = true then 1 else 0 := by
 simp [cnt, List.range_succ, List.countP_append, List.countP_cons]
theorem cnt_mono (p : List Int) {i j : Nat} (h : i ≤ j) : cnt p i ≤ cnt p j := by
 induction j with
 | zero =>
  have : i = 0 := by omega
  subst this
  exact Nat.le_refl _
 | succ j ih =>
  by_cases e : i = j + 1
  ·subst e; exact Nat.le_refl _
  ·have := ih (by omega)
   have := cnt_succ p j
   omega
theorem cnt_le (p : List Int) (i : Nat) : cnt p i ≤ i := by
 have := List.countP_le_length (p := rootB p) (l := List.range i)
 rwa [List.length_range] at this
theorem leastM_length (p : List Int) : (leastM p).length = cnt p p.length := by simp [leastM, cnt, List.countP_eq_length_filter]
theorem natM_length (p : List Int) : (natM p).length = p.length := by simp [natM]
theorem natM_at (p : List Int) {i : Nat} (h : i < p.length) : gd (natM p) i = (cnt p (gd p i).toNat : Int) := by simp [natM, gd, List.getD, h]
theorem natM_root {p : List Int} {i : Nat} (h : i < p.length) (e : gd p i = (i : Int)) : gd (natM p) i = (cnt p i : Int) := by
 rw [natM_at p h, e, Int.toNat_natCast]
theorem natM_other {n : Int} {p : List Int} (hp : partB n p = true) {i : Nat} (h : i < p.length) : gd (natM p) i = gd (natM p) (gd p i).toNat := by
 obtain ⟨h1, h2, h3⟩ := partAt_of hp h
 rw [natM_at p h, natM_at p (by omega), h3]
theorem natM_in {n : Int} {p : List Int} (hp : partB n p = true) {i : Nat} (h : i < p.length) : 0 ≤ gd (natM p) i ∧ gd (natM p) i < ((leastM p).length : Int) := by
 obtain ⟨h1, h2, h3⟩ := partAt_of hp h
 rw [natM_at p h, leastM_length]
 refine ⟨Int.natCast_nonneg _, ?_⟩
 have e := cnt_succ p (gd p i).toNat
 have hr : rootB p (gd p i).toNat = true := decide_eq_true (by rw [h3]; omega)
 rw [if_pos hr] at e
 have := cnt_mono p (i := (gd p i).toNat + 1) (j := p.length) (by omega)
 omega
theorem leastM_le (p : List Int) : (leastM p).length ≤ p.length := by rw [leastM_length]; exact cnt_le p _
theorem leastM_pos {n : Int} {p : List Int} (hp : partB n p = true) (h : 0 < p.length) : 1 ≤ (leastM p).length := by
 obtain ⟨h1, h2, h3⟩ := partAt_of hp h
 have e := cnt_succ p 0
 rw [if_pos (rootB_t (i := 0) (by omega))] at e
 have := cnt_mono p (i := 0 + 1) (j := p.length) (by omega)
 rw [leastM_length]
 omega
theorem impl_naturalMap_loop {n : Int} {p : List Int} (hp : partB n p = true) (hl : p.length ≤ 1048576) : ∀ (d i : Nat) (x : List Int), i + d = p.length → x.length = p.length → (∀ j, j < i → gd x j = gd (natM p) j) → Ev (fun k => impl_naturalMap.l0 k x (cnt p i : Int) p (p.length : Int) (i : Int)) (natM p) := by
 intro d
 induction d with
 | zero =>
  intro i x hi hx h
  refine Ev.step (fun _ => impl_naturalMap.l0.eq_2 ..) (Ev.neg (by omega) ?_)
  have : x = natM p := ext_gd (by rw [natM_length, hx]) (fun j hj => h j (by omega))
  rw [this]
  exact Ev.now _
 | succ d ih =>
  intro i x hi hx h
  obtain ⟨h1, h2, h3⟩ := partAt_of hp (i := i) (by omega)
  have hc := cnt_le p i
  have hs := cnt_succ p i
  refine Ev.step (fun _ => impl_naturalMap.l0.eq_2 ..) ?_
  rw [rdn, w64s (i := i) (n := p.length) (by omega) (by omega), w64s (i := cnt p i) (n := p.length) (by omega) (by omega)]
  refine Ev.pos (by omega) (Ev.pos (by omega) (Ev.pos (by omega) (Ev.ite (fun hr => ?_) (fun hr => ?_))))
  ·rw [if_pos (rootB_t hr)] at hs
   refine Ev.pos (by omega) ?_
   rw [← hs, Int.toNat_natCast]
   refine ih (i + 1) _ (by omega) (by simpa using hx) (fun j hj => ?_)
   by_cases e : j = i
   ·subst e
    rw [set_at _ (by omega), natM_root (by omega) hr]
   ·rw [set_ne _ (fun e' => e e'.symm)]
    exact h j (by omega)
  ·rw [if_neg (rootB_f hr)] at hs
   refine Ev.pos h1 (Ev.pos (by omega) (Ev.pos (by omega) ?_))
   rw [rdi x h1, h (gd p i).toNat (by omega), ← natM_other hp (by omega), Int.toNat_natCast, show cnt p i = cnt p (i + 1) by omega]
   refine ih (i + 1) _ (by omega) (by simpa using hx) (fun j hj => ?_)
   by_cases e : j = i
   ·subst e
    rw [set_at _ (by omega)]
   ·rw [set_ne _ (fun e' => e e'.symm)]
    exact h j (by omega)
theorem impl_naturalMap_ev {n : Int} {p : List Int} (hp : partB n p = true) (hl : p.length ≤ 1048576) : Ev (fun k => impl_naturalMap.f k p) (natM p) := by
 unfold impl_naturalMap.f
 exact Ev.pos (by omega) (Ev.pos (by omega) (impl_naturalMap_loop hp hl p.length 0 _ (by omega) (by simp) (fun j hj => by omega)))
theorem spec_l9Map_loop {n : Int} {p : List Int} (hp : partB n p = true) (hl : p.length ≤ 1048576) : ∀ (d i : Nat), i + d = p.length → Ev (fun k => spec_l9Map.l0 k p ((natM p).take i) (cnt p i : Int) (i : Int)) (natM p) := by
 intro d
 induction d with
 | zero =>
  intro i hi
  refine Ev.step (fun _ => spec_l9Map.l0.eq_2 ..) (Ev.neg (by omega) ?_)
  rw [List.take_of_length_le (by rw [natM_length]; omega)]
  exact Ev.now _
 | succ d ih =>
  intro i hi
  obtain ⟨h1, h2, h3⟩ := partAt_of hp (i := i) (by omega)
  have hc := cnt_le p i
  have hs := cnt_succ p i
  have htl : ((natM p).take i).length = i := by rw [List.length_take, natM_length]; omega
  refine Ev.step (fun _ => spec_l9Map.l0.eq_2 ..) ?_
  rw [rdn, w64s (i := i) (n := p.length) (by omega) (by omega), w64s (i := cnt p i) (n := p.length) (by omega) (by omega)]
  refine Ev.pos (by omega) (Ev.pos (by omega) (Ev.ite (fun hr => ?_) (fun hr => ?_)))
  ·rw [if_pos (rootB_t hr)] at hs
   refine Ev.pos (by omega) ?_
   rw [← hs, ← natM_root (by omega) hr, take_snoc _ (by rw [natM_length]; omega)]
   exact ih (i + 1) (by omega)
  ·rw [if_neg (rootB_f hr)] at hs
   have e1 : rd ((natM p).take i) (gd p i) = gd (natM p) i := by rw [rdi _ h1, gd_takeN _ (by omega), ← natM_other hp (by omega)]
   refine Ev.pos h1 (Ev.pos (by omega) (Ev.pos (by omega) ?_))
   rw [e1, take_snoc _ (by rw [natM_length]; omega), show cnt p i = cnt p (i + 1) by omega]
   exact ih (i + 1) (by omega)
theorem spec_l9Map_ev {n : Int} {p : List Int} (hp : partB n p = true) (hl : p.length ≤ 1048576) : Ev (fun k => spec_l9Map.f k p) (natM p) := by
 unfold spec_l9Map.f
 exact spec_l9Map_loop hp hl p.length 0 (by omega)
def isC (n : Int) (A : List IOp) (p : List Int) : Bool := partB n p && congB n.toNat A p
def takesB (n : Int) (A : List IOp) (p : List Int) : Bool := algB n A && isC n A p
theorem isC_part {n : Int} {A : List IOp} {p : List Int} (h : isC n A p = true) : partB n p = true := by
 simp only [isC, Bool.and_eq_true] at h
 exact h.1
theorem takes_of {n : Int} {A : List IOp} {p : List Int} (h : takesB n A p = true) : algB n A = true ∧ isC n A p = true := by
 simpa only [takesB, Bool.and_eq_true] using h
theorem takes_len {n : Int} {A : List IOp} {p : List Int} (h : takesB n A p = true) : algB n A = true ∧ partB n p = true ∧ (p.length : Int) = n ∧ 1 ≤ n ∧ n ≤ 8 := by
 obtain ⟨h1, h2⟩ := takes_of h
 exact ⟨h1, isC_part h2, partB_len (isC_part h2), algB_size h1⟩
theorem isC_impl {n : Int} {A : List IOp} {p : List Int} (ha : algB n A = true) (hl : p.length ≤ 1048576) : Ev (fun k => impl_isCongruence.f k n A p) (isC n A p) := by
 have hn := algB_size ha
 obtain ⟨m, rfl⟩ : ∃ m : Nat, n = m := ⟨n.toNat, by omega⟩
 exact impl_isCongruence_ev ha hl
theorem isC_spec {n : Int} {A : List IOp} {p : List Int} (ha : algB n A = true) (hl : p.length ≤ 1048576) : Ev (fun k => spec_l6Is.f k n A p) (isC n A p) := by
 have hn := algB_size ha
 obtain ⟨m, rfl⟩ : ∃ m : Nat, n = m := ⟨n.toNat, by omega⟩
 exact spec_l6Is_ev ha hl
theorem impl_isCongruent_ev (n : Int) (A : List IOp) (p : List Int) (hA : fitO A) (hl : p.length ≤ 1048576) : Ev (fun k => impl_isCongruent.f k n A p) (takesB n A p) := by
 unfold impl_isCongruent.f
 refine (impl_IsAlgebra_ev n A hA).bind (Ev.ite (fun h => ?_) (fun h => (Ev.now _).to (by simp [takesB, h])))
 exact (isC_impl h hl).bind ((Ev.now _).to (by simp [takesB, h]))
theorem spec_l9Takes_ev (n : Int) (A : List IOp) (p : List Int) (hA : fitO A) (hl : p.length ≤ 1048576) : Ev (fun k => spec_l9Takes.f k n A p) (takesB n A p) := by
 unfold spec_l9Takes.f
 refine (spec_l2Good_ev n A hA).bind (Ev.ite (fun h => ?_) (fun h => (Ev.now _).to (by simp [takesB, h])))
 exact (isC_spec h hl).bind ((Ev.now _).to (by simp [takesB, h]))
theorem countP_lt {P Q : Nat → Bool} : ∀ (l : List Nat), (∀ x ∈ l, P x = true → Q x = true) → (∃ x ∈ l, Q x = true ∧ P x = false) → l.countP P < l.countP Q := by
 intro l
 induction l with
 | nil => rintro _ ⟨x, hx, _⟩; simp at hx
 | cons a l ih =>
  rintro h ⟨x, hx, h1, h2⟩
  have hle : l.countP P ≤ l.countP Q := List.countP_mono_left (fun y hy => h y (by simp [hy]))
  rw [List.countP_cons, List.countP_cons]
  rcases List.mem_cons.1 hx with rfl | hx
  ·rw [h1, h2]
   simp
   omega
  ·have := ih (fun y hy => h y (by simp [hy])) ⟨x, hx, h1, h2⟩
   have ha := h a (by simp)
   cases hp : P a with
   | false => simp; omega
   | true => rw [ha hp]; simp; omega
def gb (x : List Bool) (i : Nat) : Bool := x.getD i false
theorem rdb (x : List Bool) (i : Int) : rdOf false x i = gb x i.toNat := rfl
theorem gb_at {x : List Bool} {i : Nat} (h : i < x.length) : gb x i = x[i] := by simp [gb, List.getD, h]
theorem gb_len {x : List Bool} {i : Nat} (h : gb x i = true) : i < x.length := by
 apply Classical.byContradiction
 intro hn
 simp [gb, List.getD, List.getElem?_eq_none (show x.length ≤ i by omega)] at h
theorem gb_set {x : List Bool} {i : Nat} (h : i < x.length) (j : Nat) : gb (x.set i true) j = if i = j then true else gb x j := by
 unfold gb
 rw [List.getD_eq_getElem?_getD, List.getElem?_set]
 by_cases e : i = j
 ·rw [if_pos e, if_pos h, if_pos e]
  rfl
 ·rw [if_neg e, if_neg e, List.getD_eq_getElem?_getD]
theorem ext_gb {x y : List Bool} (h : x.length = y.length) (e : ∀ i, gb x i = gb y i) : x = y := by
 apply List.ext_getElem h
 intro i h1 h2
 have := e i
 rwa [gb_at h1, gb_at h2] at this
def subS (x y : List Bool) : Prop := ∀ i, gb x i = true → gb y i = true
theorem subS_set {x : List Bool} {i : Nat} (h : i < x.length) : subS x (x.set i true) := fun j hj => by
 rw [gb_set h]
 split
 ·rfl
 ·exact hj
def argsA (n : Int) (A : List IOp) (o i : Nat) : List Int := argsM n (A.getD o z80).f0.toNat (i : Int)
def allX (x : List Bool) (l : List Int) : Bool := l.all fun v => gb x v.toNat
def valX (A : List IOp) (o i : Nat) : Nat := (gd (A.getD o z80).f1 i).toNat
def ptX (A : List IOp) (o i : Nat) : Prop := o < A.length ∧ i < (A.getD o z80).f1.length
def doneX (n : Int) (A : List IOp) (x : List Bool) (o i : Nat) : Prop := allX x (argsA n A o i) = true → gb x (valX A o i) = true
def closedS (n : Int) (A : List IOp) (x : List Bool) : Prop := ∀ o i, ptX A o i → doneX n A x o i
theorem allX_mono {x y : List Bool} (h : subS x y) {l : List Int} (hx : allX x l = true) : allX y l = true := by
 unfold allX at hx ⊢
 rw [List.all_eq_true] at hx ⊢
 exact fun v hv => h _ (hx v hv)
structure UnderS (n : Int) (A : List IOp) (x0 y : List Bool) : Prop where
 len : (y.length : Int) = n
 up : subS x0 y
 least : ∀ z : List Bool, (z.length : Int) = n → closedS n A z → subS x0 z → subS y z
def isGen (n : Int) (A : List IOp) (x0 y : List Bool) : Prop := UnderS n A x0 y ∧ closedS n A y
theorem isGen_one {n : Int} {A : List IOp} {x0 y z : List Bool} (h : isGen n A x0 y) (h' : isGen n A x0 z) : y = z :=
 ext_gb (by have := h.1.len; have := h'.1.len; omega) (fun i => Bool.eq_iff_iff.2 ⟨h.1.least z h'.1.len h'.2 h'.1.up i, h'.1.least y h.1.len h.2 h.1.up i⟩)
theorem UnderS.refl {n : Int} {A : List IOp} {x : List Bool} (h : (x.length : Int) = n) : UnderS n A x x := ⟨h, fun _ h => h, fun _ _ _ h => h⟩
theorem UnderS.trans {n : Int} {A : List IOp} {x y z : List Bool} (h : UnderS n A x y) (h' : UnderS n A y z) : UnderS n A x z :=
 ⟨h'.len, fun i hi => h'.up i (h.up i hi), fun w hw hc hs => h'.least w hw hc (h.least w hw hc hs)⟩
theorem UnderS.put {n : Int} {A : List IOp} {x0 q y : List Bool} (hq : UnderS n A x0 q) (hy : UnderS n A x0 y) {o i : Nat} (pt : ptX A o i) (ok : allX q (argsA n A o i) = true) (hv : valX A o i < y.length) : UnderS n A x0 (y.set (valX A o i) true) := by
 refine ⟨by rw [List.length_set]; exact hy.len, fun j hj => subS_set hv j (hy.up j hj), fun z hz hc hs j hj => ?_⟩
 rw [gb_set hv] at hj
 by_cases e : valX A o i = j
 ·subst e
  exact hc o i pt (allX_mono (hq.least z hz hc hs) ok)
 ·rw [if_neg e] at hj
  exact hy.least z hz hc hs j hj
def mf (x : List Bool) : Nat := (List.range x.length).countP fun i => !gb x i
theorem mf_le (x : List Bool) : mf x ≤ x.length := by
 have := List.countP_le_length (p := fun i => !gb x i) (l := List.range x.length)
 rwa [List.length_range] at this
theorem mf_lt {x y : List Bool} (hl : y.length = x.length) (h : subS x y) {i : Nat} (hi : i < x.length) (h1 : gb x i = false) (h2 : gb y i = true) : mf y < mf x := by
 unfold mf
 rw [hl]
 refine countP_lt _ (fun j _ hj => ?_) ⟨i, List.mem_range.2 hi, by simp [h1], by simp [h2]⟩
 cases e : gb x j with
 | false => rfl
 | true => rw [h j e] at hj; simp at hj
theorem pt_facts {n : Int} {A : List IOp} (ha : algB n A = true) {o i : Nat} (pt : ptX A o i) : ∃ ar : Nat, (A.getD o z80).f0 = ar ∧ ar ≤ 3 ∧ argsA n A o i = argsM n ar (i : Int) ∧ (A.getD o z80).f1.length ≤ 512 ∧ 0 ≤ gd (A.getD o z80).f1 i ∧ gd (A.getD o z80).f1 i < n ∧ ((valX A o i : Nat) : Int) = gd (A.getD o z80).f1 i ∧ ∀ x ∈ argsM n ar (i : Int), 0 ≤ x ∧ x < n := by
 have hn := algB_size ha
 obtain ⟨ar, e1, e2, e3, e4⟩ := opB_of (algB_op ha pt.1)
 have h512 := pow_le3 hn e2
 have hx := e4 (gd (A.getD o z80).f1 i) (by rw [gd_lt pt.2]; exact List.getElem_mem _)
 exact ⟨ar, e1, e2, by unfold argsA; rw [e1, Int.toNat_natCast], by omega, hx.1, hx.2, by unfold valX; omega, argsM_in hn.1 ar (i : Int) (by omega)⟩
theorem impl_allIn_ev {n : Int} (hn : 1 ≤ n ∧ n ≤ 8) (x : List Bool) (hx : (x.length : Int) = n) : ∀ (ar : Nat) (i : Int), ar ≤ 3 → 0 ≤ i → i ≤ 1048576 → Ev (fun k => impl_allIn.f k i (ar : Int) n x) (allX x (argsM n ar i)) := by
 intro ar
 unfold impl_allIn.f
 induction ar with
 | zero =>
  intro i _ _ _
  exact Ev.step (fun _ => impl_allIn.l0.eq_2 ..) (Ev.neg (by omega) (Ev.now _))
 | succ ar ih =>
  intro i har h0 h1
  obtain ⟨e1, e2, e3⟩ := div_in (n := n) h0 (by omega) hn.1
  have hm0 : 0 ≤ i % n := Int.emod_nonneg _ (by omega)
  have hm1 : i % n < n := Int.emod_lt_of_pos _ (by omega)
  have hall : allX x (argsM n (ar + 1) i) = (allX x (argsM n ar (i / n)) && gb x (i % n).toNat) := by simp [allX, argsM]
  rw [hall]
  refine Ev.step (fun _ => impl_allIn.l0.eq_2 ..) (Ev.pos (by omega) (Ev.neg (by omega) ?_))
  rw [Int.tmod_eq_emod_of_nonneg h0, rdb, e1, show wrap64 (((ar + 1 : Nat) : Int) - 1) = (ar : Int) by rw [w64 (by omega) (by omega)]; omega]
  refine Ev.pos hm0 (Ev.pos (by omega) (Ev.ite (fun h => ?_) (fun h => (Ev.now _).to (by simp [h]))))
  rw [h, Bool.and_true]
  exact ih (i / n) (by omega) e2 (by omega)
theorem impl_closeUnder_in2 {n : Int} {A : List IOp} {x0 : List Bool} (ha : algB n A = true) (o : Nat) (ho : o < A.length) :
  ∀ (d i : Nat) (x : List Bool) (c : Bool), i + d = (A.getD o z80).f1.length → UnderS n A x0 x →
   (∀ x' c', UnderS n A x0 x' → (c' = c ∧ x' = x ∧ (∀ j, i ≤ j → j < (A.getD o z80).f1.length → doneX n A x o j) ∨ c' = true ∧ mf x' < mf x) → ∃ q, isGen n A x0 q ∧ Ev (fun k => impl_closeUnder.l1 k x' c' A (A.length : Int) ((o + 1 : Nat) : Int) n A) q) →
   ∃ q, isGen n A x0 q ∧ Ev (fun k => impl_closeUnder.l2 k x c A (A.length : Int) (o : Int) (A.getD o z80).f1 ((A.getD o z80).f1.length : Int) (i : Int) n A (A.getD o z80).f0 (A.getD o z80).f1) q := by
 have hn := algB_size ha
 have hfew := algB_few ha
 intro d
 induction d with
 | zero =>
  intro i x c hi hx h
  obtain ⟨q, q1, q2⟩ := h x c hx (.inl ⟨rfl, rfl, fun j h1 h2 => by omega⟩)
  refine ⟨q, q1, Ev.step (fun _ => impl_closeUnder.l2.eq_2 ..) (Ev.neg (by omega) ?_)⟩
  rw [w64s (i := o) (n := 1000) (by omega) (by omega)]
  exact q2
 | succ d ih =>
  intro i x c hi hx h
  have pt : ptX A o i := ⟨ho, by omega⟩
  obtain ⟨ar, e1, e2, e3, e4, e5, e6, e7, e8⟩ := pt_facts ha pt
  have hxl := hx.len
  have next : ∀ (x1 : List Bool) (c1 : Bool), UnderS n A x0 x1 → (c1 = c ∧ x1 = x ∧ doneX n A x o i ∨ c1 = true ∧ mf x1 < mf x) → ∃ q, isGen n A x0 q ∧ Ev (fun k => impl_closeUnder.l2 k x1 c1 A (A.length : Int) (o : Int) (A.getD o z80).f1 ((A.getD o z80).f1.length : Int) ((i + 1 : Nat) : Int) n A (A.getD o z80).f0 (A.getD o z80).f1) q := fun x1 c1 h1 h2 => by
   refine ih (i + 1) x1 c1 (by omega) h1 (fun x' c' h3 h4 => h x' c' h3 ?_)
   rcases h2 with ⟨rfl, rfl, h2⟩ | ⟨rfl, h2⟩
   ·rcases h4 with ⟨rfl, rfl, h4⟩ | h4
    ·refine .inl ⟨rfl, rfl, fun j h5 h6 => ?_⟩
     by_cases e : j = i
     ·rw [e]; exact h2
     ·exact h4 j (by omega) h6
    ·exact .inr h4
   ·rcases h4 with ⟨rfl, rfl, _⟩ | ⟨rfl, h4⟩
    ·exact .inr ⟨rfl, h2⟩
    ·exact .inr ⟨rfl, by omega⟩
  have hvx : gb x (gd (A.getD o z80).f1 i).toNat = gb x (valX A o i) := rfl
  have go : ∀ q, (gb x (valX A o i) = true → Ev (fun k => impl_closeUnder.l2 k x c A (A.length : Int) (o : Int) (A.getD o z80).f1 ((A.getD o z80).f1.length : Int) ((i + 1 : Nat) : Int) n A (A.getD o z80).f0 (A.getD o z80).f1) q) →
    (gb x (valX A o i) = false → Ev (fun k => impl_closeUnder.l2 k (if allX x (argsA n A o i) = true then x.set (valX A o i) true else x) (if allX x (argsA n A o i) = true then true else c) A (A.length : Int) (o : Int) (A.getD o z80).f1 ((A.getD o z80).f1.length : Int) ((i + 1 : Nat) : Int) n A (A.getD o z80).f0 (A.getD o z80).f1) q) →
    Ev (fun k => impl_closeUnder.l2 k x c A (A.length : Int) (o : Int) (A.getD o z80).f1 ((A.getD o z80).f1.length : Int) (i : Int) n A (A.getD o z80).f0 (A.getD o z80).f1) q := fun q g1 g2 => by
   refine Ev.step (fun _ => impl_closeUnder.l2.eq_2 ..) ?_
   rw [rdn, rdb, hvx, w64s (i := i) (n := 1000) (by omega) (by omega)]
   refine Ev.pos (by omega) (Ev.pos (by omega) (Ev.pos (by omega) (Ev.pos e5 (Ev.pos (by omega) (Ev.ite (fun hv => g1 hv) (fun hv => ?_))))))
   have hA := impl_allIn_ev hn x hxl ar (i : Int) e2 (by omega) (by omega)
   rw [← e3] at hA
   rw [e1] at g2 ⊢
   refine hA.bind ?_
   have g3 := g2 (by simpa using hv)
   refine Ev.ite (fun hc => ?_) (fun hc => ?_)
   ·rw [if_pos hc, if_pos hc] at g3
    exact g3
   ·rw [if_neg hc, if_neg hc] at g3
    exact g3
  by_cases hv : gb x (valX A o i) = true
  ·obtain ⟨q, q1, q2⟩ := next x c hx (.inl ⟨rfl, rfl, fun _ => hv⟩)
   exact ⟨q, q1, go q (fun _ => q2) (fun h => by rw [hv] at h; simp at h)⟩
  ·by_cases hc : allX x (argsA n A o i) = true
   ·have hlt : valX A o i < x.length := by omega
    obtain ⟨q, q1, q2⟩ := next (x.set (valX A o i) true) true (UnderS.put hx hx pt hc hlt) (.inr ⟨rfl, mf_lt (by simp) (subS_set hlt) hlt (by simpa using hv) (by rw [gb_set hlt]; simp)⟩)
    exact ⟨q, q1, go q (fun h => absurd h hv) (fun _ => by rw [if_pos hc, if_pos hc]; exact q2)⟩
   ·obtain ⟨q, q1, q2⟩ := next x c hx (.inl ⟨rfl, rfl, fun h => absurd h hc⟩)
    exact ⟨q, q1, go q (fun h => absurd h hv) (fun _ => by rw [if_neg hc, if_neg hc]; exact q2)⟩
theorem impl_closeUnder_in1 {n : Int} {A : List IOp} {x0 : List Bool} (ha : algB n A = true) :
  ∀ (d o : Nat) (x : List Bool) (c : Bool), o + d = A.length → UnderS n A x0 x →
   (∀ x' c', UnderS n A x0 x' → (c' = c ∧ x' = x ∧ (∀ o' j, o ≤ o' → ptX A o' j → doneX n A x o' j) ∨ c' = true ∧ mf x' < mf x) → ∃ q, isGen n A x0 q ∧ Ev (fun k => impl_closeUnder.l0 k x' c' n A) q) →
   ∃ q, isGen n A x0 q ∧ Ev (fun k => impl_closeUnder.l1 k x c A (A.length : Int) (o : Int) n A) q := by
 intro d
 induction d with
 | zero =>
  intro o x c ho hx h
  obtain ⟨q, q1, q2⟩ := h x c hx (.inl ⟨rfl, rfl, fun o' j h1 h2 => by have := h2.1; omega⟩)
  exact ⟨q, q1, Ev.step (fun _ => impl_closeUnder.l1.eq_2 ..) (Ev.neg (by omega) q2)⟩
 | succ d ih =>
  intro o x c ho hx h
  obtain ⟨q, q1, q2⟩ := impl_closeUnder_in2 ha o (by omega) _ 0 x c (Nat.zero_add _) hx (fun x1 c1 h1 h2 => ih (o + 1) x1 c1 (by omega) h1 (fun x' c' h3 h4 => h x' c' h3 (by
   rcases h2 with ⟨rfl, rfl, h2⟩ | ⟨rfl, h2⟩
   ·rcases h4 with ⟨rfl, rfl, h4⟩ | h4
    ·refine .inl ⟨rfl, rfl, fun o' j h5 h6 => ?_⟩
     by_cases e : o' = o
     ·subst e; exact h2 j (by omega) h6.2
     ·exact h4 o' j (by omega) h6
    ·exact .inr h4
   ·rcases h4 with ⟨rfl, rfl, _⟩ | ⟨rfl, h4⟩
    ·exact .inr ⟨rfl, h2⟩
    ·exact .inr ⟨rfl, by omega⟩)))
  refine ⟨q, q1, Ev.step (fun _ => impl_closeUnder.l1.eq_2 ..) (Ev.pos (by omega) (Ev.pos (by omega) (Ev.pos (by omega) ?_)))⟩
  rw [rdO_n]
  exact q2
theorem impl_closeUnder_loop {n : Int} {A : List IOp} {x0 : List Bool} (ha : algB n A = true) : ∀ (m : Nat) (x : List Bool), mf x < m → UnderS n A x0 x → ∃ q, isGen n A x0 q ∧ Ev (fun k => impl_closeUnder.l0 k x true n A) q := by
 intro m
 induction m with
 | zero => intro x h; omega
 | succ m ih =>
  intro x hm hx
  obtain ⟨q, q1, q2⟩ := impl_closeUnder_in1 ha A.length 0 x false (Nat.zero_add _) hx (fun x' c' h1 h2 => by
   rcases h2 with ⟨rfl, rfl, h2⟩ | ⟨rfl, h2⟩
   ·exact ⟨x', ⟨h1, fun o i pt => h2 o i (Nat.zero_le _) pt⟩, Ev.step (fun _ => impl_closeUnder.l0.eq_2 ..) (Ev.neg (by simp) (Ev.now _))⟩
   ·exact ih x' (by omega) h1)
  exact ⟨q, q1, Ev.step (fun _ => impl_closeUnder.l0.eq_2 ..) (Ev.pos rfl q2)⟩
theorem impl_closeUnder_ev {n : Int} {A : List IOp} {x : List Bool} (ha : algB n A = true) (hx : (x.length : Int) = n) : ∃ q, isGen n A x q ∧ Ev (fun k => impl_closeUnder.f k n A x) q := by
 unfold impl_closeUnder.f
 exact impl_closeUnder_loop ha (mf x + 1) x (by omega) (UnderS.refl hx)
def setAll (x : List Bool) (l : List Int) : List Bool := l.foldl (fun x v => x.set v.toNat true) x
def marksM (n : Int) (l : List Int) : List Bool := setAll (List.replicate n.toNat false) l
theorem setAll_length (l : List Int) : ∀ x : List Bool, (setAll x l).length = x.length := by
 induction l with
 | nil => intro x; rfl
 | cons v l ih => intro x; exact (ih _).trans (by simp)
theorem setAll_at {l : List Int} : ∀ (x : List Bool), (∀ v ∈ l, 0 ≤ v ∧ v < (x.length : Int)) → ∀ j, (gb (setAll x l) j = true ↔ gb x j = true ∨ (j : Int) ∈ l) := by
 induction l with
 | nil => intro x _ j; simp [setAll]
 | cons v l ih =>
  intro x h j
  have hv := h v (by simp)
  have e : setAll x (v :: l) = setAll (x.set v.toNat true) l := rfl
  rw [e, ih _ (fun u hu => by rw [List.length_set]; exact h u (by simp [hu])) j, gb_set (by omega), List.mem_cons]
  by_cases e2 : v.toNat = j
  ·simp [e2, show (j : Int) = v by omega]
  ·simp [e2, show ¬ (j : Int) = v by omega]
theorem marksM_length {n : Int} (hn : 1 ≤ n) (l : List Int) : ((marksM n l).length : Int) = n := by
 unfold marksM
 rw [setAll_length, List.length_replicate]
 omega
theorem marksM_at {n : Int} (hn : 1 ≤ n) {l : List Int} (h : ∀ v ∈ l, 0 ≤ v ∧ v < n) (j : Nat) : gb (marksM n l) j = true ↔ (j : Int) ∈ l := by
 unfold marksM
 rw [setAll_at _ (fun v hv => by rw [List.length_replicate]; have := h v hv; omega)]
 have : gb (List.replicate n.toNat false) j = false := by
  simp only [gb, List.getD, List.getElem?_replicate]
  split <;> rfl
 simp [this]
theorem impl_marks_ev {n : Int} (hn : 1 ≤ n ∧ n ≤ 1048576) (l : List Int) (hl : l.length ≤ 1048576) (h : ∀ v ∈ l, 0 ≤ v ∧ v < n) : Ev (fun k => impl_marks.f k l n) (marksM n l) := by
 unfold impl_marks.f
 refine Ev.pos (by omega) (Ev.pos (by omega) ?_)
 suffices hh : ∀ (d i : Nat) (x : List Bool), i + d = l.length → (x.length : Int) = n → Ev (fun k => impl_marks.l0 k x l (l.length : Int) (i : Int)) (setAll x (l.drop i)) from hh l.length 0 _ (by omega) (by simp; omega)
 intro d
 induction d with
 | zero =>
  intro i x hi hx
  rw [List.drop_of_length_le (by omega)]
  exact Ev.step (fun _ => impl_marks.l0.eq_2 ..) (Ev.neg (by omega) (Ev.now _))
 | succ d ih =>
  intro i x hi hx
  have hv := h (gd l i) (by rw [gd_lt (by omega)]; exact List.getElem_mem _)
  rw [drop_cons l 0 (by omega)]
  refine Ev.step (fun _ => impl_marks.l0.eq_2 ..) ?_
  rw [rdn, w64s (i := i) (n := l.length) (by omega) (by omega)]
  exact Ev.pos (by omega) (Ev.pos (by omega) (Ev.pos (by omega) (Ev.pos hv.1 (Ev.pos (by omega) (ih (i + 1) _ (by omega) (by simpa using hx))))))
theorem spec_l5In_ev {n : Int} (hn : 1 ≤ n ∧ n ≤ 1048576) (l : List Int) (hl : l.length ≤ 1048576) (h : ∀ v ∈ l, 0 ≤ v ∧ v < n) : Ev (fun k => spec_l5In.f k n l) (marksM n l) := by
 unfold spec_l5In.f
 refine Ev.pos (by omega) (Ev.pos (by omega) ?_)
 suffices hh : ∀ (d i : Nat) (x : List Bool), i + d = l.length → (x.length : Int) = n → Ev (fun k => spec_l5In.l0 k l x (i : Int)) (setAll x (l.drop i)) from hh l.length 0 _ (by omega) (by simp; omega)
 intro d
 induction d with
 | zero =>
  intro i x hi hx
  rw [List.drop_of_length_le (by omega)]
  exact Ev.step (fun _ => spec_l5In.l0.eq_2 ..) (Ev.neg (by omega) (Ev.now _))
 | succ d ih =>
  intro i x hi hx
  have hv := h (gd l i) (by rw [gd_lt (by omega)]; exact List.getElem_mem _)
  rw [drop_cons l 0 (by omega)]
  refine Ev.step (fun _ => spec_l5In.l0.eq_2 ..) ?_
  rw [rdn, w64s (i := i) (n := l.length) (by omega) (by omega)]
  exact Ev.pos (by omega) (Ev.pos (by omega) (Ev.pos hv.1 (Ev.pos (by omega) (ih (i + 1) _ (by omega) (by simpa using hx)))))
def listTo (x : List Bool) (i : Nat) : List Int := ((List.range i).filter (gb x)).map fun (i : Nat) => (i : Int)
def listM (x : List Bool) : List Int := listTo x x.length
theorem listTo_succ (x : List Bool) (i : Nat) : listTo x (i + 1) = listTo x i ++ if gb x i = true then [(i : Int)] else [] := by
 unfold listTo
 rw [List.range_succ, List.filter_append, List.map_append]
 by_cases h : gb x i = true
 ·simp [h]
 ·simp [h]
theorem listTo_len (x : List Bool) (i : Nat) : (listTo x i).length ≤ i := by
 unfold listTo
 rw [List.length_map]
 have := List.length_filter_le (gb x) (List.range i)
 rwa [List.length_range] at this
theorem listM_mem {x : List Bool} {i : Nat} : (i : Int) ∈ listM x ↔ gb x i = true := by
 unfold listM listTo
 simp only [List.mem_map, List.mem_filter, List.mem_range]
 constructor
 ·rintro ⟨j, ⟨_, h⟩, e⟩
  rwa [show i = j by omega]
 ·intro h
  exact ⟨i, ⟨gb_len h, h⟩, rfl⟩
theorem listM_in {x : List Bool} : ∀ v ∈ listM x, 0 ≤ v ∧ v < (x.length : Int) := by
 intro v hv
 obtain ⟨i, hi, rfl⟩ := List.mem_map.1 hv
 have := List.mem_range.1 (List.mem_filter.1 hi).1
 omega
theorem listM_asc (x : List Bool) : (listM x).Pairwise (· < ·) := by
 unfold listM listTo
 exact List.pairwise_map.2 (List.Pairwise.imp (fun h => by omega) (List.Pairwise.filter _ List.pairwise_lt_range))
theorem listM_count (x : List Bool) : (listM x).length + mf x = x.length := by
 unfold listM listTo mf
 rw [List.length_map, ← List.countP_eq_length_filter]
 have := List.length_eq_countP_add_countP (gb x) (l := List.range x.length)
 rw [List.length_range] at this
 have e : (List.range x.length).countP (fun i => !gb x i) = (List.range x.length).countP (fun a => decide ¬ gb x a = true) := by
  congr 1
  funext i
  cases gb x i <;> rfl
 omega
theorem impl_marked_ev (x : List Bool) (hl : x.length ≤ 1048576) : Ev (fun k => impl_marked.f k x) (listM x) := by
 unfold impl_marked.f
 suffices hh : ∀ (d i : Nat), i + d = x.length → Ev (fun k => impl_marked.l0 k (listTo x i) x (x.length : Int) (i : Int)) (listM x) from hh x.length 0 (by omega)
 intro d
 induction d with
 | zero =>
  intro i hi
  have : i = x.length := by omega
  subst this
  exact Ev.step (fun _ => impl_marked.l0.eq_2 ..) (Ev.neg (by omega) (Ev.now _))
 | succ d ih =>
  intro i hi
  have hs := listTo_succ x i
  have hlen := listTo_len x i
  refine Ev.step (fun _ => impl_marked.l0.eq_2 ..) ?_
  rw [rdb, Int.toNat_natCast, w64s (i := i) (n := x.length) (by omega) (by omega)]
  refine Ev.pos (by omega) (Ev.pos (by omega) (Ev.pos (by omega) (Ev.ite (fun hr => ?_) (fun hr => ?_))))
  ·rw [if_pos hr] at hs
   refine Ev.pos (by omega) ?_
   rw [← hs]
   exact ih (i + 1) (by omega)
  ·rw [if_neg hr, List.append_nil] at hs
   rw [← hs]
   exact ih (i + 1) (by omega)
theorem spec_l5List_ev (x : List Bool) (hl : x.length ≤ 1048576) : Ev (fun k => spec_l5List.f k x) (listM x) := by
 unfold spec_l5List.f
 suffices hh : ∀ (d i : Nat), i + d = x.length → Ev (fun k => spec_l5List.l0 k x (listTo x i) (i : Int)) (listM x) from hh x.length 0 (by omega)
 intro d
 induction d with
 | zero =>
  intro i hi
  have : i = x.length := by omega
  subst this
  exact Ev.step (fun _ => spec_l5List.l0.eq_2 ..) (Ev.neg (by omega) (Ev.now _))
 | succ d ih =>
  intro i hi
  have hs := listTo_succ x i
  have hlen := listTo_len x i
  refine Ev.step (fun _ => spec_l5List.l0.eq_2 ..) ?_
  rw [rdb, Int.toNat_natCast, w64s (i := i) (n := x.length) (by omega) (by omega)]
  refine Ev.pos (by omega) (Ev.pos (by omega) (Ev.ite (fun hr => ?_) (fun hr => ?_)))
  ·rw [if_pos hr] at hs
   refine Ev.pos (by omega) ?_
   rw [← hs]
   exact ih (i + 1) (by omega)
  ·rw [if_neg hr, List.append_nil] at hs
   rw [← hs]
   exact ih (i + 1) (by omega)
theorem asc_ext : ∀ (a b : List Int), a.Pairwise (· < ·) → b.Pairwise (· < ·) → (∀ x, x ∈ a ↔ x ∈ b) → a = b := by
 intro a
 induction a with
 | nil =>
  intro b _ _ h
  cases b with
  | nil => rfl
  | cons y b => have := (h y).2 (by simp); simp at this
 | cons x a ih =>
  intro b ha hb h
  cases b with
  | nil => have := (h x).1 (by simp); simp at this
  | cons y b =>
   rw [List.pairwise_cons] at ha hb
   have e : x = y := by
    have h1 := (h x).1 (by simp)
    have h2 := (h y).2 (by simp)
    rcases List.mem_cons.1 h1 with h1 | h1
    ·exact h1
    ·rcases List.mem_cons.1 h2 with h2 | h2
     ·exact h2.symm
     ·have := ha.1 y h2
      have := hb.1 x h1
      omega
   subst e
   rw [ih b ha.2 hb.2 (fun z => ?_)]
   constructor
   ·intro hz
    rcases List.mem_cons.1 ((h z).1 (by simp [hz])) with e | e
    ·have := ha.1 z hz
     omega
    ·exact e
   ·intro hz
    rcases List.mem_cons.1 ((h z).2 (by simp [hz])) with e | e
    ·have := hb.1 z hz
     omega
    ·exact e
def riseB (l : List Int) : Bool := (List.range' 1 (l.length - 1)).all fun i => decide (gd l (i - 1) < gd l i)
theorem rise_pair {l : List Int} (h : riseB l = true) : l.Pairwise (· < ·) := by
 simp only [riseB, List.all_eq_true, List.mem_range'_1, decide_eq_true_eq] at h
 rw [List.pairwise_iff_getElem]
 have key : ∀ (d i : Nat), i + d + 1 < l.length → gd l i < gd l (i + d + 1) := by
  intro d
  induction d with
  | zero => intro i hi; exact h (i + 1) ⟨by omega, by omega⟩
  | succ d ih =>
   intro i hi
   have h1 := ih i (by omega)
   have h2 := h (i + (d + 1) + 1) ⟨by omega, by omega⟩
   simp only [Nat.add_sub_cancel] at h2
   have e : i + d + 1 = i + (d + 1) := by omega
   rw [e] at h1
   omega
 intro i j hi hj hij
 have := key (j - i - 1) i (by omega)
 rw [show i + (j - i - 1) + 1 = j by omega] at this
 rwa [gd_lt hi, gd_lt hj] at this
theorem rise_of {l : List Int} {n : Int} (hn : 1 ≤ n) (hr : riseB l = true) (h : ∀ v ∈ l, 0 ≤ v ∧ v < n) : listM (marksM n l) = l := by
 refine asc_ext _ _ (listM_asc _) (rise_pair hr) (fun v => ?_)
 constructor
 ·intro hv
  have h1 := listM_in v hv
  obtain ⟨i, rfl⟩ : ∃ i : Nat, v = (i : Int) := ⟨v.toNat, by omega⟩
  exact (marksM_at hn h i).1 (listM_mem.1 hv)
 ·intro hv
  have h1 := h v hv
  obtain ⟨i, rfl⟩ : ∃ i : Nat, v = (i : Int) := ⟨v.toNat, by omega⟩
  exact listM_mem.2 ((marksM_at hn h i).2 hv)
theorem impl_rises_ev (l : List Int) (hl : l.length ≤ 1048576) : Ev (fun k => impl_rises.f k l) (riseB l) := by
 unfold impl_rises.f riseB
 by_cases h0 : l.length = 0
 ·rw [h0]
  exact Ev.step (fun _ => impl_rises.l0.eq_2 ..) (Ev.neg (by omega) (Ev.now _))
 suffices hh : ∀ (d i : Nat), i + d = l.length → 1 ≤ i → Ev (fun k => impl_rises.l0 k l (i : Int)) ((List.range' i d).all fun i => decide (gd l (i - 1) < gd l i)) from hh (l.length - 1) 1 (by omega) (by omega)
 intro d
 induction d with
 | zero =>
  intro i hi h1
  exact Ev.step (fun _ => impl_rises.l0.eq_2 ..) (Ev.neg (by omega) (Ev.now _))
 | succ d ih =>
  intro i hi h1
  refine Ev.step (fun _ => impl_rises.l0.eq_2 ..) ?_
  rw [show wrap64 ((i : Int) - 1) = ((i - 1 : Nat) : Int) by rw [w64 (by omega) (by omega)]; omega, rdn, rdn, w64s (i := i) (n := l.length) (by omega) (by omega), List.range'_succ, List.all_cons]
  refine Ev.pos (by omega) (Ev.pos (by omega) (Ev.pos (by omega) (Ev.pos (by omega) (Ev.ite (fun h => (Ev.now _).to ?_) (fun h => (ih (i + 1) (by omega) (by omega)).to ?_)))))
  ·rw [decide_eq_false (by omega), Bool.false_and]
  ·rw [decide_eq_true (by omega), Bool.true_and]
theorem spec_l1Rising_ev (l : List Int) (n : Int) (hn : 1 ≤ n ∧ n ≤ 8) (hl : l.length ≤ 1048576) : Ev (fun k => spec_l1Rising.f k l 0 (wrap64 (n - 1))) (l.all (inB n) && riseB l) := by
 have e : (l.all (inB n) && riseB l) = (List.range' 0 l.length).all fun i => inB n (gd l i) && (decide (i = 0) || decide (gd l (i - 1) < gd l i)) := by
  rw [Bool.eq_iff_iff, Bool.and_eq_true, riseB]
  simp only [List.all_eq_true, List.mem_range'_1, Bool.and_eq_true, Bool.or_eq_true, decide_eq_true_eq]
  constructor
  ·rintro ⟨h1, h2⟩ i hi
   refine ⟨h1 _ (by rw [gd_lt (by omega)]; exact List.getElem_mem _), ?_⟩
   by_cases e : i = 0
   ·exact .inl e
   ·exact .inr (h2 i ⟨by omega, by omega⟩)
  ·intro h
   refine ⟨fun x hx => ?_, fun i hi => ?_⟩
   ·obtain ⟨i, hi, rfl⟩ := List.getElem_of_mem hx
    rw [← gd_lt hi]
    exact (h i ⟨by omega, by omega⟩).1
   ·rcases (h i ⟨by omega, by omega⟩).2 with e | e
    ·omega
    ·exact e
 rw [e]
 unfold spec_l1Rising.f
 rw [w64 (x := n - 1) (by omega) (by omega)]
 suffices hh : ∀ (d i : Nat), i + d = l.length → Ev (fun k => spec_l1Rising.l0 k l 0 (n - 1) (i : Int)) ((List.range' i d).all fun i => inB n (gd l i) && (decide (i = 0) || decide (gd l (i - 1) < gd l i))) from hh l.length 0 (by omega)
 intro d
 induction d with
 | zero =>
  intro i hi
  exact Ev.step (fun _ => spec_l1Rising.l0.eq_2 ..) (Ev.neg (by omega) (Ev.now _))
 | succ d ih =>
  intro i hi
  refine Ev.step (fun _ => spec_l1Rising.l0.eq_2 ..) ?_
  rw [rdn, spec_l1In_eq, w64s (i := i) (n := l.length) (by omega) (by omega), List.range'_succ, List.all_cons]
  refine Ev.pos (by omega) (Ev.pos (by omega) (Ev.bind1 (Ev.ite (fun h => ?_) (fun h => (Ev.now _).to ?_))))
  ·have h' := of_decide_eq_true h
   have hin : inB n (gd l i) = true := decide_eq_true (by omega)
   rw [hin, Bool.true_and]
   refine Ev.ite (fun h1 => ?_) (fun h1 => (ih (i + 1) (by omega)).to ?_)
   ·rw [show wrap64 ((i : Int) - 1) = ((i - 1 : Nat) : Int) by rw [w64 (by omega) (by omega)]; omega, rdn]
    refine Ev.pos (by omega) (Ev.pos (by omega) (Ev.ite (fun h2 => (Ev.now _).to ?_) (fun h2 => (ih (i + 1) (by omega)).to ?_)))
    ·rw [decide_eq_false (show ¬ i = 0 by omega), decide_eq_false (show ¬ gd l (i - 1) < gd l i by omega)]
     simp
    ·rw [decide_eq_true (show gd l (i - 1) < gd l i by omega), Bool.or_true, Bool.true_and]
   ·rw [decide_eq_true (show i = 0 by omega), Bool.true_or, Bool.true_and]
  ·have h' : ¬ (0 ≤ gd l i ∧ gd l i ≤ n - 1) := by simpa using h
   have hin : inB n (gd l i) = false := decide_eq_false (by omega)
   rw [hin, Bool.false_and, Bool.false_and]
def stepP (n : Int) (A : List IOp) (x y : List Bool) : Prop := UnderS n A x y ∧ ∀ o i, ptX A o i → allX x (argsA n A o i) = true → gb y (valX A o i) = true
theorem spec_l5Step_in2 {n : Int} {A : List IOp} (ha : algB n A = true) (x out : List Bool) (hx : (x.length : Int) = n) (ho : (out.length : Int) = n) {o i : Nat} (pt : ptX A o i) (r : List Bool)
  (h : Ev (fun k => spec_l5Step.l1 k x (if allX x (argsA n A o i) = true then out.set (valX A o i) true else out) (o : Int) ((i + 1 : Nat) : Int) n A) r) :
  ∀ (d j : Nat) (b : Bool), j + d = (argsA n A o i).length → (b && ((argsA n A o i).drop j).all fun v => gb x v.toNat) = allX x (argsA n A o i) → Ev (fun k => spec_l5Step.l2 k x out (o : Int) (i : Int) (argsA n A o i) b (j : Int) n A) r := by
 obtain ⟨ar, e1, e2, e3, e4, e5, e6, e7, e8⟩ := pt_facts ha pt
 have hn := algB_size ha
 have hT := pt.2
 have hO := pt.1
 have hal : (argsA n A o i).length = ar := by rw [e3, argsM_length]
 intro d
 induction d with
 | zero =>
  intro j b hj hb
  rw [List.drop_of_length_le (by omega), List.all_nil, Bool.and_true] at hb
  refine Ev.step (fun _ => spec_l5Step.l2.eq_2 ..) (Ev.neg (by omega) ?_)
  rw [rdO_n, rdn, w64s (i := i) (n := 1000) (by omega) (by omega)]
  rw [← hb] at h
  refine Ev.ite (fun hc => ?_) (fun hc => ?_)
  ·rw [if_pos hc] at h
   exact Ev.pos (by omega) (Ev.pos (by omega) (Ev.pos (by omega) (Ev.pos (by omega) (Ev.pos e5 (Ev.pos (by omega) h)))))
  ·rw [if_neg hc] at h
   exact h
 | succ d ih =>
  intro j b hj hb
  have hv := e8 (gd (argsA n A o i) j) (by rw [← e3, gd_lt (by omega)]; exact List.getElem_mem _)
  rw [drop_cons (argsA n A o i) 0 (by omega), List.all_cons] at hb
  refine Ev.step (fun _ => spec_l5Step.l2.eq_2 ..) (Ev.pos (by omega) ?_)
  rw [rdn, rdb, w64s (i := j) (n := 1000) (by omega) (by omega)]
  cases b with
  | true =>
   refine Ev.pos rfl (Ev.pos (by omega) (Ev.pos hv.1 (Ev.pos (by omega) (ih (j + 1) _ (by omega) ?_))))
   rw [← hb, Bool.true_and]
   rfl
  | false =>
   refine Ev.neg (by simp) (ih (j + 1) _ (by omega) ?_)
   rw [← hb]
   simp
theorem spec_l5Step_in1 {n : Int} {A : List IOp} (ha : algB n A = true) (x : List Bool) (hx : (x.length : Int) = n) (o : Nat) (ho : o < A.length) (P : List Bool → Prop) :
  ∀ (d i : Nat) (out : List Bool), i + d = (A.getD o z80).f1.length → UnderS n A x out →
   (∀ out', UnderS n A x out' → subS out out' → (∀ j, i ≤ j → ptX A o j → allX x (argsA n A o j) = true → gb out' (valX A o j) = true) → ∃ y, P y ∧ Ev (fun k => spec_l5Step.l0 k x out' ((o + 1 : Nat) : Int) n A) y) →
   ∃ y, P y ∧ Ev (fun k => spec_l5Step.l1 k x out (o : Int) (i : Int) n A) y := by
 have hfew := algB_few ha
 intro d
 induction d with
 | zero =>
  intro i out hi hU h
  obtain ⟨y, y1, y2⟩ := h out hU (fun _ h => h) (fun j h1 h2 => by have := h2.2; omega)
  refine ⟨y, y1, Ev.step (fun _ => spec_l5Step.l1.eq_2 ..) (Ev.pos (by omega) (Ev.pos (by omega) (Ev.neg (by rw [rdO_n]; omega) ?_)))⟩
  rw [w64s (i := o) (n := 1000) (by omega) (by omega)]
  exact y2
 | succ d ih =>
  intro i out hi hU h
  have pt : ptX A o i := ⟨ho, by omega⟩
  obtain ⟨ar, e1, e2, e3, e4, e5, e6, e7, e8⟩ := pt_facts ha pt
  have hn := algB_size ha
  have hl := hU.len
  have next : ∀ out1, UnderS n A x out1 → subS out out1 → (allX x (argsA n A o i) = true → gb out1 (valX A o i) = true) → ∃ y, P y ∧ Ev (fun k => spec_l5Step.l1 k x out1 (o : Int) ((i + 1 : Nat) : Int) n A) y := fun out1 h1 h2 h3 =>
   ih (i + 1) out1 (by omega) h1 (fun out' h4 h5 h6 => h out' h4 (fun j hj => h5 j (h2 j hj)) (fun j h7 h8 h9 => by
    by_cases e : j = i
    ·subst e; exact h5 _ (h3 h9)
    ·exact h6 j (by omega) h8 h9))
  have key : ∃ y, P y ∧ Ev (fun k => spec_l5Step.l1 k x (if allX x (argsA n A o i) = true then out.set (valX A o i) true else out) (o : Int) ((i + 1 : Nat) : Int) n A) y := by
   by_cases hc : allX x (argsA n A o i) = true
   ·rw [if_pos hc]
    have hlt : valX A o i < out.length := by omega
    exact next _ (UnderS.put (UnderS.refl hx) hU pt hc hlt) (subS_set hlt) (fun _ => by rw [gb_set hlt]; simp)
   ·rw [if_neg hc]
    exact next _ hU (fun _ h => h) (fun h => absurd h hc)
  obtain ⟨y, y1, y2⟩ := key
  refine ⟨y, y1, Ev.step (fun _ => spec_l5Step.l1.eq_2 ..) (Ev.pos (by omega) (Ev.pos (by omega) (Ev.pos (by rw [rdO_n]; omega) ?_)))⟩
  rw [rdO_n, e1]
  refine (spec_l2Args_ev n ar (i : Int) hn.1 e2 (by omega) (by omega)).bind ?_
  rw [← e3]
  exact spec_l5Step_in2 ha x out hx hl pt y y2 _ 0 true (Nat.zero_add _) (by rw [List.drop_zero]; rfl)
theorem spec_l5Step_ev {n : Int} {A : List IOp} (ha : algB n A = true) (x : List Bool) (hx : (x.length : Int) = n) : ∃ y, stepP n A x y ∧ Ev (fun k => spec_l5Step.f k n A x) y := by
 have hn := algB_size ha
 have main : ∀ (d o : Nat) (out : List Bool), o + d = A.length → UnderS n A x out → (∀ o' j, o' < o → ptX A o' j → allX x (argsA n A o' j) = true → gb out (valX A o' j) = true) → ∃ y, stepP n A x y ∧ Ev (fun k => spec_l5Step.l0 k x out (o : Int) n A) y := by
  intro d
  induction d with
  | zero =>
   intro o out ho hU h
   exact ⟨out, ⟨hU, fun o' j pt => h o' j (by have := pt.1; omega) pt⟩, Ev.step (fun _ => spec_l5Step.l0.eq_2 ..) (Ev.neg (by omega) (Ev.now _))⟩
  | succ d ih =>
   intro o out ho hU h
   obtain ⟨y, y1, y2⟩ := spec_l5Step_in1 ha x hx o (by omega) (stepP n A x) _ 0 out (Nat.zero_add _) hU (fun out' h1 h2 h3 => ih (o + 1) out' (by omega) h1 (fun o' j h4 h5 h6 => by
    by_cases e : o' = o
    ·subst e; exact h3 j (Nat.zero_le _) h5 h6
    ·exact h2 _ (h o' j (by omega) h5 h6)))
   exact ⟨y, y1, Ev.step (fun _ => spec_l5Step.l0.eq_2 ..) (Ev.pos (by omega) y2)⟩
 obtain ⟨y, y1, y2⟩ := main A.length 0 x (Nat.zero_add _) (UnderS.refl hx) (fun o' j h => by omega)
 refine ⟨y, y1, ?_⟩
 unfold spec_l5Step.f
 exact Ev.bind1 (Ev.pos (by simp; omega) y2)
theorem step_same {n : Int} {A : List IOp} {x y : List Bool} (hx : (x.length : Int) = n) (h : stepP n A x y) (hc : closedS n A x) : y = x :=
 ext_gb (by have := h.1.len; omega) (fun i => Bool.eq_iff_iff.2 ⟨h.1.least x hx hc (fun _ h => h) i, h.1.up i⟩)
theorem step_less {n : Int} {A : List IOp} {x y : List Bool} (ha : algB n A = true) (hx : (x.length : Int) = n) (h : stepP n A x y) (hc : ¬ closedS n A x) : mf y < mf x := by
 have hl := h.1.len
 have : ∃ o i, ptX A o i ∧ ¬ doneX n A x o i := by
  apply Classical.byContradiction
  intro hno
  exact hc (fun o i pt => Classical.byContradiction (fun h' => hno ⟨o, i, pt, h'⟩))
 obtain ⟨o, i, pt, hd⟩ := this
 obtain ⟨ar, e1, e2, e3, e4, e5, e6, e7, e8⟩ := pt_facts ha pt
 have h1 : allX x (argsA n A o i) = true := Classical.byContradiction (fun h' => hd (fun h'' => absurd h'' h'))
 have h2 : gb x (valX A o i) = false := by
  cases e : gb x (valX A o i) with
  | false => rfl
  | true => exact absurd (fun _ => e) hd
 exact mf_lt (by omega) h.1.up (by omega) h2 (h.2 o i pt h1)
theorem spec_l5Close_ev {n : Int} {A : List IOp} (ha : algB n A = true) (l : List Int) (hl : l.length ≤ 1048576) (h : ∀ v ∈ l, 0 ≤ v ∧ v < n) : ∃ q, isGen n A (marksM n l) q ∧ Ev (fun k => spec_l5Close.f k n A l) (listM q) := by
 have hn := algB_size ha
 have hm := marksM_length hn.1 l
 have main : ∀ (d i : Nat) (x : List Bool), i + d = n.toNat + 1 → UnderS n A (marksM n l) x → (closedS n A x ∨ mf x + i ≤ n.toNat) → ∃ q, isGen n A (marksM n l) q ∧ Ev (fun k => spec_l5Close.l0 k x (i : Int) n A) (listM q) := by
  intro d
  induction d with
  | zero =>
   intro i x hi hU hc
   have hl := hU.len
   refine ⟨x, ⟨hU, ?_⟩, Ev.step (fun _ => spec_l5Close.l0.eq_2 ..) (Ev.neg (by omega) ((spec_l5List_ev x (by omega)).bind (Ev.now _)))⟩
   rcases hc with hc | hc
   ·exact hc
   ·omega
  | succ d ih =>
   intro i x hi hU hc
   have hl := hU.len
   obtain ⟨y, y1, y2⟩ := spec_l5Step_ev ha x hl
   obtain ⟨q, q1, q2⟩ := ih (i + 1) y (by omega) (hU.trans y1.1) (by
    by_cases hcx : closedS n A x
    ·left
     rw [step_same hl y1 hcx]
     exact hcx
    ·right
     have := step_less ha hl y1 hcx
     rcases hc with hc | hc
     ·exact absurd hc hcx
     ·omega)
   refine ⟨q, q1, Ev.step (fun _ => spec_l5Close.l0.eq_2 ..) (Ev.pos (by omega) (y2.bind ?_))⟩
   rw [w64s (i := i) (n := 1000) (by omega) (by omega)]
   exact q2
 obtain ⟨q, q1, q2⟩ := main (n.toNat + 1) 0 (marksM n l) (by omega) (UnderS.refl hm) (.inr (by have := mf_le (marksM n l); omega))
 refine ⟨q, q1, ?_⟩
 unfold spec_l5Close.f
 exact (spec_l5In_ev ⟨by omega, by omega⟩ l hl h).bind q2
theorem impl_generate_ev {n : Int} {A : List IOp} (ha : algB n A = true) (l : List Int) (hl : l.length ≤ 1048576) (h : ∀ v ∈ l, 0 ≤ v ∧ v < n) : ∃ q, isGen n A (marksM n l) q ∧ Ev (fun k => impl_generate.f k n A l) (listM q) := by
 have hn := algB_size ha
 obtain ⟨q, q1, q2⟩ := impl_closeUnder_ev ha (marksM_length hn.1 l)
 have hq := q1.1.len
 refine ⟨q, q1, ?_⟩
 unfold impl_generate.f
 exact (impl_marks_ev ⟨by omega, by omega⟩ l hl h).bind (q2.bind ((impl_marked_ev q (by omega)).bind (Ev.now _)))
theorem cl_iff (P : Prop) : @decide P (Classical.propDecidable P) = true ↔ P := @decide_eq_true_iff P (Classical.propDecidable P)
noncomputable def subB (n : Int) (A : List IOp) (l : List Int) : Bool := (l.all (inB n) && riseB l) && @decide (closedS n A (marksM n l)) (Classical.propDecidable _)
theorem subB_of {n : Int} {A : List IOp} {l : List Int} (h : subB n A l = true) : (∀ v ∈ l, 0 ≤ v ∧ v < n) ∧ riseB l = true := by
 simp only [subB, Bool.and_eq_true, List.all_eq_true, inB, decide_eq_true_eq] at h
 exact h.1
theorem closed_iff {n : Int} {A : List IOp} {x q : List Bool} (hx : (x.length : Int) = n) (h : isGen n A x q) : closedS n A x ↔ (listM q).length = (listM x).length := by
 have hq := h.1.len
 have c1 := listM_count q
 have c2 := listM_count x
 constructor
 ·intro hc
  have : q = x := isGen_one h ⟨UnderS.refl hx, hc⟩
  rw [this]
 ·intro e
  apply Classical.byContradiction
  intro hc
  have hne : ∃ i, gb x i = false ∧ gb q i = true := by
   apply Classical.byContradiction
   intro hno
   apply hc
   have : q = x := ext_gb (by omega) (fun i => by
    cases e1 : gb x i with
    | true => exact h.1.up i e1
    | false =>
     cases e2 : gb q i with
     | false => rfl
     | true => exact absurd ⟨i, e1, e2⟩ hno)
   rw [← this]
   exact h.2
  obtain ⟨i, e1, e2⟩ := hne
  have := mf_lt (x := x) (y := q) (by omega) h.1.up (by have := gb_len e2; omega) e1 e2
  omega
theorem impl_isSub_ev {n : Int} {A : List IOp} (ha : algB n A = true) (l : List Int) (hl : l.length ≤ 1048576) : Ev (fun k => impl_isSub.f k n A l) (subB n A l) := by
 have hn := algB_size ha
 unfold impl_isSub.f
 refine (impl_inSize_ev l n (by omega)).bind (Ev.ite (fun h1 => ?_) (fun h1 => (Ev.now _).to (by simp [subB, h1])))
 refine (impl_rises_ev l hl).bind (Ev.ite (fun h2 => ?_) (fun h2 => (Ev.now _).to (by simp [subB, h2])))
 have hin : ∀ v ∈ l, 0 ≤ v ∧ v < n := by
  simpa only [List.all_eq_true, inB, decide_eq_true_eq] using h1
 obtain ⟨q, q1, q2⟩ := impl_generate_ev ha l hl hin
 have hc := closed_iff (marksM_length hn.1 l) q1
 rw [rise_of hn.1 h2 hin] at hc
 refine q2.bind ((Ev.now _).to ?_)
 rw [subB, h1, h2, Bool.true_and, Bool.true_and, Bool.eq_iff_iff, cl_iff, hc, beq_iff_eq]
 omega
theorem spec_l5Is_ev {n : Int} {A : List IOp} (ha : algB n A = true) (l : List Int) (hl : l.length ≤ 1048576) : Ev (fun k => spec_l5Is.f k n A l) (subB n A l) := by
 have hn := algB_size ha
 unfold spec_l5Is.f
 refine (spec_l1Rising_ev l n hn hl).bind (Ev.ite (fun h => ?_) (fun h => (Ev.now _).to (by simp [subB, h])))
 have h' := h
 rw [Bool.and_eq_true] at h'
 have hin : ∀ v ∈ l, 0 ≤ v ∧ v < n := by
  simpa only [List.all_eq_true, inB, decide_eq_true_eq] using h'.1
 obtain ⟨q, q1, q2⟩ := spec_l5Close_ev ha l hl hin
 have hc := closed_iff (marksM_length hn.1 l) q1
 have hr := rise_of hn.1 h'.2 hin
 rw [hr] at hc
 have hql := listM_count q
 have hq := q1.1.len
 refine q2.bind ((spec_l1Same_ev _ _ (by omega)).bind ((Ev.now _).to ?_))
 rw [subB, h, Bool.true_and, Bool.eq_iff_iff, decide_eq_true_iff, cl_iff]
 constructor
 ·intro e
  exact hc.2 (by rw [e])
 ·intro e
  have : q = marksM n l := isGen_one q1 ⟨UnderS.refl (marksM_length hn.1 l), e⟩
  rw [this, hr]
def putP (x y : List Int) (v : Int) : Prop := y.Pairwise (· < ·) ∧ (∀ z, z ∈ y ↔ z ∈ x ∨ z = v) ∧ y.length ≤ x.length + 1
theorem put_facts {x : List Int} {v : Int} (hx : x.Pairwise (· < ·)) {i : Nat} (hi : i ≤ x.length) (h1 : ∀ j, j < i → gd x j < v) (h2 : ∀ j, i ≤ j → j < x.length → v < gd x j) : putP x (([] ++ x.take i ++ [v]) ++ x.drop i) v := by
 have a1 : ∀ a ∈ x.take i, a < v := fun a ha => by
  obtain ⟨j, hj, rfl⟩ := List.getElem_of_mem ha
  rw [List.length_take] at hj
  rw [List.getElem_take, ← gd_lt (by omega)]
  exact h1 j (by omega)
 have a2 : ∀ b ∈ x.drop i, v < b := fun b hb => by
  obtain ⟨j, hj, rfl⟩ := List.getElem_of_mem hb
  rw [List.length_drop] at hj
  rw [List.getElem_drop, ← gd_lt (by omega)]
  exact h2 (i + j) (by omega) (by omega)
 refine ⟨?_, fun z => ?_, ?_⟩
 ·rw [List.nil_append]
  refine List.pairwise_append.2 ⟨List.pairwise_append.2 ⟨hx.sublist (List.take_sublist i x), List.pairwise_singleton _ _, fun a ha b hb => ?_⟩, hx.sublist (List.drop_sublist i x), fun a ha b hb => ?_⟩
  ·rw [List.mem_singleton] at hb
   subst hb
   exact a1 a ha
  ·rcases List.mem_append.1 ha with ha | ha
   ·exact Int.lt_trans (a1 a ha) (a2 b hb)
   ·rw [List.mem_singleton] at ha
    subst ha
    exact a2 b hb
 ·have e : z ∈ x ↔ z ∈ x.take i ∨ z ∈ x.drop i := by rw [← List.mem_append, List.take_append_drop]
  rw [e]
  simp only [List.nil_append, List.mem_append, List.mem_singleton]
  constructor
  ·rintro ((h | h) | h)
   ·exact .inl (.inl h)
   ·exact .inr h
   ·exact .inl (.inr h)
  ·rintro ((h | h) | h)
   ·exact .inl (.inl h)
   ·exact .inr h
   ·exact .inl (.inr h)
 ·simp only [List.nil_append, List.length_append, List.length_take, List.length_drop, List.length_cons, List.length_nil]
  omega
theorem spec_l1Put_ev (x : List Int) (v : Int) (hx : x.Pairwise (· < ·)) (hl : x.length ≤ 1048576) : ∃ y, putP x y v ∧ Ev (fun k => spec_l1Put.f k x v) y := by
 unfold spec_l1Put.f
 have up : ∀ i j, i < j → j < x.length → gd x i < gd x j := fun i j h1 h2 => by
  rw [gd_lt (by omega), gd_lt h2]
  exact List.pairwise_iff_getElem.1 hx i j _ _ h1
 suffices hh : ∀ (d i : Nat), i + d = x.length → (∀ j, j < i → gd x j < v) → ∃ y, putP x y v ∧ Ev (fun k => spec_l1Put.l0 k x v (i : Int)) y from hh x.length 0 (by omega) (fun j hj => by omega)
 intro d
 induction d with
 | zero =>
  intro i hi h
  refine ⟨_, put_facts hx (i := i) (by omega) h (fun j h1 h2 => by omega), Ev.step (fun _ => spec_l1Put.l0.eq_2 ..) (Ev.neg (by omega) ?_)⟩
  rw [Int.toNat_natCast]
  refine Ev.bind1 (Ev.pos (by omega) (Ev.pos (by omega) (Ev.bind1 (Ev.pos ?_ (Ev.bind1 (Ev.bind1 (Ev.pos ?_ (Ev.bind1 (Ev.bind1 (Ev.pos ?_ (Ev.now _)))))))))))
  all_goals (simp only [List.nil_append, List.length_append, List.length_take, List.length_drop, List.length_cons, List.length_nil]; omega)
 | succ d ih =>
  intro i hi h
  rcases Int.lt_trichotomy (gd x i) v with h1 | h1 | h1
  ·obtain ⟨y, y1, y2⟩ := ih (i + 1) (by omega) (fun j hj => by
    by_cases e : j = i
    ·rw [e]; exact h1
    ·exact h j (by omega))
   refine ⟨y, y1, Ev.step (fun _ => spec_l1Put.l0.eq_2 ..) (Ev.pos (by omega) (Ev.pos (by omega) ?_))⟩
   rw [rdn, w64s (i := i) (n := x.length) (by omega) (by omega)]
   exact Ev.pos h1 y2
  ·refine ⟨x, ⟨hx, fun z => ⟨fun hz => .inl hz, fun hz => ?_⟩, by omega⟩, Ev.step (fun _ => spec_l1Put.l0.eq_2 ..) (Ev.pos (by omega) (Ev.pos (by omega) ?_))⟩
   ·rcases hz with hz | rfl
    ·exact hz
    ·rw [← h1, gd_lt (by omega)]
     exact List.getElem_mem _
   ·rw [rdn]
    exact Ev.neg (by omega) (Ev.pos h1 (Ev.now _))
  ·refine ⟨_, put_facts hx (i := i) (by omega) h (fun j h2 h3 => ?_), Ev.step (fun _ => spec_l1Put.l0.eq_2 ..) (Ev.pos (by omega) (Ev.pos (by omega) ?_))⟩
   ·by_cases e : j = i
    ·rw [e]; exact h1
    ·exact Int.lt_trans h1 (up i j (by omega) h3)
   ·rw [rdn, Int.toNat_natCast]
    refine Ev.neg (by omega) (Ev.neg (by omega) (Ev.bind1 (Ev.pos (by omega) (Ev.bind1 (Ev.pos ?_ (Ev.bind1 (Ev.bind1 (Ev.pos ?_ (Ev.bind1 (Ev.bind1 (Ev.pos ?_ (Ev.now _))))))))))))
    all_goals (simp only [List.nil_append, List.length_append, List.length_take, List.length_drop, List.length_cons, List.length_nil]; omega)
theorem put_loop {γ : Type} (l : List Int) (L : Nat → List Int → Int → Option γ) (fin : List Int → γ) (hl : l.length ≤ 1048576)
  (hend : ∀ y, Ev (fun k => L k y (l.length : Int)) (fin y))
  (hstep : ∀ (i : Nat) (x y : List Int), i < l.length → x.length ≤ i → Ev (fun k => spec_l1Put.f k x (gd l i)) y → ∀ r, Ev (fun k => L k y ((i + 1 : Nat) : Int)) r → Ev (fun k => L k x (i : Int)) r) :
  ∃ y, (y.Pairwise (· < ·) ∧ ∀ z, z ∈ y ↔ z ∈ l) ∧ Ev (fun k => L k [] ((0 : Nat) : Int)) (fin y) := by
 suffices hh : ∀ (d i : Nat) (x : List Int), i + d = l.length → x.Pairwise (· < ·) → (∀ z, z ∈ x ↔ z ∈ l.take i) → x.length ≤ i → ∃ y, (y.Pairwise (· < ·) ∧ ∀ z, z ∈ y ↔ z ∈ l) ∧ Ev (fun k => L k x (i : Int)) (fin y) from hh l.length 0 [] (by omega) List.Pairwise.nil (fun z => by simp) (by simp)
 intro d
 induction d with
 | zero =>
  intro i x hi hx hm hlen
  have : i = l.length := by omega
  subst this
  exact ⟨x, ⟨hx, fun z => by rw [hm, List.take_length]⟩, hend x⟩
 | succ d ih =>
  intro i x hi hx hm hlen
  obtain ⟨y, ⟨y1, y2, y3⟩, y4⟩ := spec_l1Put_ev x (gd l i) hx (by omega)
  obtain ⟨q, q1, q2⟩ := ih (i + 1) y (by omega) y1 (fun z => by
   rw [y2, hm, ← take_snoc l (by omega), List.mem_append, List.mem_singleton]) (by omega)
  exact ⟨q, q1, hstep i x y (by omega) hlen y4 _ q2⟩
theorem images_one {m : Int} (hm : 1 ≤ m) {l y : List Int} (h : ∀ v ∈ l, 0 ≤ v ∧ v < m) (hy : y.Pairwise (· < ·)) (hz : ∀ z, z ∈ y ↔ z ∈ l) : y = listM (marksM m l) := by
 refine asc_ext _ _ hy (listM_asc _) (fun z => ?_)
 rw [hz]
 constructor
 ·intro h1
  have h2 := h z h1
  obtain ⟨i, rfl⟩ : ∃ i : Nat, z = (i : Int) := ⟨z.toNat, by omega⟩
  exact listM_mem.2 ((marksM_at hm h i).2 h1)
 ·intro h1
  have h2 := listM_in z h1
  obtain ⟨i, rfl⟩ : ∃ i : Nat, z = (i : Int) := ⟨z.toNat, by omega⟩
  exact (marksM_at hm h i).1 (listM_mem.1 h1)
theorem impl_imagesOf_ev {m : Int} (hm : 1 ≤ m ∧ m ≤ 8) (l : List Int) (hl : l.length ≤ 1048576) (h : ∀ v ∈ l, 0 ≤ v ∧ v < m) : Ev (fun k => impl_imagesOf.f k l m) (listM (marksM m l)) := by
 have h1 := marksM_length hm.1 l
 unfold impl_imagesOf.f
 exact (impl_marks_ev ⟨by omega, by omega⟩ l hl h).bind ((impl_marked_ev _ (by omega)).bind (Ev.now _))
theorem images_len {m : Int} (hm : 1 ≤ m ∧ m ≤ 8) (l : List Int) : (listM (marksM m l)).length ≤ 8 := by
 have h1 := marksM_length hm.1 l
 have h2 := listM_count (marksM m l)
 omega
theorem impl_blockCount_loop (p : List Int) (hl : p.length ≤ 1048576) : ∀ (d i : Nat), i + d = p.length → Ev (fun k => impl_blockCount.l0 k (cnt p i : Int) p (p.length : Int) (i : Int)) (cnt p p.length : Int) := by
 intro d
 induction d with
 | zero =>
  intro i hi
  have : i = p.length := by omega
  subst this
  exact Ev.step (fun _ => impl_blockCount.l0.eq_2 ..) (Ev.neg (by omega) (Ev.now _))
 | succ d ih =>
  intro i hi
  have hc := cnt_le p i
  have hs := cnt_succ p i
  refine Ev.step (fun _ => impl_blockCount.l0.eq_2 ..) ?_
  rw [rdn, w64s (i := i) (n := p.length) (by omega) (by omega), w64s (i := cnt p i) (n := p.length) (by omega) (by omega)]
  refine Ev.pos (by omega) (Ev.pos (by omega) (Ev.pos (by omega) (Ev.ite (fun hr => ?_) (fun hr => ?_))))
  ·rw [if_pos (rootB_t hr)] at hs
   rw [← hs]
   exact ih (i + 1) (by omega)
  ·rw [if_neg (rootB_f hr)] at hs
   rw [show cnt p i = cnt p (i + 1) by omega]
   exact ih (i + 1) (by omega)
theorem impl_blockCount_ev (p : List Int) (hl : p.length ≤ 1048576) : Ev (fun k => impl_blockCount.f k p) (cnt p p.length : Int) := by
 unfold impl_blockCount.f
 exact impl_blockCount_loop p hl p.length 0 (by omega)
theorem markIntS_loop (l : List Int) (a : Int) (ha : 0 ≤ a) (hb : a + l.length ≤ 4611686018427387904) : ∀ (d i : Nat) (x : List Int), i + d = l.length → x.length = l.length → (∀ j, j < i → gd x j = a + j) → Ev (fun k => laws_markIntS.l0 k x (a + i) (i : Int)) (a + l.length, asc l.length a) := by
 intro d
 induction d with
 | zero =>
  intro i x hi hx h
  refine Ev.step (fun _ => laws_markIntS.l0.eq_2 ..) ?_
  refine Ev.neg (by omega) ?_
  have : x = asc l.length a := by
   apply List.ext_getElem (by simp [asc_length, hx])
   intro j h1 h2
   have e := h j (by omega)
   rw [← gd_lt h1, ← gd_lt h2, e, asc_at a (by omega)]
  subst this
  have : i = l.length := by omega
  subst this
  exact Ev.now _
 | succ d ih =>
  intro i x hi hx h
  refine Ev.step (fun _ => laws_markIntS.l0.eq_2 ..) ?_
  refine Ev.pos (by omega) ?_
  refine Ev.pos (by omega) ?_
  rw [w64s (n := l.length) (by omega) (by omega), w64 (by omega) (by omega), Int.toNat_natCast, show a + (i : Int) + 1 = a + ((i + 1 : Nat) : Int) by omega]
  refine ih (i + 1) _ (by omega) (by simpa using hx) ?_
  intro j hj
  by_cases e : j = i
  ·subst e
   simp [gd, List.getD, show j < x.length by omega]
  ·have := h j (by omega)
   simp only [gd, List.getD] at this ⊢
   rw [List.getElem?_set_ne (by omega)]
   exact this
theorem markIntS_ev (l : List Int) (a : Int) (ha : 0 ≤ a) (hb : a + l.length ≤ 4611686018427387904) : Ev (fun k => laws_markIntS.f k l a) (a + l.length, asc l.length a) := by
 unfold laws_markIntS.f
 have := markIntS_loop l a ha hb l.length 0 l (by omega) rfl (fun j hj => by omega)
 simpa using this
theorem heldIntS_loop (n : Nat) (a : Int) (ha : 0 ≤ a) (hb : a + n ≤ 4611686018427387904) : ∀ (d i : Nat), i + d = n → Ev (fun k => laws_heldIntS.l0 k (asc n a) (a + i) (i : Int)) (a + n) := by
 intro d
 induction d with
 | zero =>
  intro i hi
  refine Ev.step (fun _ => laws_heldIntS.l0.eq_2 ..) ?_
  refine Ev.neg (by rw [asc_length]; omega) ?_
  have : i = n := by omega
  subst this
  exact Ev.now _
 | succ d ih =>
  intro i hi
  refine Ev.step (fun _ => laws_heldIntS.l0.eq_2 ..) ?_
  refine Ev.pos (by rw [asc_length]; omega) ?_
  refine Ev.pos (by omega) ?_
  refine Ev.pos (by rw [rdn, asc_at a (by omega)]) ?_
  rw [w64s (n := n) (by omega) (by omega), w64 (by omega) (by omega), show a + (i : Int) + 1 = a + ((i + 1 : Nat) : Int) by omega]
  exact ih (i + 1) (by omega)
theorem heldIntS_ev (n : Nat) (a : Int) (ha : 0 ≤ a) (hb : a + n ≤ 4611686018427387904) : Ev (fun k => laws_heldIntS.f k (asc n a) a) (a + n) := by
 unfold laws_heldIntS.f
 have := heldIntS_loop n a ha hb n 0 (by omega)
 simpa using this
theorem totO_bound (xs : List IOp) (n m : Nat) (h : xs.length ≤ n) (h' : ∀ x ∈ xs, x.f1.length ≤ m) : totO xs ≤ n * (m + 1) := by
 have key : ∀ xs : List IOp, (∀ x ∈ xs, x.f1.length ≤ m) → totO xs ≤ xs.length * (m + 1) := by
  intro xs
  induction xs with
  | nil => intro _; simp [totO]
  | cons x xs ih =>
   intro h
   have h1 := h x (by simp)
   have h2 := ih (fun y hy => h y (by simp [hy]))
   simp only [totO, List.map_cons, List.sum_cons, List.length_cons, Nat.succ_mul] at h2 ⊢
   omega
 exact Nat.le_trans (key xs h') (Nat.mul_le_mul_right (m + 1) h)
theorem size_gives {l : List LOp} {t : Int} (h : 0 ≤ t → (l.length : Int) ≤ 1048576 ∧ ∀ x ∈ l, (x.f1.length : Int) ≤ 1048576) (ht : 0 ≤ t) :
  l.length ≤ 8796093022208 ∧ (∀ x ∈ l, x.f1.length ≤ 35184372088832) ∧ fitO (conv l) ∧ 1 + (totO (conv l) : Int) ≤ 4611686018427387904 := by
 have h1 := h ht
 have hl : l.length ≤ 1048576 := by omega
 have hx : ∀ x ∈ l, x.f1.length ≤ 1048576 := fun x hx => by have := h1.2 x hx; omega
 have hf := conv_fit l (by omega) hx
 have := totO_bound (conv l) 1048576 1048576 (by rw [conv_length]; exact hl) hf.2
 exact ⟨by omega, fun x h => by have := hx x h; omega, hf, by omega⟩
def satB (n : Int) (A : List IOp) (l p : List Int) : Prop := takesB n A p = true ∧ subB n A l = true
noncomputable def imsM (n : Int) (A : List IOp) (l p : List Int) : List Int × Bool := @ite _ (satB n A l p) (Classical.propDecidable _) (listM (marksM ((leastM p).length : Int) (imgs (natM p) l)), true) ([], false)
theorem imsM_no {n : Int} {A : List IOp} {l p : List Int} (h : ¬ satB n A l p) : imsM n A l p = ([], false) := by rw [imsM, if_neg h]
theorem imsM_yes {n : Int} {A : List IOp} {l p : List Int} (h : satB n A l p) : imsM n A l p = (listM (marksM ((leastM p).length : Int) (imgs (natM p) l)), true) := by rw [imsM, if_pos h]
structure ImsOk (n : Int) (p l : List Int) : Prop where
 m1 : 1 ≤ ((leastM p).length : Int)
 m8 : ((leastM p).length : Int) ≤ 8
 l1 : l.length ≤ 1048576
 lin : ∀ x ∈ l, 0 ≤ x ∧ x < ((natM p).length : Int)
 iin : ∀ v ∈ imgs (natM p) l, 0 ≤ v ∧ v < ((leastM p).length : Int)
theorem ims_ok {n : Int} {A : List IOp} {l p : List Int} (h : satB n A l p) (hl : l.length ≤ 1048576) : ImsOk n p l := by
 have e1 := takes_len h.1
 have h1 := leastM_pos e1.2.1 (by omega)
 have h2 := leastM_le p
 have hs := (subB_of h.2).1
 have hnl := natM_length p
 refine ⟨by omega, by omega, hl, fun x hx => by have := hs x hx; omega, fun v hv => ?_⟩
 obtain ⟨x, hx, rfl⟩ := List.mem_map.1 hv
 have h3 := hs x hx
 exact natM_in e1.2.1 (by omega)
theorem impl_ImageSub_ev (n : Int) (A : List IOp) (l p : List Int) (hA : fitO A) (hl : l.length ≤ 1048576) (hp : p.length ≤ 1048576) : Ev (fun k => impl_ImageSub.f k n A l p) (imsM n A l p) := by
 have no : ∀ b, b = true → ¬ satB n A l p → Ev (fun k => impl_ImageSub.j0 k l p b) (imsM n A l p) := fun b hb h =>
  Ev.step (fun _ => impl_ImageSub.j0.eq_2 ..) (Ev.pos hb ((Ev.now _).to (imsM_no h).symm))
 unfold impl_ImageSub.f
 refine (impl_isCongruent_ev n A p hA hp).bind (Ev.ite (fun h => ?_) (fun h => no _ rfl (fun h' => h h'.1)))
 have e1 := takes_len h
 refine (impl_isSub_ev e1.1 l hl).bind ?_
 by_cases h2 : subB n A l = true
 ·have ok := ims_ok ⟨h, h2⟩ hl
  rw [h2, imsM_yes ⟨h, h2⟩]
  refine Ev.step (fun _ => impl_ImageSub.j0.eq_2 ..) (Ev.neg (by simp) ?_)
  refine (impl_naturalMap_ev e1.2.1 hp).bind ((impl_compose_ev l (natM p) hl ok.lin).bind ((impl_blockCount_ev p hp).bind ?_))
  rw [← leastM_length]
  exact (impl_imagesOf_ev ⟨ok.m1, ok.m8⟩ _ (by rw [imgs_length]; exact hl) ok.iin).bind (Ev.now _)
 ·exact no _ (by simp [h2]) (fun h' => h2 h'.2)
theorem spec_ImageSub_ev (n : Int) (A : List IOp) (l p : List Int) (hA : fitO A) (hl : l.length ≤ 1048576) (hp : p.length ≤ 1048576) : Ev (fun k => spec_ImageSub.f k n A l p) (imsM n A l p) := by
 have no : ∀ b, b = true → ¬ satB n A l p → Ev (fun k => spec_ImageSub.j0 k l p [] b) (imsM n A l p) := fun b hb h =>
  Ev.step (fun _ => spec_ImageSub.j0.eq_2 ..) (Ev.pos hb ((Ev.now _).to (imsM_no h).symm))
 unfold spec_ImageSub.f
 refine Ev.bind1 ((spec_l9Takes_ev n A p hA hp).bind (Ev.ite (fun h => ?_) (fun h => no _ rfl (fun h' => h h'.1))))
 have e1 := takes_len h
 refine (spec_l5Is_ev e1.1 l hl).bind ?_
 by_cases h2 : subB n A l = true
 ·have ok := ims_ok ⟨h, h2⟩ hl
  rw [h2, imsM_yes ⟨h, h2⟩]
  refine Ev.step (fun _ => spec_ImageSub.j0.eq_2 ..) (Ev.neg (by simp) ((spec_l9Map_ev e1.2.1 hp).bind ?_))
  have hil := imgs_length (natM p) l
  obtain ⟨y, ⟨y1, y2⟩, y3⟩ := put_loop (imgs (natM p) l) (fun k out i => spec_ImageSub.l0 k l out (natM p) i) (fun y => (y, true)) (by omega) (fun y => Ev.step (fun _ => spec_ImageSub.l0.eq_2 ..) (Ev.neg (by omega) (Ev.now _))) (fun i x y hi hx h1 r h3 => by
   rw [hil] at hi
   have hx := ok.lin (gd l i) (by rw [gd_lt hi]; exact List.getElem_mem hi)
   rw [imgs_at _ _ hi] at h1
   refine Ev.step (fun _ => spec_ImageSub.l0.eq_2 ..) ?_
   rw [rdn, rdi (natM p) hx.1, w64s (i := i) (n := l.length) (by omega) (by omega)]
   exact Ev.pos (by omega) (Ev.pos (by omega) (Ev.pos hx.1 (Ev.pos hx.2 (h1.bind h3)))))
  rw [← images_one ok.m1 ok.iin y1 y2]
  exact y3
 ·exact no _ (by simp [h2]) (fun h' => h2 h'.2)
theorem imsM_small (n : Int) (A : List IOp) (l p : List Int) : (imsM n A l p).1.length ≤ 8 := by
 by_cases h : satB n A l p
 ·have e1 := takes_len h.1
  have h1 := leastM_pos e1.2.1 (by omega)
  have h2 := leastM_le p
  rw [imsM_yes h]
  exact images_len ⟨by omega, by omega⟩ _
 ·rw [imsM_no h]
  simp
theorem FnExactImageSub : Stmt.FnExactImageSub := by
 intro a0 l0 l1 l2 _ hm0 hg0 hm1 _ hm2 _ z1 z2
 obtain ⟨t0, s0, m0, n0, c0⟩ := laws_szAlgebra_ev a0 l0 1048576 hm0 (fun x hx => (hg0 x hx).2.1) (by omega)
 by_cases d0 : 0 ≤ t0
 ·have C0 : 0 ≤ t0 → (l0.length : Int) ≤ 1048576 ∧ ∀ x ∈ l0, (x.f1.length : Int) ≤ 1048576 := fun h => ⟨by have := (c0 h).1; omega, fun x hx => by have := (c0 h).2 x hx; omega⟩
  obtain ⟨g1_0, g2_0, g3_0, g4_0⟩ := size_gives C0 d0
  have T0 := totO_bound (conv l0) 1048576 1048576 (by rw [conv_length]; have := (C0 d0).1; omega) g3_0.2
  have hd := imsM_small a0 (conv l0) l1 l2
  obtain ⟨k, e0, e1, e2, e3, e4, e5, e6, e7, e8, e9, e10, e11, e12, e13⟩ := ((Evs.of s0).and ((Evs.of (laws_toAlgebra_ev a0 l0 g1_0 g2_0)).and ((Evs.of (toIntS_ev l1 (by omega))).and ((Evs.of (toIntS_ev l2 (by omega))).and ((Evs.of (spec_ImageSub_ev a0 (conv l0) l1 l2 g3_0 z1 z2)).and ((Evs.of (impl_ImageSub_ev a0 (conv l0) l1 l2 g3_0 z1 z2)).and ((Evs.of (eqIntS_same (imsM a0 (conv l0) l1 l2).1 (by omega))).and ((Evs.of (laws_eqAlgebra_same a0 (conv l0) g3_0)).and ((Evs.of (eqIntS_same l1 (by omega))).and ((Evs.of (eqIntS_same l2 (by omega))).and ((Evs.of (markIntS_ev l1 (1 + (totO (conv l0) : Int)) (by omega) (by omega))).and ((Evs.of (markIntS_ev l2 ((1 + (totO (conv l0) : Int)) + (l1.length : Int)) (by omega) (by omega))).and ((Evs.of (markIntS_ev (imsM a0 (conv l0) l1 l2).1 1 (by omega) (by omega))).and (Evs.of (heldIntS_ev (imsM a0 (conv l0) l1 l2).1.length 1 (by omega) (by omega)))))))))))))))).ex
  exact ⟨k, t0, e0, fun _ => ⟨a0, (conv l0), l1, l2, (imsM a0 (conv l0) l1 l2).1, (imsM a0 (conv l0) l1 l2).2, e1, e2, e3, e4, e5, e6, e7, e8, e9, e10, e11, e12, e13, by omega⟩⟩
 ·obtain ⟨k, e0⟩ := (Evs.of s0).ex
  exact ⟨k, t0, e0, fun h => absurd h d0⟩
end Go.Proofs.Ytgockfnhgmlhoaa.Pure

namespace Go.Proofs.Ytgockfnhgmlhoaa
open Go.RowKit Go.Proofs.YtgockfnhgmlhoaaW.PrintWords Go.Proofs.YtgockfnhgmlhoaaW.PrintLast Go.Proofs.YtgockfnhgmlhoaaW.PrintMore Go.Proofs.Ytgockfnhgmlhoaa.Live Go.Proofs.Ytgockfnhgmlhoaa.Q
set_option linter.unusedVariables false
set_option linter.unusedSimpArgs false
set_option maxRecDepth 100000
set_option maxHeartbeats 8000000 in
theorem Walk.FnExactImageSub (a0 : Int) (A0 : Option Addr) (c0 : Nat) (l0 : List (Q.S77)) (A1 : Option Addr) (c1 : Nat) (l1 : List (Int)) (A2 : Option Addr) (c2 : Nat) (l2 : List (Int)) (W : World) (hr0 : Kd.C k77 W A0 l0.length l0) (hc0 : l0.length ≤ c0) (hr1 : Kd.C (Kd.int .i64) W A1 l1.length l1) (hc1 : l1.length ≤ c1) (hr2 : Kd.C (Kd.int .i64) W A2 l2.length l2) (hc2 : l2.length ≤ c2) (g0 : (Lit.int .i64 a0).wf = true) (hm0 : l0.length ≤ maxLen) (hg0 : ∀ x ∈ l0, (Lit.int .i64 x.f0).wf = true ∧ x.f1.length ≤ maxLen ∧ ∀ y_x ∈ x.f1, (Lit.int .i64 y_x).wf = true) (hm1 : l1.length ≤ maxLen) (hg1 : ∀ x ∈ l1, (Lit.int .i64 x).wf = true) (hm2 : l2.length ≤ maxLen) (hg2 : ∀ x ∈ l2, (Lit.int .i64 x).wf = true) :
  Calls Try.prog 5 #[.agg #[.int .i64 a0, .slice A0 l0.length c0], .slice A1 l1.length c1, .slice A2 l2.length c2] W fun e w' => e = .returned (.bool true) ∧ Below W.heap.size W w' := by
 have P := fun z0 z1 => Pure.FnExactImageSub a0 l0 l1 l2 g0 hm0 hg0 hm1 hg1 hm2 hg2 z0 z1
 have hu24 := Try.underlying24
 have hu25 := Try.underlying25
 have hu31 := Try.underlying31
 have HR0 := Aside0.mk hr0
 have HC0 := Aside0.mk hc0
 have hm0_ : l0.length ≤ 9223372036854775807 := by unfold maxLen at hm0; omega
 have HR1 := Aside0.mk hr1
 have HC1 := Aside0.mk hc1
 have hm1_ : l1.length ≤ 9223372036854775807 := by unfold maxLen at hm1; omega
 have HR2 := Aside0.mk hr2
 have HC2 := Aside0.mk hc2
 have hm2_ : l2.length ≤ 9223372036854775807 := by unfold maxLen at hm2; omega
 clear hr0 hc0 hr1 hc1 hr2 hc2 g0 hm0 hg0 hm1 hg1 hm2 hg2
 by_cases cl1 : 1048576 < l1.length
 ·have q1 : decide (1048576 < (l1.length : Int)) = true := decide_eq_true (by omega)
  have qn1 : decide (1048576 < l1.length) = true := decide_eq_true cl1
  clear P
  go_enter Try.func5, Try.ntmps5
  obtain ⟨lox1, hix1, HLx1⟩ := Live.make_box (Live.nil W) (.cells #[.int .i64 a0, .slice A0 l0.length c0] 24) (W.heap.size) (by simp)
  go_wp2
  go_ret
  exact ⟨rfl, below_alloc (Below.refl _ _) _⟩
 have q1 : decide (1048576 < (l1.length : Int)) = false := decide_eq_false (by omega)
 have qn1 : decide (1048576 < l1.length) = false := decide_eq_false cl1
 replace P := P
 by_cases cl2 : 1048576 < l2.length
 ·have q2 : decide (1048576 < (l2.length : Int)) = true := decide_eq_true (by omega)
  have qn2 : decide (1048576 < l2.length) = true := decide_eq_true cl2
  clear P
  go_enter Try.func5, Try.ntmps5
  obtain ⟨lox1, hix1, HLx1⟩ := Live.make_box (Live.nil W) (.cells #[.int .i64 a0, .slice A0 l0.length c0] 24) (W.heap.size) (by simp)
  go_wp2
  go_ret
  exact ⟨rfl, below_alloc (Below.refl _ _) _⟩
 have q2 : decide (1048576 < (l2.length : Int)) = false := decide_eq_false (by omega)
 have qn2 : decide (1048576 < l2.length) = false := decide_eq_false cl2
 replace P := P
 obtain ⟨k, P⟩ := P (by omega) (by omega)
 obtain ⟨t0, hF0, P⟩ := P
 have F0 := Aside0.mk hF0
 clear hF0
 have HP4 := Aside0.mk P
 clear P
 by_cases d4 : t0 < 0
 ·have q4 : decide (t0 < 0) = true := decide_eq_true d4
  go_enter Try.func5, Try.ntmps5
  obtain ⟨lox1, hix1, HLx1⟩ := Live.make_box (Live.nil W) (.cells #[.int .i64 a0, .slice A0 l0.length c0] 24) (W.heap.size) (by simp)
  go_wp2_with fail
  (with_reducible refine (laws_szAlgebra.calls k a0 _ _ l0 1048576 t0 _ (Kd.C_below HR0.out (below_alloc (Below.refl _ _) _)) HC0.out F0.out).mono ?_)
  rintro e w2 ⟨rfl, hbw2⟩
  have HLw2 := Aside0.mk (HLx1.below hbw2)
  have HBw2 := Aside0.mk (below_step (below_alloc (Below.refl _ _) _) (hbw2))
  clear hbw2
  have hxb3_0_w2 : w2.cell? ⟨W.heap.size, 0, none⟩ = some (.int .i64 a0) := (blk_cell (HLw2.out.get 0 rfl).1 0).trans rfl
  have hxb3_1_w2 : w2.cell? ⟨W.heap.size, 1, none⟩ = some (.slice A0 l0.length c0) := (blk_cell (HLw2.out.get 0 rfl).1 1).trans rfl
  go_wp2
  go_ret
  exact ⟨rfl, HBw2.out⟩
 have q4 : decide (t0 < 0) = false := decide_eq_false d4
 have P := HP4.out (by omega)
 clear HP4
 obtain ⟨X0, X1, X2, X3, X4, X5, hF1, hF2, hF3, hF4, hF5, hF6, hF7, hF8, hF9, hF10, hF11, hF12, hF13, hB0⟩ := P
 have F1 := Aside0.mk hF1
 have F2 := Aside0.mk hF2
 have F3 := Aside0.mk hF3
 have F4 := Aside0.mk hF4
 have F5 := Aside0.mk hF5
 have F6 := Aside0.mk hF6
 have F7 := Aside0.mk hF7
 have F8 := Aside0.mk hF8
 have F9 := Aside0.mk hF9
 have F10 := Aside0.mk hF10
 have F11 := Aside0.mk hF11
 have F12 := Aside0.mk hF12
 have F13 := Aside0.mk hF13
 have HBD := Aside0.mk (show (1 + (totO X1 : Int)) ≤ 4611686018427387904 from hB0)
 clear hF1 hF2 hF3 hF4 hF5 hF6 hF7 hF8 hF9 hF10 hF11 hF12 hF13 hB0
 have hneX0 : (X0 != X0) = false := bne_self_eq_false X0
 have hneX5 : (X5 != X5) = false := bne_self_eq_false X5
 go_enter Try.func5, Try.ntmps5
 obtain ⟨lox1, hix1, HLx1⟩ := Live.make_box (Live.nil W) (.cells #[.int .i64 a0, .slice A0 l0.length c0] 24) (W.heap.size) (by simp)
 go_wp2_with fail
 (with_reducible refine (laws_szAlgebra.calls k a0 _ _ l0 1048576 t0 _ (Kd.C_below HR0.out (below_alloc (Below.refl _ _) _)) HC0.out F0.out).mono ?_)
 rintro e w2 ⟨rfl, hbw2⟩
 have HLw2 := Aside0.mk (HLx1.below hbw2)
 have HBw2 := Aside0.mk (below_step (below_alloc (Below.refl _ _) _) (hbw2))
 clear hbw2
 have hxb3_0_w2 : w2.cell? ⟨W.heap.size, 0, none⟩ = some (.int .i64 a0) := (blk_cell (HLw2.out.get 0 rfl).1 0).trans rfl
 have hxb3_1_w2 : w2.cell? ⟨W.heap.size, 1, none⟩ = some (.slice A0 l0.length c0) := (blk_cell (HLw2.out.get 0 rfl).1 1).trans rfl
 go_wp2_with fail
 (with_reducible refine (laws_toAlgebra.calls k a0 _ _ l0 X0 X1 _ (Kd.C_below HR0.out (HBw2.out)) HC0.out F1.out).mono ?_)
 rintro e w3 ⟨vw3_0, rfl, how3_0, hbw3⟩
 obtain ⟨Aw3, cw3, rfl⟩ := Kd.S_slice how3_0
 obtain ⟨low3, hiw3, hlw3⟩ := Live.make_S HLw2.out hbw3 how3_0 (below_size (HBw2.out))
 have HLw3 := Aside0.mk hlw3
 clear hlw3 how3_0
 have HBw3 := Aside0.mk (below_step (HBw2.out) (hbw3))
 clear hbw3
 have hxb3_0_w3 : w3.cell? ⟨W.heap.size, 0, none⟩ = some (.int .i64 a0) := (blk_cell (HLw3.out.get 1 rfl).1 0).trans rfl
 have hxb3_1_w3 : w3.cell? ⟨W.heap.size, 1, none⟩ = some (.slice A0 l0.length c0) := (blk_cell (HLw3.out.get 1 rfl).1 1).trans rfl
 go_wp2_with fail
 (with_reducible refine (laws_toIntS.calls k _ _ l1 X2 _ (Kd.C_below HR1.out (HBw3.out)) HC1.out F2.out).mono ?_)
 rintro e w4 ⟨vw4_0, rfl, how4_0, hbw4⟩
 obtain ⟨Aw4, cw4, rfl⟩ := Kd.R_slice how4_0
 obtain ⟨low4, hiw4, hlw4⟩ := Live.make_R HLw3.out hbw4 how4_0 (below_size (HBw3.out))
 have HLw4 := Aside0.mk hlw4
 clear hlw4 how4_0
 have HBw4 := Aside0.mk (below_step (HBw3.out) (hbw4))
 clear hbw4
 have hxb3_0_w4 : w4.cell? ⟨W.heap.size, 0, none⟩ = some (.int .i64 a0) := (blk_cell (HLw4.out.get 2 rfl).1 0).trans rfl
 have hxb3_1_w4 : w4.cell? ⟨W.heap.size, 1, none⟩ = some (.slice A0 l0.length c0) := (blk_cell (HLw4.out.get 2 rfl).1 1).trans rfl
 go_wp2_with fail
 (with_reducible refine (laws_toIntS.calls k _ _ l2 X3 _ (Kd.C_below HR2.out (HBw4.out)) HC2.out F3.out).mono ?_)
 rintro e w5 ⟨vw5_0, rfl, how5_0, hbw5⟩
 obtain ⟨Aw5, cw5, rfl⟩ := Kd.R_slice how5_0
 obtain ⟨low5, hiw5, hlw5⟩ := Live.make_R HLw4.out hbw5 how5_0 (below_size (HBw4.out))
 have HLw5 := Aside0.mk hlw5
 clear hlw5 how5_0
 have HBw5 := Aside0.mk (below_step (HBw4.out) (hbw5))
 clear hbw5
 have hxb3_0_w5 : w5.cell? ⟨W.heap.size, 0, none⟩ = some (.int .i64 a0) := (blk_cell (HLw5.out.get 3 rfl).1 0).trans rfl
 have hxb3_1_w5 : w5.cell? ⟨W.heap.size, 1, none⟩ = some (.slice A0 l0.length c0) := (blk_cell (HLw5.out.get 3 rfl).1 1).trans rfl
 go_wp2_with fail
 (with_reducible refine (spec_ImageSub.calls k X0 _ _ X1 _ _ X2 _ _ X3 X4 X5 _ (Kd.S_reads' (HLw5.out.get 2 rfl)).2.2 (Kd.S_reads' (HLw5.out.get 2 rfl)).2.1 (Kd.R_reads' (HLw5.out.get 1 rfl)).2.2 (Kd.R_reads' (HLw5.out.get 1 rfl)).2.1 (Kd.R_reads' (HLw5.out.get 0 rfl)).2.2 (Kd.R_reads' (HLw5.out.get 0 rfl)).2.1 F4.out).mono ?_)
 rintro e w6 ⟨vw6_0, rfl, how6_0, hbw6⟩
 obtain ⟨Aw6, cw6, rfl⟩ := Kd.R_slice how6_0
 obtain ⟨low6, hiw6, hlw6⟩ := Live.make_R HLw5.out hbw6 how6_0 (below_size (HBw5.out))
 have HLw6 := Aside0.mk hlw6
 clear hlw6 how6_0
 have HBw6 := Aside0.mk (below_step (HBw5.out) (hbw6))
 clear hbw6
 have hxb3_0_w6 : w6.cell? ⟨W.heap.size, 0, none⟩ = some (.int .i64 a0) := (blk_cell (HLw6.out.get 4 rfl).1 0).trans rfl
 have hxb3_1_w6 : w6.cell? ⟨W.heap.size, 1, none⟩ = some (.slice A0 l0.length c0) := (blk_cell (HLw6.out.get 4 rfl).1 1).trans rfl
 go_wp2_with fail
 (with_reducible refine (laws_toAlgebra.calls k a0 _ _ l0 X0 X1 _ (Kd.C_below HR0.out (HBw6.out)) HC0.out F1.out).mono ?_)
 rintro e w7 ⟨vw7_0, rfl, how7_0, hbw7⟩
 obtain ⟨Aw7, cw7, rfl⟩ := Kd.S_slice how7_0
 obtain ⟨low7, hiw7, hlw7⟩ := Live.make_S HLw6.out hbw7 how7_0 (below_size (HBw6.out))
 have HLw7 := Aside0.mk hlw7
 clear hlw7 how7_0
 have HBw7 := Aside0.mk (below_step (HBw6.out) (hbw7))
 clear hbw7
 have hxb3_0_w7 : w7.cell? ⟨W.heap.size, 0, none⟩ = some (.int .i64 a0) := (blk_cell (HLw7.out.get 5 rfl).1 0).trans rfl
 have hxb3_1_w7 : w7.cell? ⟨W.heap.size, 1, none⟩ = some (.slice A0 l0.length c0) := (blk_cell (HLw7.out.get 5 rfl).1 1).trans rfl
 obtain ⟨lox8, hix8, HLx8⟩ := Live.make_box HLw7.out (.cells #[.int .i64 X0, .slice Aw7 X1.length cw7] 31) (w7.heap.size) (by simp)
 have hxb3_0_w7allocce : (w7.alloc (.cells #[.int .i64 X0, .slice Aw7 X1.length cw7] 31)).cell? ⟨W.heap.size, 0, none⟩ = some (.int .i64 a0) := (blk_cell (HLx8.get 6 rfl).1 0).trans rfl
 have hxb3_1_w7allocce : (w7.alloc (.cells #[.int .i64 X0, .slice Aw7 X1.length cw7] 31)).cell? ⟨W.heap.size, 1, none⟩ = some (.slice A0 l0.length c0) := (blk_cell (HLx8.get 6 rfl).1 1).trans rfl
 go_wp2_with fail
 (with_reducible refine (laws_toIntS.calls k _ _ l1 X2 _ (Kd.C_below HR1.out (below_alloc (HBw7.out) _)) HC1.out F2.out).mono ?_)
 rintro e w9 ⟨vw9_0, rfl, how9_0, hbw9⟩
 obtain ⟨Aw9, cw9, rfl⟩ := Kd.R_slice how9_0
 obtain ⟨low9, hiw9, hlw9⟩ := Live.make_R HLx8 hbw9 how9_0 (below_size (below_alloc (HBw7.out) _))
 have HLw9 := Aside0.mk hlw9
 clear hlw9 how9_0
 have HBw9 := Aside0.mk (below_step (below_alloc (HBw7.out) _) (hbw9))
 clear hbw9
 have hxb3_0_w9 : w9.cell? ⟨W.heap.size, 0, none⟩ = some (.int .i64 a0) := (blk_cell (HLw9.out.get 7 rfl).1 0).trans rfl
 have hxb3_1_w9 : w9.cell? ⟨W.heap.size, 1, none⟩ = some (.slice A0 l0.length c0) := (blk_cell (HLw9.out.get 7 rfl).1 1).trans rfl
 have hxb10_0_w9 : w9.cell? ⟨w7.heap.size, 0, none⟩ = some (.int .i64 X0) := (blk_cell (HLw9.out.get 1 rfl).1 0).trans rfl
 have hxb10_1_w9 : w9.cell? ⟨w7.heap.size, 1, none⟩ = some (.slice Aw7 X1.length cw7) := (blk_cell (HLw9.out.get 1 rfl).1 1).trans rfl
 go_wp2_with fail
 (with_reducible refine (laws_toIntS.calls k _ _ l2 X3 _ (Kd.C_below HR2.out (HBw9.out)) HC2.out F3.out).mono ?_)
 rintro e w10 ⟨vw10_0, rfl, how10_0, hbw10⟩
 obtain ⟨Aw10, cw10, rfl⟩ := Kd.R_slice how10_0
 obtain ⟨low10, hiw10, hlw10⟩ := Live.make_R HLw9.out hbw10 how10_0 (below_size (HBw9.out))
 have HLw10 := Aside0.mk hlw10
 clear hlw10 how10_0
 have HBw10 := Aside0.mk (below_step (HBw9.out) (hbw10))
 clear hbw10
 have hxb3_0_w10 : w10.cell? ⟨W.heap.size, 0, none⟩ = some (.int .i64 a0) := (blk_cell (HLw10.out.get 8 rfl).1 0).trans rfl
 have hxb3_1_w10 : w10.cell? ⟨W.heap.size, 1, none⟩ = some (.slice A0 l0.length c0) := (blk_cell (HLw10.out.get 8 rfl).1 1).trans rfl
 have hxb10_0_w10 : w10.cell? ⟨w7.heap.size, 0, none⟩ = some (.int .i64 X0) := (blk_cell (HLw10.out.get 2 rfl).1 0).trans rfl
 have hxb10_1_w10 : w10.cell? ⟨w7.heap.size, 1, none⟩ = some (.slice Aw7 X1.length cw7) := (blk_cell (HLw10.out.get 2 rfl).1 1).trans rfl
 go_wp2_with fail
 (with_reducible refine (impl_ImageSub.calls k X0 _ _ X1 _ _ X2 _ _ X3 X4 X5 _ (Kd.S_reads' (HLw10.out.get 3 rfl)).2.2 (Kd.S_reads' (HLw10.out.get 3 rfl)).2.1 (Kd.R_reads' (HLw10.out.get 1 rfl)).2.2 (Kd.R_reads' (HLw10.out.get 1 rfl)).2.1 (Kd.R_reads' (HLw10.out.get 0 rfl)).2.2 (Kd.R_reads' (HLw10.out.get 0 rfl)).2.1 F5.out).mono ?_)
 rintro e w11 ⟨vw11_0, rfl, how11_0, hbw11⟩
 obtain ⟨Aw11, cw11, rfl⟩ := Kd.R_slice how11_0
 obtain ⟨low11, hiw11, hlw11⟩ := Live.make_R HLw10.out hbw11 how11_0 (below_size (HBw10.out))
 have HLw11 := Aside0.mk hlw11
 clear hlw11 how11_0
 have HBw11 := Aside0.mk (below_step (HBw10.out) (hbw11))
 clear hbw11
 have hxb3_0_w11 : w11.cell? ⟨W.heap.size, 0, none⟩ = some (.int .i64 a0) := (blk_cell (HLw11.out.get 9 rfl).1 0).trans rfl
 have hxb3_1_w11 : w11.cell? ⟨W.heap.size, 1, none⟩ = some (.slice A0 l0.length c0) := (blk_cell (HLw11.out.get 9 rfl).1 1).trans rfl
 have hxb10_0_w11 : w11.cell? ⟨w7.heap.size, 0, none⟩ = some (.int .i64 X0) := (blk_cell (HLw11.out.get 3 rfl).1 0).trans rfl
 have hxb10_1_w11 : w11.cell? ⟨w7.heap.size, 1, none⟩ = some (.slice Aw7 X1.length cw7) := (blk_cell (HLw11.out.get 3 rfl).1 1).trans rfl
 go_wp2_with fail
 (with_reducible refine (laws_eqIntS.calls k _ _ X4 _ _ X4 true _ (Kd.R_reads' (HLw11.out.get 0 rfl)).2.2 (Kd.R_reads' (HLw11.out.get 0 rfl)).2.1 (Kd.R_reads' (HLw11.out.get 5 rfl)).2.2 (Kd.R_reads' (HLw11.out.get 5 rfl)).2.1 F6.out).mono ?_)
 rintro e w12 ⟨rfl, hbw12⟩
 have HLw12 := Aside0.mk (HLw11.out.below hbw12.below)
 have HBw12 := Aside0.mk (below_step (HBw11.out) (hbw12.below))
 clear hbw12
 have hxb3_0_w12 : w12.cell? ⟨W.heap.size, 0, none⟩ = some (.int .i64 a0) := (blk_cell (HLw12.out.get 9 rfl).1 0).trans rfl
 have hxb3_1_w12 : w12.cell? ⟨W.heap.size, 1, none⟩ = some (.slice A0 l0.length c0) := (blk_cell (HLw12.out.get 9 rfl).1 1).trans rfl
 have hxb10_0_w12 : w12.cell? ⟨w7.heap.size, 0, none⟩ = some (.int .i64 X0) := (blk_cell (HLw12.out.get 3 rfl).1 0).trans rfl
 have hxb10_1_w12 : w12.cell? ⟨w7.heap.size, 1, none⟩ = some (.slice Aw7 X1.length cw7) := (blk_cell (HLw12.out.get 3 rfl).1 1).trans rfl
 go_wp2_with fail
 go_region_held3 (fun w' => w'.cell? ⟨W.heap.size, 0, none⟩ = some (.int .i64 a0) ∧ w'.cell? ⟨W.heap.size, 1, none⟩ = some (.slice A0 l0.length c0) ∧ w'.cell? ⟨w7.heap.size, 0, none⟩ = some (.int .i64 X0) ∧ w'.cell? ⟨w7.heap.size, 1, none⟩ = some (.slice Aw7 X1.length cw7)) (first | (simp [*]; done) | go_keep) (first | (go_at_call 13; (with_reducible refine (laws_toAlgebra.calls k a0 _ _ l0 X0 X1 _ (Kd.C_below HR0.out (below_drew1 (HBw12.out))) HC0.out F1.out).mono ?_); rintro e w13 ⟨vw13_0, rfl, how13_0, hbw13⟩; obtain ⟨Aw13, cw13, rfl⟩ := Kd.S_slice how13_0; obtain ⟨low13, hiw13, hlw13⟩ := Live.make_S (Live.drew HLw12.out) hbw13 how13_0 (below_size (below_drew1 (HBw12.out))); have HLw13 := Aside0.mk hlw13; clear hlw13 how13_0; have HBw13 := Aside0.mk (below_step (below_drew1 (HBw12.out)) (hbw13)); clear hbw13; have hxb3_0_w13 : w13.cell? ⟨W.heap.size, 0, none⟩ = some (.int .i64 a0) := (blk_cell (HLw13.out.get 10 rfl).1 0).trans rfl; have hxb3_1_w13 : w13.cell? ⟨W.heap.size, 1, none⟩ = some (.slice A0 l0.length c0) := (blk_cell (HLw13.out.get 10 rfl).1 1).trans rfl; have hxb10_0_w13 : w13.cell? ⟨w7.heap.size, 0, none⟩ = some (.int .i64 X0) := (blk_cell (HLw13.out.get 4 rfl).1 0).trans rfl; have hxb10_1_w13 : w13.cell? ⟨w7.heap.size, 1, none⟩ = some (.slice Aw7 X1.length cw7) := (blk_cell (HLw13.out.get 4 rfl).1 1).trans rfl) | (go_at_call 17; (with_reducible refine (laws_eqAlgebra.calls k X0 _ _ X1 X0 _ _ X1 true _ (Kd.S_reads' (HLw13.out.get 5 rfl)).2.2 (Kd.S_reads' (HLw13.out.get 5 rfl)).2.1 (Kd.S_reads' (HLw13.out.get 0 rfl)).2.2 (Kd.S_reads' (HLw13.out.get 0 rfl)).2.1 F7.out).mono ?_); rintro e w14 ⟨rfl, hbw14⟩; have HLw14 := Aside0.mk (HLw13.out.below hbw14); have HBw14 := Aside0.mk (below_step (HBw13.out) (hbw14)); clear hbw14; have hxb3_0_w14 : w14.cell? ⟨W.heap.size, 0, none⟩ = some (.int .i64 a0) := (blk_cell (HLw14.out.get 10 rfl).1 0).trans rfl; have hxb3_1_w14 : w14.cell? ⟨W.heap.size, 1, none⟩ = some (.slice A0 l0.length c0) := (blk_cell (HLw14.out.get 10 rfl).1 1).trans rfl; have hxb10_0_w14 : w14.cell? ⟨w7.heap.size, 0, none⟩ = some (.int .i64 X0) := (blk_cell (HLw14.out.get 4 rfl).1 0).trans rfl; have hxb10_1_w14 : w14.cell? ⟨w7.heap.size, 1, none⟩ = some (.slice Aw7 X1.length cw7) := (blk_cell (HLw14.out.get 4 rfl).1 1).trans rfl))
 go_wp2_with fail
 (with_reducible refine (laws_toIntS.calls k _ _ l1 X2 _ (Kd.C_below HR1.out (HBw14.out)) HC1.out F2.out).mono ?_)
 rintro e w15 ⟨vw15_0, rfl, how15_0, hbw15⟩
 obtain ⟨Aw15, cw15, rfl⟩ := Kd.R_slice how15_0
 obtain ⟨low15, hiw15, hlw15⟩ := Live.make_R HLw14.out hbw15 how15_0 (below_size (HBw14.out))
 have HLw15 := Aside0.mk hlw15
 clear hlw15 how15_0
 have HBw15 := Aside0.mk (below_step (HBw14.out) (hbw15))
 clear hbw15
 have hxb3_0_w15 : w15.cell? ⟨W.heap.size, 0, none⟩ = some (.int .i64 a0) := (blk_cell (HLw15.out.get 11 rfl).1 0).trans rfl
 have hxb3_1_w15 : w15.cell? ⟨W.heap.size, 1, none⟩ = some (.slice A0 l0.length c0) := (blk_cell (HLw15.out.get 11 rfl).1 1).trans rfl
 have hxb10_0_w15 : w15.cell? ⟨w7.heap.size, 0, none⟩ = some (.int .i64 X0) := (blk_cell (HLw15.out.get 5 rfl).1 0).trans rfl
 have hxb10_1_w15 : w15.cell? ⟨w7.heap.size, 1, none⟩ = some (.slice Aw7 X1.length cw7) := (blk_cell (HLw15.out.get 5 rfl).1 1).trans rfl
 go_wp2_with fail
 (with_reducible refine (laws_eqIntS.calls k _ _ X2 _ _ X2 true _ (Kd.R_reads' (HLw15.out.get 4 rfl)).2.2 (Kd.R_reads' (HLw15.out.get 4 rfl)).2.1 (Kd.R_reads' (HLw15.out.get 0 rfl)).2.2 (Kd.R_reads' (HLw15.out.get 0 rfl)).2.1 F8.out).mono ?_)
 rintro e w16 ⟨rfl, hbw16⟩
 have HLw16 := Aside0.mk (HLw15.out.below hbw16.below)
 have HBw16 := Aside0.mk (below_step (HBw15.out) (hbw16.below))
 clear hbw16
 have hxb3_0_w16 : w16.cell? ⟨W.heap.size, 0, none⟩ = some (.int .i64 a0) := (blk_cell (HLw16.out.get 11 rfl).1 0).trans rfl
 have hxb3_1_w16 : w16.cell? ⟨W.heap.size, 1, none⟩ = some (.slice A0 l0.length c0) := (blk_cell (HLw16.out.get 11 rfl).1 1).trans rfl
 have hxb10_0_w16 : w16.cell? ⟨w7.heap.size, 0, none⟩ = some (.int .i64 X0) := (blk_cell (HLw16.out.get 5 rfl).1 0).trans rfl
 have hxb10_1_w16 : w16.cell? ⟨w7.heap.size, 1, none⟩ = some (.slice Aw7 X1.length cw7) := (blk_cell (HLw16.out.get 5 rfl).1 1).trans rfl
 go_wp2_with fail
 (with_reducible refine (laws_toIntS.calls k _ _ l2 X3 _ (Kd.C_below HR2.out (HBw16.out)) HC2.out F3.out).mono ?_)
 rintro e w17 ⟨vw17_0, rfl, how17_0, hbw17⟩
 obtain ⟨Aw17, cw17, rfl⟩ := Kd.R_slice how17_0
 obtain ⟨low17, hiw17, hlw17⟩ := Live.make_R HLw16.out hbw17 how17_0 (below_size (HBw16.out))
 have HLw17 := Aside0.mk hlw17
 clear hlw17 how17_0
 have HBw17 := Aside0.mk (below_step (HBw16.out) (hbw17))
 clear hbw17
 have hxb3_0_w17 : w17.cell? ⟨W.heap.size, 0, none⟩ = some (.int .i64 a0) := (blk_cell (HLw17.out.get 12 rfl).1 0).trans rfl
 have hxb3_1_w17 : w17.cell? ⟨W.heap.size, 1, none⟩ = some (.slice A0 l0.length c0) := (blk_cell (HLw17.out.get 12 rfl).1 1).trans rfl
 have hxb10_0_w17 : w17.cell? ⟨w7.heap.size, 0, none⟩ = some (.int .i64 X0) := (blk_cell (HLw17.out.get 6 rfl).1 0).trans rfl
 have hxb10_1_w17 : w17.cell? ⟨w7.heap.size, 1, none⟩ = some (.slice Aw7 X1.length cw7) := (blk_cell (HLw17.out.get 6 rfl).1 1).trans rfl
 go_wp2_with fail
 (with_reducible refine (laws_eqIntS.calls k _ _ X3 _ _ X3 true _ (Kd.R_reads' (HLw17.out.get 4 rfl)).2.2 (Kd.R_reads' (HLw17.out.get 4 rfl)).2.1 (Kd.R_reads' (HLw17.out.get 0 rfl)).2.2 (Kd.R_reads' (HLw17.out.get 0 rfl)).2.1 F9.out).mono ?_)
 rintro e w18 ⟨rfl, hbw18⟩
 have HLw18 := Aside0.mk (HLw17.out.below hbw18.below)
 have HBw18 := Aside0.mk (below_step (HBw17.out) (hbw18.below))
 clear hbw18
 have hxb3_0_w18 : w18.cell? ⟨W.heap.size, 0, none⟩ = some (.int .i64 a0) := (blk_cell (HLw18.out.get 12 rfl).1 0).trans rfl
 have hxb3_1_w18 : w18.cell? ⟨W.heap.size, 1, none⟩ = some (.slice A0 l0.length c0) := (blk_cell (HLw18.out.get 12 rfl).1 1).trans rfl
 have hxb10_0_w18 : w18.cell? ⟨w7.heap.size, 0, none⟩ = some (.int .i64 X0) := (blk_cell (HLw18.out.get 6 rfl).1 0).trans rfl
 have hxb10_1_w18 : w18.cell? ⟨w7.heap.size, 1, none⟩ = some (.slice Aw7 X1.length cw7) := (blk_cell (HLw18.out.get 6 rfl).1 1).trans rfl
 go_wp2_with fail
 (with_reducible refine (laws_markAlgebra.marks X0 (fun k => low7 ≤ k ∧ k < hiw7) _ X1 1 W _ (HBw18.out) (HLw18.out.get 7 rfl) (by have := HBD.out; omega) (by have := HBD.out; omega)).mono ?_)
 rintro e w19 ⟨rfl, hm1, hm2, hm3⟩
 have HLw19 := Aside0.mk (Live.mark HLw18.out 7 rfl hm3 (seg_S hm1 (fun k hk _ _ => hk) (Nat.le_refl _)))
 have HBw19 := Aside0.mk hm2
 clear hm1 hm2 hm3
 have hxb3_0_w19 : w19.cell? ⟨W.heap.size, 0, none⟩ = some (.int .i64 a0) := (blk_cell (HLw19.out.get 12 rfl).1 0).trans rfl
 have hxb3_1_w19 : w19.cell? ⟨W.heap.size, 1, none⟩ = some (.slice A0 l0.length c0) := (blk_cell (HLw19.out.get 12 rfl).1 1).trans rfl
 have hxb10_0_w19 : w19.cell? ⟨w7.heap.size, 0, none⟩ = some (.int .i64 X0) := (blk_cell (HLw19.out.get 6 rfl).1 0).trans rfl
 have hxb10_1_w19 : w19.cell? ⟨w7.heap.size, 1, none⟩ = some (.slice Aw7 X1.length cw7) := (blk_cell (HLw19.out.get 6 rfl).1 1).trans rfl
 go_wp2_with fail
 (with_reducible refine (laws_markIntS.calls k (fun k => low9 ≤ k ∧ k < hiw9) _ X2 (1 + (totO X1 : Int)) _ _ W _ (HBw19.out) (HLw19.out.get 5 rfl) F10.out).mono ?_)
 rintro e w20 ⟨rfl, hm1, hm2, hm3⟩
 have HLw20 := Aside0.mk (Live.mark HLw19.out 5 rfl hm3 (seg_R (Kd.R_mono (Kd.R_tight rfl hm1) (fun k hk => (HLw19.out.get 5 rfl).1 k hk.symm)) (fun k hk _ _ => hk) (Nat.le_refl _)))
 have HBw20 := Aside0.mk hm2
 clear hm1 hm2 hm3
 have hxb3_0_w20 : w20.cell? ⟨W.heap.size, 0, none⟩ = some (.int .i64 a0) := (blk_cell (HLw20.out.get 12 rfl).1 0).trans rfl
 have hxb3_1_w20 : w20.cell? ⟨W.heap.size, 1, none⟩ = some (.slice A0 l0.length c0) := (blk_cell (HLw20.out.get 12 rfl).1 1).trans rfl
 have hxb10_0_w20 : w20.cell? ⟨w7.heap.size, 0, none⟩ = some (.int .i64 X0) := (blk_cell (HLw20.out.get 6 rfl).1 0).trans rfl
 have hxb10_1_w20 : w20.cell? ⟨w7.heap.size, 1, none⟩ = some (.slice Aw7 X1.length cw7) := (blk_cell (HLw20.out.get 6 rfl).1 1).trans rfl
 go_wp2_with fail
 (with_reducible refine (laws_markIntS.calls k (fun k => low10 ≤ k ∧ k < hiw10) _ X3 ((1 + (totO X1 : Int)) + (X2.length : Int)) _ _ W _ (HBw20.out) (HLw20.out.get 4 rfl) F11.out).mono ?_)
 rintro e w21 ⟨rfl, hm1, hm2, hm3⟩
 have HLw21 := Aside0.mk (Live.mark HLw20.out 4 rfl hm3 (seg_R (Kd.R_mono (Kd.R_tight rfl hm1) (fun k hk => (HLw20.out.get 4 rfl).1 k hk.symm)) (fun k hk _ _ => hk) (Nat.le_refl _)))
 have HBw21 := Aside0.mk hm2
 clear hm1 hm2 hm3
 have hxb3_0_w21 : w21.cell? ⟨W.heap.size, 0, none⟩ = some (.int .i64 a0) := (blk_cell (HLw21.out.get 12 rfl).1 0).trans rfl
 have hxb3_1_w21 : w21.cell? ⟨W.heap.size, 1, none⟩ = some (.slice A0 l0.length c0) := (blk_cell (HLw21.out.get 12 rfl).1 1).trans rfl
 have hxb10_0_w21 : w21.cell? ⟨w7.heap.size, 0, none⟩ = some (.int .i64 X0) := (blk_cell (HLw21.out.get 6 rfl).1 0).trans rfl
 have hxb10_1_w21 : w21.cell? ⟨w7.heap.size, 1, none⟩ = some (.slice Aw7 X1.length cw7) := (blk_cell (HLw21.out.get 6 rfl).1 1).trans rfl
 go_wp2_with fail
 (with_reducible refine (laws_eqIntS.calls k _ _ X4 _ _ X4 true _ (Kd.R_reads' (HLw21.out.get 3 rfl)).2.2 (Kd.R_reads' (HLw21.out.get 3 rfl)).2.1 (Kd.R_reads' (HLw21.out.get 8 rfl)).2.2 (Kd.R_reads' (HLw21.out.get 8 rfl)).2.1 F6.out).mono ?_)
 rintro e w22 ⟨rfl, hbw22⟩
 have HLw22 := Aside0.mk (HLw21.out.below hbw22.below)
 have HBw22 := Aside0.mk (below_step (HBw21.out) (hbw22.below))
 clear hbw22
 have hxb3_0_w22 : w22.cell? ⟨W.heap.size, 0, none⟩ = some (.int .i64 a0) := (blk_cell (HLw22.out.get 12 rfl).1 0).trans rfl
 have hxb3_1_w22 : w22.cell? ⟨W.heap.size, 1, none⟩ = some (.slice A0 l0.length c0) := (blk_cell (HLw22.out.get 12 rfl).1 1).trans rfl
 have hxb10_0_w22 : w22.cell? ⟨w7.heap.size, 0, none⟩ = some (.int .i64 X0) := (blk_cell (HLw22.out.get 6 rfl).1 0).trans rfl
 have hxb10_1_w22 : w22.cell? ⟨w7.heap.size, 1, none⟩ = some (.slice Aw7 X1.length cw7) := (blk_cell (HLw22.out.get 6 rfl).1 1).trans rfl
 go_wp2_with fail
 (with_reducible refine (laws_markIntS.calls k (fun k => low11 ≤ k ∧ k < hiw11) _ X4 1 _ _ W _ (HBw22.out) (HLw22.out.get 3 rfl) F12.out).mono ?_)
 rintro e w23 ⟨rfl, hm1, hm2, hm3⟩
 have HLw23 := Aside0.mk (Live.mark HLw22.out 3 rfl hm3 (seg_R (Kd.R_mono (Kd.R_tight rfl hm1) (fun k hk => (HLw22.out.get 3 rfl).1 k hk.symm)) (fun k hk _ _ => hk) (Nat.le_refl _)))
 have HBw23 := Aside0.mk hm2
 clear hm1 hm2 hm3
 have hxb3_0_w23 : w23.cell? ⟨W.heap.size, 0, none⟩ = some (.int .i64 a0) := (blk_cell (HLw23.out.get 12 rfl).1 0).trans rfl
 have hxb3_1_w23 : w23.cell? ⟨W.heap.size, 1, none⟩ = some (.slice A0 l0.length c0) := (blk_cell (HLw23.out.get 12 rfl).1 1).trans rfl
 have hxb10_0_w23 : w23.cell? ⟨w7.heap.size, 0, none⟩ = some (.int .i64 X0) := (blk_cell (HLw23.out.get 6 rfl).1 0).trans rfl
 have hxb10_1_w23 : w23.cell? ⟨w7.heap.size, 1, none⟩ = some (.slice Aw7 X1.length cw7) := (blk_cell (HLw23.out.get 6 rfl).1 1).trans rfl
 go_wp2_with fail
 have r_ := (Kd.R_reads' (HLw23.out.get 3 rfl)).2
 have q_ := laws_heldIntS.calls k _ _ (asc X4.length 1) 1 (1 + (X4.length : Int)) _ (by first | exact r_.2 | (rw [asc_length]; exact r_.2)) (by first | exact r_.1 | (rw [asc_length]; exact r_.1)) F13.out
 rw [asc_length] at q_
 (with_reducible refine q_.mono ?_)
 clear q_ r_
 rintro e w24 ⟨rfl, hbw24⟩
 have HLw24 := Aside0.mk (HLw23.out.below hbw24.below)
 have HBw24 := Aside0.mk (below_step (HBw23.out) (hbw24.below))
 clear hbw24
 have hxb3_0_w24 : w24.cell? ⟨W.heap.size, 0, none⟩ = some (.int .i64 a0) := (blk_cell (HLw24.out.get 12 rfl).1 0).trans rfl
 have hxb3_1_w24 : w24.cell? ⟨W.heap.size, 1, none⟩ = some (.slice A0 l0.length c0) := (blk_cell (HLw24.out.get 12 rfl).1 1).trans rfl
 have hxb10_0_w24 : w24.cell? ⟨w7.heap.size, 0, none⟩ = some (.int .i64 X0) := (blk_cell (HLw24.out.get 6 rfl).1 0).trans rfl
 have hxb10_1_w24 : w24.cell? ⟨w7.heap.size, 1, none⟩ = some (.slice Aw7 X1.length cw7) := (blk_cell (HLw24.out.get 6 rfl).1 1).trans rfl
 go_wp2_with fail
 (with_reducible refine (laws_toAlgebra.calls k a0 _ _ l0 X0 X1 _ (Kd.C_below HR0.out (HBw24.out)) HC0.out F1.out).mono ?_)
 rintro e w25 ⟨vw25_0, rfl, how25_0, hbw25⟩
 obtain ⟨Aw25, cw25, rfl⟩ := Kd.S_slice how25_0
 obtain ⟨low25, hiw25, hlw25⟩ := Live.make_S HLw24.out hbw25 how25_0 (below_size (HBw24.out))
 have HLw25 := Aside0.mk hlw25
 clear hlw25 how25_0
 have HBw25 := Aside0.mk (below_step (HBw24.out) (hbw25))
 clear hbw25
 have hxb3_0_w25 : w25.cell? ⟨W.heap.size, 0, none⟩ = some (.int .i64 a0) := (blk_cell (HLw25.out.get 13 rfl).1 0).trans rfl
 have hxb3_1_w25 : w25.cell? ⟨W.heap.size, 1, none⟩ = some (.slice A0 l0.length c0) := (blk_cell (HLw25.out.get 13 rfl).1 1).trans rfl
 have hxb10_0_w25 : w25.cell? ⟨w7.heap.size, 0, none⟩ = some (.int .i64 X0) := (blk_cell (HLw25.out.get 7 rfl).1 0).trans rfl
 have hxb10_1_w25 : w25.cell? ⟨w7.heap.size, 1, none⟩ = some (.slice Aw7 X1.length cw7) := (blk_cell (HLw25.out.get 7 rfl).1 1).trans rfl
 go_wp2_with fail
 (with_reducible refine (laws_toIntS.calls k _ _ l1 X2 _ (Kd.C_below HR1.out (HBw25.out)) HC1.out F2.out).mono ?_)
 rintro e w26 ⟨vw26_0, rfl, how26_0, hbw26⟩
 obtain ⟨Aw26, cw26, rfl⟩ := Kd.R_slice how26_0
 obtain ⟨low26, hiw26, hlw26⟩ := Live.make_R HLw25.out hbw26 how26_0 (below_size (HBw25.out))
 have HLw26 := Aside0.mk hlw26
 clear hlw26 how26_0
 have HBw26 := Aside0.mk (below_step (HBw25.out) (hbw26))
 clear hbw26
 have hxb3_0_w26 : w26.cell? ⟨W.heap.size, 0, none⟩ = some (.int .i64 a0) := (blk_cell (HLw26.out.get 14 rfl).1 0).trans rfl
 have hxb3_1_w26 : w26.cell? ⟨W.heap.size, 1, none⟩ = some (.slice A0 l0.length c0) := (blk_cell (HLw26.out.get 14 rfl).1 1).trans rfl
 have hxb10_0_w26 : w26.cell? ⟨w7.heap.size, 0, none⟩ = some (.int .i64 X0) := (blk_cell (HLw26.out.get 8 rfl).1 0).trans rfl
 have hxb10_1_w26 : w26.cell? ⟨w7.heap.size, 1, none⟩ = some (.slice Aw7 X1.length cw7) := (blk_cell (HLw26.out.get 8 rfl).1 1).trans rfl
 go_wp2_with fail
 (with_reducible refine (laws_toIntS.calls k _ _ l2 X3 _ (Kd.C_below HR2.out (HBw26.out)) HC2.out F3.out).mono ?_)
 rintro e w27 ⟨vw27_0, rfl, how27_0, hbw27⟩
 obtain ⟨Aw27, cw27, rfl⟩ := Kd.R_slice how27_0
 obtain ⟨low27, hiw27, hlw27⟩ := Live.make_R HLw26.out hbw27 how27_0 (below_size (HBw26.out))
 have HLw27 := Aside0.mk hlw27
 clear hlw27 how27_0
 have HBw27 := Aside0.mk (below_step (HBw26.out) (hbw27))
 clear hbw27
 have hxb3_0_w27 : w27.cell? ⟨W.heap.size, 0, none⟩ = some (.int .i64 a0) := (blk_cell (HLw27.out.get 15 rfl).1 0).trans rfl
 have hxb3_1_w27 : w27.cell? ⟨W.heap.size, 1, none⟩ = some (.slice A0 l0.length c0) := (blk_cell (HLw27.out.get 15 rfl).1 1).trans rfl
 have hxb10_0_w27 : w27.cell? ⟨w7.heap.size, 0, none⟩ = some (.int .i64 X0) := (blk_cell (HLw27.out.get 9 rfl).1 0).trans rfl
 have hxb10_1_w27 : w27.cell? ⟨w7.heap.size, 1, none⟩ = some (.slice Aw7 X1.length cw7) := (blk_cell (HLw27.out.get 9 rfl).1 1).trans rfl
 go_wp2_with fail
 (with_reducible refine (impl_ImageSub.calls k X0 _ _ X1 _ _ X2 _ _ X3 X4 X5 _ (Kd.S_reads' (HLw27.out.get 2 rfl)).2.2 (Kd.S_reads' (HLw27.out.get 2 rfl)).2.1 (Kd.R_reads' (HLw27.out.get 1 rfl)).2.2 (Kd.R_reads' (HLw27.out.get 1 rfl)).2.1 (Kd.R_reads' (HLw27.out.get 0 rfl)).2.2 (Kd.R_reads' (HLw27.out.get 0 rfl)).2.1 F5.out).mono ?_)
 rintro e w28 ⟨vw28_0, rfl, how28_0, hbw28⟩
 obtain ⟨Aw28, cw28, rfl⟩ := Kd.R_slice how28_0
 obtain ⟨low28, hiw28, hlw28⟩ := Live.make_R HLw27.out hbw28 how28_0 (below_size (HBw27.out))
 have HLw28 := Aside0.mk hlw28
 clear hlw28 how28_0
 have HBw28 := Aside0.mk (below_step (HBw27.out) (hbw28))
 clear hbw28
 have hxb3_0_w28 : w28.cell? ⟨W.heap.size, 0, none⟩ = some (.int .i64 a0) := (blk_cell (HLw28.out.get 16 rfl).1 0).trans rfl
 have hxb3_1_w28 : w28.cell? ⟨W.heap.size, 1, none⟩ = some (.slice A0 l0.length c0) := (blk_cell (HLw28.out.get 16 rfl).1 1).trans rfl
 have hxb10_0_w28 : w28.cell? ⟨w7.heap.size, 0, none⟩ = some (.int .i64 X0) := (blk_cell (HLw28.out.get 10 rfl).1 0).trans rfl
 have hxb10_1_w28 : w28.cell? ⟨w7.heap.size, 1, none⟩ = some (.slice Aw7 X1.length cw7) := (blk_cell (HLw28.out.get 10 rfl).1 1).trans rfl
 go_wp2_with fail
 (with_reducible refine (laws_eqIntS.calls k _ _ X4 _ _ X4 true _ (Kd.R_reads' (HLw28.out.get 0 rfl)).2.2 (Kd.R_reads' (HLw28.out.get 0 rfl)).2.1 (Kd.R_reads' (HLw28.out.get 12 rfl)).2.2 (Kd.R_reads' (HLw28.out.get 12 rfl)).2.1 F6.out).mono ?_)
 rintro e w29 ⟨rfl, hbw29⟩
 have HLw29 := Aside0.mk (HLw28.out.below hbw29.below)
 have HBw29 := Aside0.mk (below_step (HBw28.out) (hbw29.below))
 clear hbw29
 have hxb3_0_w29 : w29.cell? ⟨W.heap.size, 0, none⟩ = some (.int .i64 a0) := (blk_cell (HLw29.out.get 16 rfl).1 0).trans rfl
 have hxb3_1_w29 : w29.cell? ⟨W.heap.size, 1, none⟩ = some (.slice A0 l0.length c0) := (blk_cell (HLw29.out.get 16 rfl).1 1).trans rfl
 have hxb10_0_w29 : w29.cell? ⟨w7.heap.size, 0, none⟩ = some (.int .i64 X0) := (blk_cell (HLw29.out.get 10 rfl).1 0).trans rfl
 have hxb10_1_w29 : w29.cell? ⟨w7.heap.size, 1, none⟩ = some (.slice Aw7 X1.length cw7) := (blk_cell (HLw29.out.get 10 rfl).1 1).trans rfl
 go_wp2_with fail
 have r_ := (Kd.R_reads' (HLw29.out.get 7 rfl)).2
 have q_ := laws_heldIntS.calls k _ _ (asc X4.length 1) 1 (1 + (X4.length : Int)) _ (by first | exact r_.2 | (rw [asc_length]; exact r_.2)) (by first | exact r_.1 | (rw [asc_length]; exact r_.1)) F13.out
 rw [asc_length] at q_
 (with_reducible refine q_.mono ?_)
 clear q_ r_
 rintro e w30 ⟨rfl, hbw30⟩
 have HLw30 := Aside0.mk (HLw29.out.below hbw30.below)
 have HBw30 := Aside0.mk (below_step (HBw29.out) (hbw30.below))
 clear hbw30
 have hxb3_0_w30 : w30.cell? ⟨W.heap.size, 0, none⟩ = some (.int .i64 a0) := (blk_cell (HLw30.out.get 16 rfl).1 0).trans rfl
 have hxb3_1_w30 : w30.cell? ⟨W.heap.size, 1, none⟩ = some (.slice A0 l0.length c0) := (blk_cell (HLw30.out.get 16 rfl).1 1).trans rfl
 have hxb10_0_w30 : w30.cell? ⟨w7.heap.size, 0, none⟩ = some (.int .i64 X0) := (blk_cell (HLw30.out.get 10 rfl).1 0).trans rfl
 have hxb10_1_w30 : w30.cell? ⟨w7.heap.size, 1, none⟩ = some (.slice Aw7 X1.length cw7) := (blk_cell (HLw30.out.get 10 rfl).1 1).trans rfl
 go_wp2
 go_ret
 exact ⟨rfl, HBw30.out⟩
end Go.Proofs.Ytgockfnhgmlhoaa
