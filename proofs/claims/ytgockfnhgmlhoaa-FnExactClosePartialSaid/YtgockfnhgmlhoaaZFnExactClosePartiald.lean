/- Part 4 of the proof of the law FnExactClosePartial: functions and lists that say what the Go code computes, and that it does; no condition beside those that each theorem states. -/
import Derived.Test.YtgockfnhgmlhoaaZFnExactClosePartialc
import Derived.Test.YtgockfnhgmlhoaaZFnExactClosePartialWMore
import Derived.Test.YtgockfnhgmlhoaaZFnExactClosePartialWKept
import Derived.Test.YtgockfnhgmlhoaaZFnExactClosePartialWApart
import Derived.Test.YtgockfnhgmlhoaaZFnExactClosePartialWFoot
namespace Go.Proofs.Ytgockfnhgmlhoaa.Q
open Go.RowKit Go.Proofs.YtgockfnhgmlhoaaW.PrintWords Go.Proofs.YtgockfnhgmlhoaaW.PrintLast Go.Proofs.YtgockfnhgmlhoaaW.PrintMore
attribute [local go_sem] max2_int min2_int max_two min_two max_three min_three max_four min_four
set_option linter.unusedVariables false
set_option linter.unusedSimpArgs false
mutual
def impl_closeMap.l0 : Nat → List Int → Bool → Int → List (S80) → Int → List (S80) → Option (Bool × List Int)
  | 0, _, _, _, _, _, _ => none
  | k + 1, x2, x7, x889000, x889001, x890000, x890001 => if x7 = true then (impl_closeMap.l1 k x2 false x889001 (x889001.length : Int) 0 x889000 x889001 x890000 x890001) else (some (true, x2))
def impl_closeMap.l1 : Nat → List Int → Bool → List (S80) → Int → Int → Int → List (S80) → Int → List (S80) → Option (Bool × List Int)
  | 0, _, _, _, _, _, _, _, _, _ => none
  | k + 1, x2, x7, x15, x16, x17, x889000, x889001, x890000, x890001 => if x17 < x16 then (if 0 ≤ x17 then (if x17 < (x15.length : Int) then (impl_closeMap.l2 k x2 x7 x17 x15 x16 x17 ((rd_T80 x15 x17).f1) (((rd_T80 x15 x17).f1).length : Int) 0 x889000 x889001 x890000 x890001 ((rd_T80 x15 x17).f0) ((rd_T80 x15 x17).f1)) else (none)) else (none)) else (impl_closeMap.l0 k x2 x7 x889000 x889001 x890000 x890001)
def impl_closeMap.l2 : Nat → List Int → Bool → Int → List (S80) → Int → Int → List Int → Int → Int → Int → List (S80) → Int → List (S80) → Int → List Int → Option (Bool × List Int)
  | 0, _, _, _, _, _, _, _, _, _, _, _, _, _, _, _ => none
  | k + 1, x2, x7, x8, x15, x16, x17, x23, x24, x25, x889000, x889001, x890000, x890001, x892000, x892001 => if x25 < x24 then (if 0 ≤ x25 then (if x25 < (x23.length : Int) then ((impl_noneOpen.f k x25 x892000 x889000 x2).bind fun t893 => (if t893 = true then (if 0 ≤ x8 then (if x8 < (x890001.length : Int) then ((impl_imageIndex.f k x25 x892000 x889000 x889001 x890000 x890001 x2).bind fun t895 => (if 0 ≤ t895 then (if t895 < (((rd_T80 x890001 x8).f1).length : Int) then (if 0 ≤ (rd x23 x25) then (if (rd x23 x25) < (x2.length : Int) then (if (rd x2 (rd x23 x25)) < 0 then (impl_closeMap.l2 k (x2.set ((rd x23 x25) : Int).toNat (rd ((rd_T80 x890001 x8).f1) t895)) true x8 x15 x16 x17 x23 x24 (wrap64 (x25 + 1)) x889000 x889001 x890000 x890001 x892000 x892001) else (if (rd x2 (rd x23 x25)) = (rd ((rd_T80 x890001 x8).f1) t895) then (impl_closeMap.l2 k x2 x7 x8 x15 x16 x17 x23 x24 (wrap64 (x25 + 1)) x889000 x889001 x890000 x890001 x892000 x892001) else (some (false, x2)))) else (none)) else (none)) else (none)) else (none))) else (none)) else (none)) else (impl_closeMap.l2 k x2 x7 x8 x15 x16 x17 x23 x24 (wrap64 (x25 + 1)) x889000 x889001 x890000 x890001 x892000 x892001))) else (none)) else (none)) else (impl_closeMap.l1 k x2 x7 x15 x16 (wrap64 (x17 + 1)) x889000 x889001 x890000 x890001)
end
def impl_closeMap.f (k : Nat) (a0_0 : Int) (l0_1 : List (S80)) (a1_0 : Int) (l1_1 : List (S80)) (l2 : List Int) : Option (Bool × List Int) := impl_closeMap.l0 k l2 true a0_0 l0_1 a1_0 l1_1
theorem impl_closeMap.mono_l : ∀ k, (∀ y0 y1 y2 y3 y4 y5, LeO (impl_closeMap.l0 k y0 y1 y2 y3 y4 y5) (impl_closeMap.l0 (k + 1) y0 y1 y2 y3 y4 y5)) ∧ (∀ y0 y1 y2 y3 y4 y5 y6 y7 y8, LeO (impl_closeMap.l1 k y0 y1 y2 y3 y4 y5 y6 y7 y8) (impl_closeMap.l1 (k + 1) y0 y1 y2 y3 y4 y5 y6 y7 y8)) ∧ (∀ y0 y1 y2 y3 y4 y5 y6 y7 y8 y9 y10 y11 y12 y13 y14, LeO (impl_closeMap.l2 k y0 y1 y2 y3 y4 y5 y6 y7 y8 y9 y10 y11 y12 y13 y14) (impl_closeMap.l2 (k + 1) y0 y1 y2 y3 y4 y5 y6 y7 y8 y9 y10 y11 y12 y13 y14))
  | 0 => ⟨fun _ _ _ _ _ _ r h => by simp [impl_closeMap.l0] at h, fun _ _ _ _ _ _ _ _ _ r h => by simp [impl_closeMap.l1] at h, fun _ _ _ _ _ _ _ _ _ _ _ _ _ _ _ r h => by simp [impl_closeMap.l2] at h⟩
  | k + 1 => by
    obtain ⟨ih0, ih1, ih2⟩ := impl_closeMap.mono_l k
    refine ⟨?_, ?_, ?_⟩
    · intro y0 y1 y2 y3 y4 y5
      unfold impl_closeMap.l0
      repeat' first
      | (with_reducible exact ih0 _ _ _ _ _ _)
      | (with_reducible exact ih1 _ _ _ _ _ _ _ _ _)
      | (with_reducible exact ih2 _ _ _ _ _ _ _ _ _ _ _ _ _ _ _)
      | (with_reducible exact impl_imageIndex.mono _ _ _ _ _ _ _ _)
      | (with_reducible exact impl_noneOpen.mono _ _ _ _ _)
      | (with_reducible exact LeO.refl _)
      | (with_reducible exact LeO.none _)
      | (with_reducible refine LeO.ite ?_ ?_)
      | (with_reducible refine LeO.bind ?_ (fun _ => ?_))
      | exact ih0 _ _ _ _ _ _
      | exact ih1 _ _ _ _ _ _ _ _ _
      | exact ih2 _ _ _ _ _ _ _ _ _ _ _ _ _ _ _
      | exact impl_imageIndex.mono _ _ _ _ _ _ _ _
      | exact impl_noneOpen.mono _ _ _ _ _
      | exact LeO.none _
      | refine LeO.ite ?_ ?_
      | refine LeO.bind ?_ (fun _ => ?_)
    · intro y0 y1 y2 y3 y4 y5 y6 y7 y8
      unfold impl_closeMap.l1
      repeat' first
      | (with_reducible exact ih0 _ _ _ _ _ _)
      | (with_reducible exact ih1 _ _ _ _ _ _ _ _ _)
      | (with_reducible exact ih2 _ _ _ _ _ _ _ _ _ _ _ _ _ _ _)
      | (with_reducible exact impl_imageIndex.mono _ _ _ _ _ _ _ _)
      | (with_reducible exact impl_noneOpen.mono _ _ _ _ _)
      | (with_reducible exact LeO.refl _)
      | (with_reducible exact LeO.none _)
      | (with_reducible refine LeO.ite ?_ ?_)
      | (with_reducible refine LeO.bind ?_ (fun _ => ?_))
      | exact ih0 _ _ _ _ _ _
      | exact ih1 _ _ _ _ _ _ _ _ _
      | exact ih2 _ _ _ _ _ _ _ _ _ _ _ _ _ _ _
      | exact impl_imageIndex.mono _ _ _ _ _ _ _ _
      | exact impl_noneOpen.mono _ _ _ _ _
      | exact LeO.none _
      | refine LeO.ite ?_ ?_
      | refine LeO.bind ?_ (fun _ => ?_)
    · intro y0 y1 y2 y3 y4 y5 y6 y7 y8 y9 y10 y11 y12 y13 y14
      unfold impl_closeMap.l2
      repeat' first
      | (with_reducible exact ih0 _ _ _ _ _ _)
      | (with_reducible exact ih1 _ _ _ _ _ _ _ _ _)
      | (with_reducible exact ih2 _ _ _ _ _ _ _ _ _ _ _ _ _ _ _)
      | (with_reducible exact impl_imageIndex.mono _ _ _ _ _ _ _ _)
      | (with_reducible exact impl_noneOpen.mono _ _ _ _ _)
      | (with_reducible exact LeO.refl _)
      | (with_reducible exact LeO.none _)
      | (with_reducible refine LeO.ite ?_ ?_)
      | (with_reducible refine LeO.bind ?_ (fun _ => ?_))
      | exact ih0 _ _ _ _ _ _
      | exact ih1 _ _ _ _ _ _ _ _ _
      | exact ih2 _ _ _ _ _ _ _ _ _ _ _ _ _ _ _
      | exact impl_imageIndex.mono _ _ _ _ _ _ _ _
      | exact impl_noneOpen.mono _ _ _ _ _
      | exact LeO.none _
      | refine LeO.ite ?_ ?_
      | refine LeO.bind ?_ (fun _ => ?_)
theorem impl_closeMap.mono : ∀ a0 a1 a2 a3 a4 k, LeO (impl_closeMap.f k a0 a1 a2 a3 a4) (impl_closeMap.f (k + 1) a0 a1 a2 a3 a4) := by
  intro a0 a1 a2 a3 a4 k
  obtain ⟨ih0, ih1, ih2⟩ := impl_closeMap.mono_l k
  unfold impl_closeMap.f
  repeat' first
      | (with_reducible exact ih0 _ _ _ _ _ _)
      | (with_reducible exact ih1 _ _ _ _ _ _ _ _ _)
      | (with_reducible exact ih2 _ _ _ _ _ _ _ _ _ _ _ _ _ _ _)
      | (with_reducible exact impl_imageIndex.mono _ _ _ _ _ _ _ _)
      | (with_reducible exact impl_noneOpen.mono _ _ _ _ _)
      | (with_reducible exact LeO.refl _)
      | (with_reducible exact LeO.none _)
      | (with_reducible refine LeO.ite ?_ ?_)
      | (with_reducible refine LeO.bind ?_ (fun _ => ?_))
      | exact ih0 _ _ _ _ _ _
      | exact ih1 _ _ _ _ _ _ _ _ _
      | exact ih2 _ _ _ _ _ _ _ _ _ _ _ _ _ _ _
      | exact impl_imageIndex.mono _ _ _ _ _ _ _ _
      | exact impl_noneOpen.mono _ _ _ _ _
      | exact LeO.none _
      | refine LeO.ite ?_ ?_
      | refine LeO.bind ?_ (fun _ => ?_)
def impl_closeMap.T11 : Bool × List (List Nat × List Nat) := (true, [([], []), ([0], [0]), ([], []), ([1, 2], [1, 2]), ([3], [3]), ([4], [4]), ([], []), ([], []), ([7], [7]), ([], []), ([], []), ([], []), ([6, 8, 9, 10, 11], [6, 8, 9, 10, 11]), ([5, 12], [5, 12]), ([13], [13]), ([14, 12, 0, 1, 2, 3, 4, 5, 6, 7, 8, 9, 10, 11, 12, 13, 14], [14])])
def impl_closeMap.B11 : List Nat := [0, 1, 0, 7, 15, 31, 0, 0, 128, 0, 0, 0, 4032, 8191, 16383, 32767]
theorem impl_closeMap.tab11 : rtab .any (opsOf Try.f65 11) = impl_closeMap.T11 := by kernel_rfl
theorem impl_closeMap.bits11 : waitsOk impl_closeMap.T11.2 impl_closeMap.B11 = true := by kernel_rfl
set_option maxHeartbeats 8000000 in
set_option maxRecDepth 100000 in
theorem impl_closeMap.calls (k : Nat) (a0_0 : Int) (A0_1 : Option Addr) (c0_1 : Nat) (l0_1 : List (S80)) (a1_0 : Int) (A1_1 : Option Addr) (c1_1 : Nat) (l1_1 : List (S80)) (P2_ : Nat → Prop) (u9000_ : Value) (l2 : List Int) (r1 : Bool) (r2 : List Int) (w0 w : World) (hB : Below w0.heap.size w0 w) (hr0_1 : Kd.C k80 w0 A0_1 l0_1.length l0_1) (hc0_1 : l0_1.length ≤ c0_1) (hr1_1 : Kd.C k80 w0 A1_1 l1_1.length l1_1) (hc1_1 : l1_1.length ≤ c1_1) (ho2 : Kd.R (Kd.int .i64) 3 w w0.heap.size P2_ u9000_ l2) (h : impl_closeMap.f k a0_0 l0_1 a1_0 l1_1 l2 = some (r1, r2)) :
    Calls Try.prog 65 #[.agg #[.int .i64 a0_0, .slice A0_1 l0_1.length c0_1], .agg #[.int .i64 a1_0, .slice A1_1 l1_1.length c1_1], u9000_] w fun e w' => e = .returned (.bool r1) ∧ Kd.R (Kd.int .i64) 3 w' w0.heap.size (fun k_ => (P2_ k_ ∨ w.heap.size ≤ k_)) u9000_ r2 ∧ Below w0.heap.size w0 w' ∧ Kept w w' (fun k_ => P2_ k_) := by
  have hu31 := Try.underlying31
  have hu80 := Try.underlying80
  have HR0_1 := Aside0.mk hr0_1
  have HC0_1 := Aside0.mk hc0_1
  clear hr0_1 hc0_1
  have HR1_1 := Aside0.mk hr1_1
  have HC1_1 := Aside0.mk hc1_1
  clear hr1_1 hc1_1
  have HO2 := Aside0.mk (show Kd.R (Kd.int .i64) 3 w w0.heap.size (fun k_ => (P2_ k_ ∨ w.heap.size ≤ k_)) u9000_ l2 from Kd.R_mono ho2 (fun k_ hk => (.inl hk)))
  have HK := Aside0.mk (Kept.refl w (fun k_ => P2_ k_))
  have HW0 := Aside0.mk hB.size
  have HB := Aside0.mk hB
  clear hB
  have H : (impl_closeMap.l0 k l2 true a0_0 l0_1 a1_0 l1_1) = some (r1, r2) := h
  clear h
  have H' := Aside0.mk H
  clear H
  go_enter Try.func65, Try.ntmps65
  go_wp2_with (first | ((with_reducible refine gate_dst (N := 3) rfl ?_); refine box_event ?hg (N := 3) ?hd (cs := #[.int .i64 a0_0, .slice A0_1 l0_1.length c0_1]) (t := 31) ?hr ?_; (case hd => rfl); (case hg => rfl); (case hr => first | (go_simp; done) | (go_simp; rfl)); intro gb888 hg w4 hbox hb; have n0_ := Aside0.mk (Kd.R_below (by (with_reducible repeat (first | apply Kd.R_alloc | apply Kd.R_drewN | apply Kd.R_drew)); exact HO2.out) hb); have n1_ := Aside0.mk (Kept.below (S := (fun k_ => P2_ k_)) (by repeat (first | (with_reducible first | exact HK.out | apply Kept.alloc | apply Kept.drewN | apply Kept.drew) | exact HK.out)) hb); have n2_ := Aside0.mk (below_step (by repeat (first | (with_reducible first | exact HB.out | apply below_alloc | apply pw_below_drewN | apply below_drew1) | exact HB.out)) hb); have n3_ := Aside0.mk (hbox); have n4_ := Aside0.mk ((by rw [hg]; exact (by first | exact HK.out.1 | exact (show Kept w _ (fun k_ => P2_ k_) from by repeat (first | (with_reducible first | exact HK.out | apply Kept.alloc | apply Kept.drewN | apply Kept.drew) | exact HK.out)).1) : w.heap.size ≤ gb888)); have n5_ := Aside0.mk ((by rw [hg]; exact (below_size (by repeat (first | (with_reducible first | exact HB.out | apply below_alloc | apply pw_below_drewN | apply below_drew1) | exact HB.out))) : w0.heap.size ≤ gb888)); clear HO2; clear HK; clear HB; have HO2 := n0_; have HK := n1_; have HB := n2_; have BK888 := n3_; have GW888 := n4_; have GE888 := n5_; clear n0_ n1_ n2_ n3_ n4_ n5_; clear hb hbox hg) | ((with_reducible refine gate_dst (N := 4) rfl ?_); refine box_event ?hg (N := 4) ?hd (cs := #[.int .i64 a1_0, .slice A1_1 l1_1.length c1_1]) (t := 31) ?hr ?_; (case hd => rfl); (case hg => rfl); (case hr => first | (go_simp; done) | (go_simp; rfl)); intro gb889 hg w5 hbox hb; have n0_ := Aside0.mk (Kd.R_below (by (with_reducible repeat (first | apply Kd.R_alloc | apply Kd.R_drewN | apply Kd.R_drew)); exact HO2.out) hb); have n1_ := Aside0.mk (blk_below (g := gb888) (o := .cells #[.int .i64 a0_0, .slice A0_1 l0_1.length c0_1] 31 (0, 0)) (by (with_reducible repeat (first | refine blk_drewN ?_ _ | refine blk_drew ?_ | refine blk_alloc ?_ _)); exact BK888.out) hb); have n2_ := Aside0.mk (Kept.below (S := (fun k_ => P2_ k_)) (by repeat (first | (with_reducible first | exact HK.out | apply Kept.alloc | apply Kept.drewN | apply Kept.drew | refine Kept.setCell ?_ (.inr GW888.out) _) | exact HK.out)) hb); have n3_ := Aside0.mk (below_step (by repeat (first | (with_reducible first | exact HB.out | apply below_alloc | apply pw_below_drewN | apply below_drew1 | refine below_set ?_ GE888.out) | exact HB.out)) hb); have n4_ := Aside0.mk (hbox); have n5_ := Aside0.mk ((by rw [hg]; exact (by first | exact HK.out.1 | exact (show Kept w _ (fun k_ => P2_ k_) from by repeat (first | (with_reducible first | exact HK.out | apply Kept.alloc | apply Kept.drewN | apply Kept.drew | refine Kept.setCell ?_ (.inr GW888.out) _) | exact HK.out)).1) : w.heap.size ≤ gb889)); have n6_ := Aside0.mk ((by rw [hg]; exact (below_size (by repeat (first | (with_reducible first | exact HB.out | apply below_alloc | apply pw_below_drewN | apply below_drew1 | refine below_set ?_ GE888.out) | exact HB.out))) : w0.heap.size ≤ gb889)); have n7_ := Aside0.mk ((by rw [hg]; exact Nat.ne_of_lt (blk_lt (g := gb888) (o := .cells #[.int .i64 a0_0, .slice A0_1 l0_1.length c0_1] 31 (0, 0)) (by (with_reducible repeat (first | refine blk_drewN ?_ _ | refine blk_drew ?_ | refine blk_alloc ?_ _)); exact BK888.out)) : gb888 ≠ gb889)); have n8_ := Aside0.mk ((by rw [hg]; exact Nat.ne_of_gt (blk_lt (g := gb888) (o := .cells #[.int .i64 a0_0, .slice A0_1 l0_1.length c0_1] 31 (0, 0)) (by (with_reducible repeat (first | refine blk_drewN ?_ _ | refine blk_drew ?_ | refine blk_alloc ?_ _)); exact BK888.out)) : gb889 ≠ gb888)); clear HO2; clear BK888; clear HK; clear HB; have HO2 := n0_; have BK888 := n1_; have HK := n2_; have HB := n3_; have BK889 := n4_; have GW889 := n5_; have GE889 := n6_; have NB888_889 := n7_; have NB889_888 := n8_; clear n0_ n1_ n2_ n3_ n4_ n5_ n6_ n7_ n8_; clear hb hbox hg))
  go_loopg [7] k (fun kq v7 w' => ∃ (x2_1 : List Int) (x7_1 : Bool), v7 = .bool x7_1 ∧ Aside0 (impl_closeMap.l0 kq x2_1 x7_1 a0_0 l0_1 a1_0 l1_1 = some (r1, r2)) ∧ Aside0 (kq ≤ k) ∧ Aside0 (Kd.R (Kd.int .i64) 3 w' w0.heap.size (fun k_ => (P2_ k_ ∨ w.heap.size ≤ k_)) u9000_ x2_1) ∧ Aside0 (w'.heap[gb888]? = some (.cells #[.int .i64 a0_0, (.slice A0_1 l0_1.length c0_1)] 31 (0, 0))) ∧ Aside0 (w'.heap[gb889]? = some (.cells #[.int .i64 a1_0, (.slice A1_1 l1_1.length c1_1)] 31 (0, 0))) ∧ Aside0 (Kept w w' (fun k_ => P2_ k_)) ∧ Aside0 (Below w0.heap.size w0 w'))
  case atStart => exact ⟨(l2), (true), (by first | rfl | (simp; done) | (simp [*]; done)), H', ⟨Nat.le_refl _⟩, ⟨by (with_reducible repeat (first | apply Kd.R_alloc | apply Kd.R_drewN | apply Kd.R_drew)); exact HO2.out⟩, ⟨by (with_reducible repeat (first | refine blk_drewN ?_ _ | refine blk_drew ?_ | refine blk_alloc ?_ _)); exact BK888.out⟩, ⟨by (with_reducible repeat (first | refine blk_drewN ?_ _ | refine blk_drew ?_ | refine blk_alloc ?_ _)); exact BK889.out⟩, ⟨by repeat (first | (with_reducible first | exact HK.out | apply Kept.alloc | apply Kept.drewN | apply Kept.drew | refine Kept.setCell ?_ (.inr GW888.out) _ | refine Kept.setCell ?_ (.inr GW889.out) _) | exact HK.out)⟩, ⟨by repeat (first | (with_reducible first | exact HB.out | apply below_alloc | apply pw_below_drewN | apply below_drew1 | refine below_set ?_ GE888.out | refine below_set ?_ GE889.out) | exact HB.out)⟩⟩
  case round =>
    clear H'
    try clear c1
    try clear p2
    obtain ⟨x2_1, x7_1, rfl, HA, HK1, HO_2, BK888, BK889, HK, HB⟩ := hrel
    cases gk with
    | zero => exact absurd HA.out (by simp [impl_closeMap.l0])
    | succ k1 =>
      have H := HA.out
      clear HA
      simp only [impl_closeMap.l0] at H
      by_cases c6 : x7_1 = true
      · subst c6
        have H1 : (impl_closeMap.l1 k1 x2_1 false l0_1 (l0_1.length : Int) 0 a0_0 l0_1 a1_0 l1_1) = some (r1, r2) := by rw [if_pos rfl] at H; exact H
        clear H
        have H := H1
        clear H1
        have H' := Aside0.mk H
        clear H
        have hnb7 := NB888_889.out
        have hnc7 := NB889_888.out
        have hcz8_0 : wr.cell? ⟨gb888, 0, none⟩ = some (.int .i64 a0_0) := (blk_cell BK888.out 0).trans rfl
        have hcz8_1 : wr.cell? ⟨gb888, 1, none⟩ = some (.slice A0_1 l0_1.length c0_1) := (blk_cell BK888.out 1).trans rfl
        have hfz8_0 := blk_frozen BK888.out 0
        have hfz8_1 := blk_frozen BK888.out 1
        go_wp2
        go_loopg [7, 17] k1 (fun kq v7 v17 w' => ∃ (x2_2 : List Int) (x7_2 : Bool) (x17_2 : Int), v7 = .bool x7_2 ∧ v17 = .int .i64 x17_2 ∧ Aside0 (impl_closeMap.l1 kq x2_2 x7_2 l0_1 (l0_1.length : Int) x17_2 a0_0 l0_1 a1_0 l1_1 = some (r1, r2)) ∧ Aside0 (kq ≤ k1) ∧ Aside0 (Kd.R (Kd.int .i64) 3 w' w0.heap.size (fun k_ => (P2_ k_ ∨ w.heap.size ≤ k_)) u9000_ x2_2) ∧ Aside0 (w'.heap[gb888]? = some (.cells #[.int .i64 a0_0, (.slice A0_1 l0_1.length c0_1)] 31 (0, 0))) ∧ Aside0 (w'.heap[gb889]? = some (.cells #[.int .i64 a1_0, (.slice A1_1 l1_1.length c1_1)] 31 (0, 0))) ∧ Aside0 (Kept w w' (fun k_ => P2_ k_)) ∧ Aside0 (Below w0.heap.size w0 w'))
        case atStart => exact ⟨(x2_1), (false), (0), (by first | rfl | (simp; done) | (simp [*]; done)), (by first | rfl | (simp; done) | (simp [*]; done)), H', ⟨Nat.le_refl _⟩, ⟨by (with_reducible repeat (first | apply Kd.R_alloc | apply Kd.R_drewN | apply Kd.R_drew)); exact HO_2.out⟩, ⟨by (with_reducible repeat (first | refine blk_drewN ?_ _ | refine blk_drew ?_ | refine blk_alloc ?_ _)); exact BK888.out⟩, ⟨by (with_reducible repeat (first | refine blk_drewN ?_ _ | refine blk_drew ?_ | refine blk_alloc ?_ _)); exact BK889.out⟩, ⟨by repeat (first | (with_reducible first | exact HK.out | apply Kept.alloc | apply Kept.drewN | apply Kept.drew | refine Kept.setCell ?_ (.inr GW888.out) _ | refine Kept.setCell ?_ (.inr GW889.out) _) | exact HK.out)⟩, ⟨by repeat (first | (with_reducible first | exact HB.out | apply below_alloc | apply pw_below_drewN | apply below_drew1 | refine below_set ?_ GE888.out | refine below_set ?_ GE889.out) | exact HB.out)⟩⟩
        case round =>
          clear H'
          try clear c1
          try clear p2
          try clear c6
          try clear c7
          try clear hcz8_0
          try clear hcz8_1
          try clear hfz8_0
          try clear hfz8_1
          try clear p2
          obtain ⟨x2_2, x7_2, x17_2, rfl, rfl, HA, HK2, HO_2, BK888, BK889, HK, HB⟩ := hrel
          cases gk with
          | zero => exact absurd HA.out (by simp [impl_closeMap.l1])
          | succ k2 =>
            have H := HA.out
            clear HA
            simp only [impl_closeMap.l1] at H
            by_cases c9 : x17_2 < (l0_1.length : Int)
            · rw [if_pos c9] at H
              have c9b0 : decide (x17_2 < (l0_1.length : Int)) = true := decide_eq_true c9
              clear c9
              by_cases c10 : 0 ≤ x17_2
              · rw [if_pos c10] at H
                have c10b0 : decide (0 ≤ x17_2) = true := decide_eq_true c10
                clear c10
                by_cases c11 : x17_2 < (l0_1.length : Int)
                · rw [if_pos c11] at H
                  have c11b0 : decide (x17_2 < (l0_1.length : Int)) = true := decide_eq_true c11
                  clear c11
                  have H' := Aside0.mk H
                  clear H
                  have p890 : 0 ≤ (x17_2 : Int) := of_decide_eq_true (by first | (with_reducible assumption) | assumption)
                  have q890 : x17_2 < (l0_1.length : Int) := of_decide_eq_true (by first | (with_reducible assumption) | assumption)
                  obtain ⟨ad890, A890_1, c890_1, e890, hx890_0, hx890_1, hl890_1, hi890_1⟩ := at_T80 HR0_1.out x17_2 p890 q890
                  cases e890
                  replace hx890_0 := (HB.out.cell (World.block_lt_of_cell? w0 _ hx890_0)).trans hx890_0
                  replace hx890_1 := (HB.out.cell (World.block_lt_of_cell? w0 _ hx890_1)).trans hx890_1
                  have HR890_1 := Aside0.mk hi890_1
                  have HC890_1 := Aside0.mk hl890_1
                  clear hi890_1 hl890_1
                  replace p890 := eq_true p890
                  replace q890 := eq_true q890
                  go_wp2_with (first | ((with_reducible refine gate_dst (N := 9) rfl ?_); refine box_event ?hg (N := 9) ?hd (cs := #[.int .i64 0, .slice none 0 0]) (t := 80) ?hr ?_; (case hd => rfl); (case hg => rfl); (case hr => first | (go_simp; done) | (go_simp; rfl)); intro gb891 hg w12 hbox hb; have n0_ := Aside0.mk (Kd.R_below (by (with_reducible repeat (first | apply Kd.R_alloc | apply Kd.R_drewN | apply Kd.R_drew)); exact HO_2.out) hb); have n1_ := Aside0.mk (blk_below (g := gb888) (o := .cells #[.int .i64 a0_0, .slice (some ad890) l0_1.length c0_1] 31 (0, 0)) (by (with_reducible repeat (first | refine blk_drewN ?_ _ | refine blk_drew ?_ | refine blk_alloc ?_ _)); exact BK888.out) hb); have n2_ := Aside0.mk (blk_below (g := gb889) (o := .cells #[.int .i64 a1_0, .slice A1_1 l1_1.length c1_1] 31 (0, 0)) (by (with_reducible repeat (first | refine blk_drewN ?_ _ | refine blk_drew ?_ | refine blk_alloc ?_ _)); exact BK889.out) hb); have n3_ := Aside0.mk (Kept.below (S := (fun k_ => P2_ k_)) (by repeat (first | (with_reducible first | exact HK.out | apply Kept.alloc | apply Kept.drewN | apply Kept.drew | refine Kept.setCell ?_ (.inr GW888.out) _ | refine Kept.setCell ?_ (.inr GW889.out) _) | exact HK.out)) hb); have n4_ := Aside0.mk (below_step (by repeat (first | (with_reducible first | exact HB.out | apply below_alloc | apply pw_below_drewN | apply below_drew1 | refine below_set ?_ GE888.out | refine below_set ?_ GE889.out) | exact HB.out)) hb); have n5_ := Aside0.mk (hbox); have n6_ := Aside0.mk ((by rw [hg]; exact (by first | exact HK.out.1 | exact (show Kept w _ (fun k_ => P2_ k_) from by repeat (first | (with_reducible first | exact HK.out | apply Kept.alloc | apply Kept.drewN | apply Kept.drew | refine Kept.setCell ?_ (.inr GW888.out) _ | refine Kept.setCell ?_ (.inr GW889.out) _) | exact HK.out)).1) : w.heap.size ≤ gb891)); have n7_ := Aside0.mk ((by rw [hg]; exact (below_size (by repeat (first | (with_reducible first | exact HB.out | apply below_alloc | apply pw_below_drewN | apply below_drew1 | refine below_set ?_ GE888.out | refine below_set ?_ GE889.out) | exact HB.out))) : w0.heap.size ≤ gb891)); have n8_ := Aside0.mk ((by rw [hg]; exact Nat.ne_of_lt (blk_lt (g := gb888) (o := .cells #[.int .i64 a0_0, .slice (some ad890) l0_1.length c0_1] 31 (0, 0)) (by (with_reducible repeat (first | refine blk_drewN ?_ _ | refine blk_drew ?_ | refine blk_alloc ?_ _)); exact BK888.out)) : gb888 ≠ gb891)); have n9_ := Aside0.mk ((by rw [hg]; exact Nat.ne_of_gt (blk_lt (g := gb888) (o := .cells #[.int .i64 a0_0, .slice (some ad890) l0_1.length c0_1] 31 (0, 0)) (by (with_reducible repeat (first | refine blk_drewN ?_ _ | refine blk_drew ?_ | refine blk_alloc ?_ _)); exact BK888.out)) : gb891 ≠ gb888)); have n10_ := Aside0.mk ((by rw [hg]; exact Nat.ne_of_lt (blk_lt (g := gb889) (o := .cells #[.int .i64 a1_0, .slice A1_1 l1_1.length c1_1] 31 (0, 0)) (by (with_reducible repeat (first | refine blk_drewN ?_ _ | refine blk_drew ?_ | refine blk_alloc ?_ _)); exact BK889.out)) : gb889 ≠ gb891)); have n11_ := Aside0.mk ((by rw [hg]; exact Nat.ne_of_gt (blk_lt (g := gb889) (o := .cells #[.int .i64 a1_0, .slice A1_1 l1_1.length c1_1] 31 (0, 0)) (by (with_reducible repeat (first | refine blk_drewN ?_ _ | refine blk_drew ?_ | refine blk_alloc ?_ _)); exact BK889.out)) : gb891 ≠ gb889)); clear HO_2; clear BK888; clear BK889; clear HK; clear HB; have HO_2 := n0_; have BK888 := n1_; have BK889 := n2_; have HK := n3_; have HB := n4_; have BK891 := n5_; have GW891 := n6_; have GE891 := n7_; have NB888_891 := n8_; have NB891_888 := n9_; have NB889_891 := n10_; have NB891_889 := n11_; clear n0_ n1_ n2_ n3_ n4_ n5_ n6_ n7_ n8_ n9_ n10_ n11_; clear hb hbox hg; have hnb13 := NB891_888.out; have hnc13 := NB888_891.out; have hnb14 := NB891_889.out; have hnc14 := NB889_891.out; have hcz15_0 : w12.cell? ⟨gb891, 0, none⟩ = some (.int .i64 0) := (blk_cell BK891.out 0).trans rfl; have hcz15_1 : w12.cell? ⟨gb891, 1, none⟩ = some (.slice none 0 0) := (blk_cell BK891.out 1).trans rfl; have hfz15_0 := blk_frozen BK891.out 0; have hfz15_1 := blk_frozen BK891.out 1))
                  go_loopg [7, 25] k2 (fun kq v7 v25 w' => ∃ (x2_3 : List Int) (x7_3 : Bool) (x25_3 : Int), v7 = .bool x7_3 ∧ v25 = .int .i64 x25_3 ∧ Aside0 (impl_closeMap.l2 kq x2_3 x7_3 x17_2 l0_1 (l0_1.length : Int) x17_2 ((rd_T80 l0_1 x17_2).f1) (((rd_T80 l0_1 x17_2).f1).length : Int) x25_3 a0_0 l0_1 a1_0 l1_1 ((rd_T80 l0_1 x17_2).f0) ((rd_T80 l0_1 x17_2).f1) = some (r1, r2)) ∧ Aside0 (kq ≤ k2) ∧ Aside0 (Kd.R (Kd.int .i64) 3 w' w0.heap.size (fun k_ => (P2_ k_ ∨ w.heap.size ≤ k_)) u9000_ x2_3) ∧ Aside0 (w'.heap[gb888]? = some (.cells #[.int .i64 a0_0, (.slice (some ad890) l0_1.length c0_1)] 31 (0, 0))) ∧ Aside0 (w'.heap[gb889]? = some (.cells #[.int .i64 a1_0, (.slice A1_1 l1_1.length c1_1)] 31 (0, 0))) ∧ Aside0 (w'.heap[gb891]? = some (.cells #[.int .i64 ((rd_T80 l0_1 x17_2).f0), (.slice A890_1 ((rd_T80 l0_1 x17_2).f1).length c890_1)] 80 (0, 0))) ∧ Aside0 (Kept w w' (fun k_ => P2_ k_)) ∧ Aside0 (Below w0.heap.size w0 w'))
                  case atStart => exact ⟨(x2_2), (x7_2), (0), (by first | rfl | (simp; done) | (simp [*]; done)), (by first | rfl | (simp; done) | (simp [*]; done)), H', ⟨Nat.le_refl _⟩, ⟨by (with_reducible repeat (first | apply Kd.R_alloc | apply Kd.R_drewN | apply Kd.R_drew)); exact Kd.R_mono (Kd.R_far (p := ⟨gb891, 1, none⟩) (Kd.R_far (p := ⟨gb891, 0, none⟩) (Kd.R_types HO_2.out BK891.out (by decide)) (fun _ hk => hk.2) (.int .i64 ((rd_T80 l0_1 x17_2).f0))) (fun _ hk => hk.2) (.slice A890_1 ((rd_T80 l0_1 x17_2).f1).length c890_1)) (fun _ hk => hk.1)⟩, ⟨by (with_reducible repeat (first | refine blk_drewN ?_ _ | refine blk_drew ?_ | refine blk_alloc ?_ _)); refine blk_far ?_ NB888_891.out _; (with_reducible repeat (first | refine blk_drewN ?_ _ | refine blk_drew ?_ | refine blk_alloc ?_ _)); refine blk_far ?_ NB888_891.out _; (with_reducible repeat (first | refine blk_drewN ?_ _ | refine blk_drew ?_ | refine blk_alloc ?_ _)); exact BK888.out⟩, ⟨by (with_reducible repeat (first | refine blk_drewN ?_ _ | refine blk_drew ?_ | refine blk_alloc ?_ _)); refine blk_far ?_ NB889_891.out _; (with_reducible repeat (first | refine blk_drewN ?_ _ | refine blk_drew ?_ | refine blk_alloc ?_ _)); refine blk_far ?_ NB889_891.out _; (with_reducible repeat (first | refine blk_drewN ?_ _ | refine blk_drew ?_ | refine blk_alloc ?_ _)); exact BK889.out⟩, ⟨by (with_reducible repeat (first | refine blk_drewN ?_ _ | refine blk_drew ?_ | refine blk_alloc ?_ _)); refine blk_put (cs := #[.int .i64 ((rd_T80 l0_1 x17_2).f0), .slice none 0 0]) ?_ 1 _ rfl; (with_reducible repeat (first | refine blk_drewN ?_ _ | refine blk_drew ?_ | refine blk_alloc ?_ _)); refine blk_put (cs := #[.int .i64 0, .slice none 0 0]) ?_ 0 _ rfl; (with_reducible repeat (first | refine blk_drewN ?_ _ | refine blk_drew ?_ | refine blk_alloc ?_ _)); exact BK891.out⟩, ⟨by repeat (first | (with_reducible first | exact HK.out | apply Kept.alloc | apply Kept.drewN | apply Kept.drew | refine Kept.setCell ?_ (.inr GW888.out) _ | refine Kept.setCell ?_ (.inr GW889.out) _ | refine Kept.setCell ?_ (.inr GW891.out) _) | exact HK.out)⟩, ⟨by repeat (first | (with_reducible first | exact HB.out | apply below_alloc | apply pw_below_drewN | apply below_drew1 | refine below_set ?_ GE888.out | refine below_set ?_ GE889.out | refine below_set ?_ GE891.out) | exact HB.out)⟩⟩
                  case round =>
                    clear H'
                    try clear c1
                    try clear p2
                    try clear c6
                    try clear c7
                    try clear c8
                    try clear p8
                    try clear q8
                    try clear hx8
                    try clear c9
                    try clear c9b0
                    try clear c10
                    try clear c10b0
                    try clear c11
                    try clear c11b0
                    try clear c13
                    try clear c14
                    try clear hcz15_0
                    try clear hcz15_1
                    try clear hcz8_0
                    try clear hcz8_1
                    try clear hfz15_0
                    try clear hfz15_1
                    try clear hfz8_0
                    try clear hfz8_1
                    try clear hx890_0
                    try clear hx890_1
                    try clear p2
                    try clear p890
                    try clear q890
                    obtain ⟨x2_3, x7_3, x25_3, rfl, rfl, HA, HK3, HO_2, BK888, BK889, BK891, HK, HB⟩ := hrel
                    cases gk with
                    | zero => exact absurd HA.out (by simp [impl_closeMap.l2])
                    | succ k3 =>
                      have H := HA.out
                      clear HA
                      simp only [impl_closeMap.l2] at H
                      by_cases c16 : x25_3 < (((rd_T80 l0_1 x17_2).f1).length : Int)
                      · rw [if_pos c16] at H
                        have c16b0 : decide (x25_3 < (((rd_T80 l0_1 x17_2).f1).length : Int)) = true := decide_eq_true c16
                        clear c16
                        by_cases c17 : 0 ≤ x25_3
                        · rw [if_pos c17] at H
                          have c17b0 : decide (0 ≤ x25_3) = true := decide_eq_true c17
                          clear c17
                          by_cases c18 : x25_3 < (((rd_T80 l0_1 x17_2).f1).length : Int)
                          · rw [if_pos c18] at H
                            have c18b0 : decide (x25_3 < (((rd_T80 l0_1 x17_2).f1).length : Int)) = true := decide_eq_true c18
                            clear c18
                            replace H := Option.bind_eq_some_iff.mp H
                            obtain ⟨t893, A190, H⟩ := H
                            replace H : (if t893 = true then (if 0 ≤ x17_2 then (if x17_2 < (l1_1.length : Int) then ((impl_imageIndex.f k3 x25_3 ((rd_T80 l0_1 x17_2).f0) a0_0 l0_1 a1_0 l1_1 x2_3).bind fun t895 => (if 0 ≤ t895 then (if t895 < (((rd_T80 l1_1 x17_2).f1).length : Int) then (if 0 ≤ (rd ((rd_T80 l0_1 x17_2).f1) x25_3) then (if (rd ((rd_T80 l0_1 x17_2).f1) x25_3) < (x2_3.length : Int) then (if (rd x2_3 (rd ((rd_T80 l0_1 x17_2).f1) x25_3)) < 0 then (impl_closeMap.l2 k3 (x2_3.set ((rd ((rd_T80 l0_1 x17_2).f1) x25_3) : Int).toNat (rd ((rd_T80 l1_1 x17_2).f1) t895)) true x17_2 l0_1 (l0_1.length : Int) x17_2 ((rd_T80 l0_1 x17_2).f1) (((rd_T80 l0_1 x17_2).f1).length : Int) (wrap64 (x25_3 + 1)) a0_0 l0_1 a1_0 l1_1 ((rd_T80 l0_1 x17_2).f0) ((rd_T80 l0_1 x17_2).f1)) else (if (rd x2_3 (rd ((rd_T80 l0_1 x17_2).f1) x25_3)) = (rd ((rd_T80 l1_1 x17_2).f1) t895) then (impl_closeMap.l2 k3 x2_3 x7_3 x17_2 l0_1 (l0_1.length : Int) x17_2 ((rd_T80 l0_1 x17_2).f1) (((rd_T80 l0_1 x17_2).f1).length : Int) (wrap64 (x25_3 + 1)) a0_0 l0_1 a1_0 l1_1 ((rd_T80 l0_1 x17_2).f0) ((rd_T80 l0_1 x17_2).f1)) else (some (false, x2_3)))) else (none)) else (none)) else (none)) else (none))) else (none)) else (none)) else (impl_closeMap.l2 k3 x2_3 x7_3 x17_2 l0_1 (l0_1.length : Int) x17_2 ((rd_T80 l0_1 x17_2).f1) (((rd_T80 l0_1 x17_2).f1).length : Int) (wrap64 (x25_3 + 1)) a0_0 l0_1 a1_0 l1_1 ((rd_T80 l0_1 x17_2).f0) ((rd_T80 l0_1 x17_2).f1))) = some (r1, r2) := H
                            have A19 := Aside0.mk A190
                            clear A190
                            by_cases c20 : t893 = true
                            · subst c20
                              have H1 : (if 0 ≤ x17_2 then (if x17_2 < (l1_1.length : Int) then ((impl_imageIndex.f k3 x25_3 ((rd_T80 l0_1 x17_2).f0) a0_0 l0_1 a1_0 l1_1 x2_3).bind fun t895 => (if 0 ≤ t895 then (if t895 < (((rd_T80 l1_1 x17_2).f1).length : Int) then (if 0 ≤ (rd ((rd_T80 l0_1 x17_2).f1) x25_3) then (if (rd ((rd_T80 l0_1 x17_2).f1) x25_3) < (x2_3.length : Int) then (if (rd x2_3 (rd ((rd_T80 l0_1 x17_2).f1) x25_3)) < 0 then (impl_closeMap.l2 k3 (x2_3.set ((rd ((rd_T80 l0_1 x17_2).f1) x25_3) : Int).toNat (rd ((rd_T80 l1_1 x17_2).f1) t895)) true x17_2 l0_1 (l0_1.length : Int) x17_2 ((rd_T80 l0_1 x17_2).f1) (((rd_T80 l0_1 x17_2).f1).length : Int) (wrap64 (x25_3 + 1)) a0_0 l0_1 a1_0 l1_1 ((rd_T80 l0_1 x17_2).f0) ((rd_T80 l0_1 x17_2).f1)) else (if (rd x2_3 (rd ((rd_T80 l0_1 x17_2).f1) x25_3)) = (rd ((rd_T80 l1_1 x17_2).f1) t895) then (impl_closeMap.l2 k3 x2_3 x7_3 x17_2 l0_1 (l0_1.length : Int) x17_2 ((rd_T80 l0_1 x17_2).f1) (((rd_T80 l0_1 x17_2).f1).length : Int) (wrap64 (x25_3 + 1)) a0_0 l0_1 a1_0 l1_1 ((rd_T80 l0_1 x17_2).f0) ((rd_T80 l0_1 x17_2).f1)) else (some (false, x2_3)))) else (none)) else (none)) else (none)) else (none))) else (none)) else (none)) = some (r1, r2) := by rw [if_pos rfl] at H; exact H
                              clear H
                              have H := H1
                              clear H1
                              by_cases c21 : 0 ≤ x17_2
                              · rw [if_pos c21] at H
                                have c21b0 : decide (0 ≤ x17_2) = true := decide_eq_true c21
                                clear c21
                                by_cases c22 : x17_2 < (l1_1.length : Int)
                                · rw [if_pos c22] at H
                                  have c22b0 : decide (x17_2 < (l1_1.length : Int)) = true := decide_eq_true c22
                                  clear c22
                                  replace H := Option.bind_eq_some_iff.mp H
                                  obtain ⟨t895, A230, H⟩ := H
                                  replace H : (if 0 ≤ t895 then (if t895 < (((rd_T80 l1_1 x17_2).f1).length : Int) then (if 0 ≤ (rd ((rd_T80 l0_1 x17_2).f1) x25_3) then (if (rd ((rd_T80 l0_1 x17_2).f1) x25_3) < (x2_3.length : Int) then (if (rd x2_3 (rd ((rd_T80 l0_1 x17_2).f1) x25_3)) < 0 then (impl_closeMap.l2 k3 (x2_3.set ((rd ((rd_T80 l0_1 x17_2).f1) x25_3) : Int).toNat (rd ((rd_T80 l1_1 x17_2).f1) t895)) true x17_2 l0_1 (l0_1.length : Int) x17_2 ((rd_T80 l0_1 x17_2).f1) (((rd_T80 l0_1 x17_2).f1).length : Int) (wrap64 (x25_3 + 1)) a0_0 l0_1 a1_0 l1_1 ((rd_T80 l0_1 x17_2).f0) ((rd_T80 l0_1 x17_2).f1)) else (if (rd x2_3 (rd ((rd_T80 l0_1 x17_2).f1) x25_3)) = (rd ((rd_T80 l1_1 x17_2).f1) t895) then (impl_closeMap.l2 k3 x2_3 x7_3 x17_2 l0_1 (l0_1.length : Int) x17_2 ((rd_T80 l0_1 x17_2).f1) (((rd_T80 l0_1 x17_2).f1).length : Int) (wrap64 (x25_3 + 1)) a0_0 l0_1 a1_0 l1_1 ((rd_T80 l0_1 x17_2).f0) ((rd_T80 l0_1 x17_2).f1)) else (some (false, x2_3)))) else (none)) else (none)) else (none)) else (none)) = some (r1, r2) := H
                                  have A23 := Aside0.mk A230
                                  clear A230
                                  by_cases c24 : 0 ≤ t895
                                  · rw [if_pos c24] at H
                                    have c24b0 : decide (0 ≤ t895) = true := decide_eq_true c24
                                    clear c24
                                    by_cases c25 : t895 < (((rd_T80 l1_1 x17_2).f1).length : Int)
                                    · rw [if_pos c25] at H
                                      have c25b0 : decide (t895 < (((rd_T80 l1_1 x17_2).f1).length : Int)) = true := decide_eq_true c25
                                      clear c25
                                      by_cases c26 : 0 ≤ (rd ((rd_T80 l0_1 x17_2).f1) x25_3)
                                      · rw [if_pos c26] at H
                                        have c26b0 : decide (0 ≤ (rd ((rd_T80 l0_1 x17_2).f1) x25_3)) = true := decide_eq_true c26
                                        clear c26
                                        by_cases c27 : (rd ((rd_T80 l0_1 x17_2).f1) x25_3) < (x2_3.length : Int)
                                        · rw [if_pos c27] at H
                                          have c27b0 : decide ((rd ((rd_T80 l0_1 x17_2).f1) x25_3) < (x2_3.length : Int)) = true := decide_eq_true c27
                                          clear c27
                                          by_cases c28 : (rd x2_3 (rd ((rd_T80 l0_1 x17_2).f1) x25_3)) < 0
                                          · rw [if_pos c28] at H
                                            have c28b0 : decide ((rd x2_3 (rd ((rd_T80 l0_1 x17_2).f1) x25_3)) < 0) = true := decide_eq_true c28
                                            clear c28
                                            obtain ⟨y898, hy898⟩ : ∃ y_ : List Int, y_ = (x2_3.set ((rd ((rd_T80 l0_1 x17_2).f1) x25_3) : Int).toNat (rd ((rd_T80 l1_1 x17_2).f1) t895)) := ⟨_, rfl⟩
                                            replace H : (impl_closeMap.l2 k3 y898 true x17_2 l0_1 (l0_1.length : Int) x17_2 ((rd_T80 l0_1 x17_2).f1) (((rd_T80 l0_1 x17_2).f1).length : Int) (wrap64 (x25_3 + 1)) a0_0 l0_1 a1_0 l1_1 ((rd_T80 l0_1 x17_2).f0) ((rd_T80 l0_1 x17_2).f1)) = some (r1, r2) := by first | (rw [hy898]; with_reducible exact H) | (have H2_ := (Option.bind_some _ _).symm.trans H; rw [hy898]; with_reducible exact H2_) | (have H2_ := (Option.bind_some _ _).symm.trans H; with_reducible exact H2_) | with_reducible exact H | (rw [hy898]; exact H) | exact H
                                            have Ny898 := Aside0.mk hy898
                                            clear hy898
                                            have H' := Aside0.mk H
                                            clear H
                                            have p892 : 0 ≤ (x25_3 : Int) := of_decide_eq_true (by first | (with_reducible assumption) | assumption)
                                            have q892 : x25_3 < (((rd_T80 l0_1 x17_2).f1).length : Int) := of_decide_eq_true (by first | (with_reducible assumption) | assumption)
                                            obtain ⟨ad892, e892, hx892_0⟩ := Kd.at_int HR890_1.out x25_3 p892 q892
                                            cases e892
                                            replace hx892_0 := (HB.out.cell (World.block_lt_of_cell? w0 _ hx892_0)).trans hx892_0
                                            replace p892 := eq_true p892
                                            replace q892 := eq_true q892
                                            have hnb30 := NB891_888.out
                                            have hnc30 := NB888_891.out
                                            have hnb31 := NB891_889.out
                                            have hnc31 := NB889_891.out
                                            have hcz32_0 : wr.cell? ⟨gb891, 0, none⟩ = some (.int .i64 ((rd_T80 l0_1 x17_2).f0)) := (blk_cell BK891.out 0).trans rfl
                                            have hcz32_1 : wr.cell? ⟨gb891, 1, none⟩ = some (.slice (some ad892) ((rd_T80 l0_1 x17_2).f1).length c890_1) := (blk_cell BK891.out 1).trans rfl
                                            have hfz32_0 := blk_frozen BK891.out 0
                                            have hfz32_1 := blk_frozen BK891.out 1
                                            have hnb33 := NB888_889.out
                                            have hnc33 := NB889_888.out
                                            have hcz34_0 : wr.cell? ⟨gb888, 0, none⟩ = some (.int .i64 a0_0) := (blk_cell BK888.out 0).trans rfl
                                            have hcz34_1 : wr.cell? ⟨gb888, 1, none⟩ = some (.slice (some ad890) l0_1.length c0_1) := (blk_cell BK888.out 1).trans rfl
                                            have hfz34_0 := blk_frozen BK888.out 0
                                            have hfz34_1 := blk_frozen BK888.out 1
                                            obtain ⟨Ao35, co35, eo35⟩ := Kd.R_slice HO_2.out
                                            subst eo35
                                            try go_wp2_with (first | ((with_reducible refine gate_callee (f := 99) rfl ?_); refine goesL_ (some 36) rfl rfl Try.func99 (by kernel_rfl) rfl #[.int .i64 x25_3, .int .i64 ((rd_T80 l0_1 x17_2).f0), .int .i64 a0_0, .slice Ao35 x2_3.length co35] rfl (by (try simp only [List.map_toArray, List.map_cons, List.map_nil]); first | done | rfl | (simp only [List.length_drop, List.length_take]; rfl)) ?_; (with_reducible refine (impl_noneOpen.calls k3 x25_3 ((rd_T80 l0_1 x17_2).f0) a0_0 _ _ x2_3 true _ ?side1 ?side2 A19.out).mono ?_); (case side1 => repeat (first | exact (Kd.R_reads' HO_2.out).2.2 | (with_reducible refine Kd.C_alloc ?_ _) | (with_reducible refine Kd.C_drewN ?_ _) | (with_reducible refine Kd.C_drew ?_))); (case side2 => exact (Kd.R_reads' HO_2.out).2.1); rintro e w' ⟨rfl, ⟨nd, rfl⟩⟩; refine ⟨_, rfl, ?_⟩; (try (rw [drewN_self wr]; generalize hq_ : World.drewN wr _ = wr; have n0_ : Aside0 (Kd.R (Kd.int .i64) 3 wr w0.heap.size (fun k_ => (P2_ k_ ∨ w.heap.size ≤ k_)) (.slice Ao35 x2_3.length co35) x2_3) := ⟨by rw [← hq_]; exact (by (with_reducible repeat (first | apply Kd.R_alloc | apply Kd.R_drewN | apply Kd.R_drew)); exact HO_2.out)⟩; have n1_ : Aside0 (wr.heap[gb888]? = some (.cells #[.int .i64 a0_0, .slice (some ad890) l0_1.length c0_1] 31 (0, 0))) := ⟨by rw [← hq_]; exact (by (with_reducible repeat (first | refine blk_drewN ?_ _ | refine blk_drew ?_ | refine blk_alloc ?_ _)); exact BK888.out)⟩; have n2_ : Aside0 (wr.heap[gb889]? = some (.cells #[.int .i64 a1_0, .slice A1_1 l1_1.length c1_1] 31 (0, 0))) := ⟨by rw [← hq_]; exact (by (with_reducible repeat (first | refine blk_drewN ?_ _ | refine blk_drew ?_ | refine blk_alloc ?_ _)); exact BK889.out)⟩; have n3_ : Aside0 (wr.heap[gb891]? = some (.cells #[.int .i64 ((rd_T80 l0_1 x17_2).f0), .slice (some ad892) ((rd_T80 l0_1 x17_2).f1).length c890_1] 80 (0, 0))) := ⟨by rw [← hq_]; exact (by (with_reducible repeat (first | refine blk_drewN ?_ _ | refine blk_drew ?_ | refine blk_alloc ?_ _)); exact BK891.out)⟩; have n4_ : Aside0 (Kept w wr (fun k_ => P2_ k_)) := ⟨by rw [← hq_]; exact (by repeat (first | (with_reducible first | exact HK.out | apply Kept.alloc | apply Kept.drewN | apply Kept.drew | refine Kept.setCell ?_ (.inr GW888.out) _ | refine Kept.setCell ?_ (.inr GW889.out) _ | refine Kept.setCell ?_ (.inr GW891.out) _) | exact HK.out))⟩; have n5_ : Aside0 (Below w0.heap.size w0 wr) := ⟨by rw [← hq_]; exact (by repeat (first | (with_reducible first | exact HB.out | apply below_alloc | apply pw_below_drewN | apply below_drew1 | refine below_set ?_ GE888.out | refine below_set ?_ GE889.out | refine below_set ?_ GE891.out) | exact HB.out))⟩; clear HO_2 BK888 BK889 BK891 HK HB hq_; have HO_2 := n0_; have BK888 := n1_; have BK889 := n2_; have BK891 := n3_; have HK := n4_; have HB := n5_; clear n0_ n1_ n2_ n3_ n4_ n5_; have hczq_gb888_0 : wr.cell? ⟨gb888, 0, none⟩ = some (.int .i64 a0_0) := (blk_cell BK888.out 0).trans rfl; have hfzq_gb888_0 := blk_frozen BK888.out 0; have hczq_gb888_1 : wr.cell? ⟨gb888, 1, none⟩ = some (.slice (some ad890) l0_1.length c0_1) := (blk_cell BK888.out 1).trans rfl; have hfzq_gb888_1 := blk_frozen BK888.out 1; have hczq_gb889_0 : wr.cell? ⟨gb889, 0, none⟩ = some (.int .i64 a1_0) := (blk_cell BK889.out 0).trans rfl; have hfzq_gb889_0 := blk_frozen BK889.out 0; have hczq_gb889_1 : wr.cell? ⟨gb889, 1, none⟩ = some (.slice A1_1 l1_1.length c1_1) := (blk_cell BK889.out 1).trans rfl; have hfzq_gb889_1 := blk_frozen BK889.out 1; have hczq_gb891_0 : wr.cell? ⟨gb891, 0, none⟩ = some (.int .i64 ((rd_T80 l0_1 x17_2).f0)) := (blk_cell BK891.out 0).trans rfl; have hfzq_gb891_0 := blk_frozen BK891.out 0; have hczq_gb891_1 : wr.cell? ⟨gb891, 1, none⟩ = some (.slice (some ad892) ((rd_T80 l0_1 x17_2).f1).length c890_1) := (blk_cell BK891.out 1).trans rfl; have hfzq_gb891_1 := blk_frozen BK891.out 1))))
                                            have n0_ := Aside0.mk (Kd.R_drew HO_2.out)
                                            have n1_ := Aside0.mk (blk_drew BK888.out)
                                            have n2_ := Aside0.mk (blk_drew BK889.out)
                                            have n3_ := Aside0.mk (blk_drew BK891.out)
                                            have n4_ := Aside0.mk (Kept.drew HK.out)
                                            have n5_ := Aside0.mk (below_drew1 HB.out)
                                            clear HO_2
                                            clear BK888
                                            clear BK889
                                            clear BK891
                                            clear HK
                                            clear HB
                                            have HO_2 := n0_
                                            have BK888 := n1_
                                            have BK889 := n2_
                                            have BK891 := n3_
                                            have HK := n4_
                                            have HB := n5_
                                            clear n0_ n1_ n2_ n3_ n4_ n5_
                                            have p894 : 0 ≤ (x17_2 : Int) := of_decide_eq_true (by first | (with_reducible assumption) | assumption)
                                            have q894 : x17_2 < (l1_1.length : Int) := of_decide_eq_true (by first | (with_reducible assumption) | assumption)
                                            obtain ⟨ad894, A894_1, c894_1, e894, hx894_0, hx894_1, hl894_1, hi894_1⟩ := at_T80 HR1_1.out x17_2 p894 q894
                                            have hw894_1 := hx894_1
                                            have hw894_0 := hx894_0
                                            cases e894
                                            replace hx894_0 := (HB.out.cell (World.block_lt_of_cell? w0 _ hx894_0)).trans hx894_0
                                            replace hx894_1 := (HB.out.cell (World.block_lt_of_cell? w0 _ hx894_1)).trans hx894_1
                                            have HR894_1 := Aside0.mk hi894_1
                                            have HC894_1 := Aside0.mk hl894_1
                                            clear hi894_1 hl894_1
                                            replace p894 := eq_true p894
                                            replace q894 := eq_true q894
                                            have p896 : 0 ≤ (t895 : Int) := of_decide_eq_true (by first | (with_reducible assumption) | assumption)
                                            have q896 : t895 < (((rd_T80 l1_1 x17_2).f1).length : Int) := of_decide_eq_true (by first | (with_reducible assumption) | assumption)
                                            obtain ⟨ad896, e896, hx896_0⟩ := Kd.at_int HR894_1.out t895 p896 q896
                                            have hw896_0 := hx896_0
                                            cases e896
                                            replace hx896_0 := (HB.out.cell (World.block_lt_of_cell? w0 _ hx896_0)).trans hx896_0
                                            replace p896 := eq_true p896
                                            replace q896 := eq_true q896
                                            refine start_ (n := 16) (S := fun w' => w'.cell? ⟨gb889, 0, none⟩ = some (.int .i64 a1_0) ∧ w'.cell? ⟨gb889, 1, none⟩ = some (.slice (some ad894) l1_1.length c1_1) ∧ w'.cell? ⟨gb891, 0, none⟩ = some (.int .i64 ((rd_T80 l0_1 x17_2).f0)) ∧ w'.cell? ⟨gb891, 1, none⟩ = some (.slice (some ad892) ((rd_T80 l0_1 x17_2).f1).length c890_1) ∧ w'.cell? ⟨gb888, 0, none⟩ = some (.int .i64 a0_0) ∧ w'.cell? ⟨gb888, 1, none⟩ = some (.slice (some ad890) l0_1.length c0_1) ∧ w'.cell? (ad894.add ((x17_2).toNat * 2)) = some (.int .i64 ((rd_T80 l1_1 x17_2).f0)) ∧ w'.cell? ⟨(ad894.add ((x17_2).toNat * 2)).block, (ad894.add ((x17_2).toNat * 2)).off + 1, none⟩ = some (.slice (some ad896) ((rd_T80 l1_1 x17_2).f1).length c894_1) ∧ w'.cell? (ad896.add (t895).toNat) = some (.int .i64 (rd ((rd_T80 l1_1 x17_2).f1) t895))) (ds := []) #[false, false, false, false, false, false, false, false, false, false, false, false, false, false, false, false] (by kernel_rfl) rfl rfl ⟨(blk_cell BK889.out 0).trans rfl, (blk_cell BK889.out 1).trans rfl, (blk_cell BK891.out 0).trans rfl, (blk_cell BK891.out 1).trans rfl, (blk_cell BK888.out 0).trans rfl, (blk_cell BK888.out 1).trans rfl, ((HB.out.cell (World.block_lt_of_cell? w0 _ hw894_0)).trans hw894_0), ((HB.out.cell (World.block_lt_of_cell? w0 _ hw894_1)).trans hw894_1), ((HB.out.cell (World.block_lt_of_cell? w0 _ hw896_0)).trans hw896_0)⟩ (fun hHeld => ?_); refine with_tabW impl_closeMap.tab11 impl_closeMap.bits11 (fun HT_ HW_ => ?_)
                                            generalize wr.drew = w36 at HO_2 BK888 BK889 BK891 HK HB HR894_1 hx894_0 hx894_1 hx896_0 hHeld ⊢
                                            refine pure_ (i := 0) (N := some 38) (v := ?_) (a' := ?_) #[true, false, false, false, false, false, false, false, false, false, false, false, false, false, false, false] rfl rfl (any_of HT_.out (by kernel_rfl)) (fun _ _ _ h => h) (Or.inl ⟨by rfl, ?_⟩) ?_ ?_
                                            rotate_left
                                            · intro w'
                                              go_simp
                                              with_reducible rfl
                                            rotate_left
                                            · simp only [Act.put, List.setIfInBounds_toArray, List.set_cons_zero, List.set_cons_succ, i64_w, i32_w]
                                              rfl
                                            refine pure_ (i := 2) (N := some 40) (v := ?_) (a' := ?_) #[true, false, true, false, false, false, false, false, false, false, false, false, false, false, false, false] rfl rfl (any_of HT_.out (by kernel_rfl)) (fun _ _ _ h => h) (Or.inl ⟨by rfl, ?_⟩) ?_ ?_
                                            rotate_left
                                            · intro w'
                                              go_simp
                                              with_reducible rfl
                                            rotate_left
                                            · simp only [Act.put, List.setIfInBounds_toArray, List.set_cons_zero, List.set_cons_succ, i64_w, i32_w]
                                              rfl
                                            refine pure_ (i := 6) (N := some 44) (v := ?_) (a' := ?_) #[true, false, true, false, false, false, true, false, false, false, false, false, false, false, false, false] rfl rfl (any_of HT_.out (by kernel_rfl)) (fun _ _ _ h => h) (Or.inl ⟨by rfl, ?_⟩) ?_ ?_
                                            rotate_left
                                            · intro w'
                                              go_simp
                                              with_reducible rfl
                                            rotate_left
                                            · simp only [Act.put, List.setIfInBounds_toArray, List.set_cons_zero, List.set_cons_succ, i64_w, i32_w]
                                              rfl
                                            refine pure_ (i := 7) (N := some 45) (v := ?_) (a' := ?_) #[true, false, true, false, false, false, true, true, false, false, false, false, false, false, false, false] rfl rfl (any_of HT_.out (by kernel_rfl)) (fun _ _ _ h => h) (Or.inl ⟨by rfl, ?_⟩) ?_ ?_
                                            rotate_left
                                            · intro w'
                                              go_simp
                                              with_reducible rfl
                                            rotate_left
                                            · simp only [Act.put, List.setIfInBounds_toArray, List.set_cons_zero, List.set_cons_succ, i64_w, i32_w]
                                              rfl
                                            refine pure_ (i := 11) (N := some 49) (v := ?_) (a' := ?_) #[true, false, true, false, false, false, true, true, false, false, false, true, false, false, false, false] rfl rfl (any_of HT_.out (by kernel_rfl)) (fun _ _ _ h => h) (Or.inl ⟨by rfl, ?_⟩) ?_ ?_
                                            rotate_left
                                            · intro w'
                                              go_simp
                                              with_reducible rfl
                                            rotate_left
                                            · simp only [Act.put, List.setIfInBounds_toArray, List.set_cons_zero, List.set_cons_succ, i64_w, i32_w]
                                              rfl
                                            refine take_ (i := 1) (N := some 39) (v := ?_) (a' := ?_) #[true, true, true, false, false, false, true, true, false, false, false, true, false, false, false, false] rfl rfl (take_ofW HT_.out HW_.out (by kernel_rfl)) (fun _ _ _ h => h) (Or.inl ⟨by rfl, ?_⟩) hHeld ?_ ?_
                                            rotate_left
                                            · rintro w' ⟨s0, s1, s2, s3, s4, s5, s6, s7, s8⟩
                                              go_simp
                                              with_reducible rfl
                                            rotate_left
                                            · simp only [Act.put, List.setIfInBounds_toArray, List.set_cons_zero, List.set_cons_succ, i64_w, i32_w]
                                              rfl
                                            refine pure_ (i := 3) (N := some 41) (v := ?_) (a' := ?_) #[true, true, true, true, false, false, true, true, false, false, false, true, false, false, false, false] rfl rfl (any_of HT_.out (by kernel_rfl)) (fun _ _ _ h => h) (Or.inl ⟨by rfl, ?_⟩) ?_ ?_
                                            rotate_left
                                            · intro w'
                                              go_simp
                                              with_reducible rfl
                                            rotate_left
                                            · simp only [Act.put, List.setIfInBounds_toArray, List.set_cons_zero, List.set_cons_succ, i64_w, i32_w]
                                              rfl
                                            refine pure_ (i := 4) (N := some 42) (v := ?_) (a' := ?_) #[true, true, true, true, true, false, true, true, false, false, false, true, false, false, false, false] rfl rfl (any_of HT_.out (by kernel_rfl)) (fun _ _ _ h => h) (Or.inl ⟨by rfl, ?_⟩) ?_ ?_
                                            rotate_left
                                            · intro w'
                                              go_simp
                                              with_reducible rfl
                                            rotate_left
                                            · simp only [Act.put, List.setIfInBounds_toArray, List.set_cons_zero, List.set_cons_succ, i64_w, i32_w]
                                              rfl
                                            refine take_ (i := 5) (N := some 43) (v := ?_) (a' := ?_) #[true, true, true, true, true, true, true, true, false, false, false, true, false, false, false, false] rfl rfl (take_ofW HT_.out HW_.out (by kernel_rfl)) (fun _ _ _ h => h) (Or.inl ⟨by rfl, ?_⟩) hHeld ?_ ?_
                                            rotate_left
                                            · rintro w' ⟨s0, s1, s2, s3, s4, s5, s6, s7, s8⟩
                                              go_simp
                                              with_reducible rfl
                                            rotate_left
                                            · simp only [Act.put, List.setIfInBounds_toArray, List.set_cons_zero, List.set_cons_succ, i64_w, i32_w]
                                              rfl
                                            refine take_ (i := 8) (N := some 46) (v := ?_) (a' := ?_) #[true, true, true, true, true, true, true, true, true, false, false, true, false, false, false, false] rfl rfl (take_ofW HT_.out HW_.out (by kernel_rfl)) (fun _ _ _ h => h) (Or.inl ⟨by rfl, ?_⟩) hHeld ?_ ?_
                                            rotate_left
                                            · rintro w' ⟨s0, s1, s2, s3, s4, s5, s6, s7, s8⟩
                                              go_simp
                                              with_reducible rfl
                                            rotate_left
                                            · simp only [Act.put, List.setIfInBounds_toArray, List.set_cons_zero, List.set_cons_succ, i64_w, i32_w]
                                              rfl
                                            refine take_ (i := 9) (N := some 47) (v := ?_) (a' := ?_) #[true, true, true, true, true, true, true, true, true, true, false, true, false, false, false, false] rfl rfl (take_ofW HT_.out HW_.out (by kernel_rfl)) (fun _ _ _ h => h) (Or.inl ⟨by rfl, ?_⟩) hHeld ?_ ?_
                                            rotate_left
                                            · rintro w' ⟨s0, s1, s2, s3, s4, s5, s6, s7, s8⟩
                                              go_simp
                                              with_reducible rfl
                                            rotate_left
                                            · simp only [Act.put, List.setIfInBounds_toArray, List.set_cons_zero, List.set_cons_succ, i64_w, i32_w]
                                              rfl
                                            refine take_ (i := 10) (N := some 48) (v := ?_) (a' := ?_) #[true, true, true, true, true, true, true, true, true, true, true, true, false, false, false, false] rfl rfl (take_ofW HT_.out HW_.out (by kernel_rfl)) (fun _ _ _ h => h) (Or.inl ⟨by rfl, ?_⟩) hHeld ?_ ?_
                                            rotate_left
                                            · rintro w' ⟨s0, s1, s2, s3, s4, s5, s6, s7, s8⟩
                                              go_simp
                                              with_reducible rfl
                                            rotate_left
                                            · simp only [Act.put, List.setIfInBounds_toArray, List.set_cons_zero, List.set_cons_succ, i64_w, i32_w]
                                              rfl
                                            refine one_ (i := 12) (N := some 50) #[true, true, true, true, true, true, true, true, true, true, true, true, true, false, false, false] rfl rfl (one_of HT_.out (by kernel_rfl)) (by decide) (fun K hK => ?_)
                                            refine goes_ Try.func100 (by kernel_rfl) rfl #[.int .i64 x25_3, .int .i64 ((rd_T80 l0_1 x17_2).f0), .agg #[.int .i64 a0_0, .slice (some ad890) l0_1.length c0_1], .agg #[.int .i64 a1_0, .slice (some ad894) l1_1.length c1_1], .slice Ao35 x2_3.length co35] (by rfl) rfl rfl (by (try simp only [List.map_toArray, List.map_cons, List.map_nil]); first | done | rfl | (simp only [List.length_drop, List.length_take]; rfl)) ?_
                                            with_reducible refine (impl_imageIndex.calls k3 x25_3 ((rd_T80 l0_1 x17_2).f0) a0_0 _ _ l0_1 a1_0 _ _ l1_1 _ _ x2_3 t895 _ ?side1 ?side2 ?side3 ?side4 ?side5 ?side6 A23.out).mono ?_
                                            (case side1 => repeat (first | exact (Kd.C_below HR0_1.out HB.out) | (with_reducible refine Kd.C_alloc ?_ _) | (with_reducible refine Kd.C_drewN ?_ _) | (with_reducible refine Kd.C_drew ?_)))
                                            (case side2 => exact HC0_1.out)
                                            (case side3 => repeat (first | exact (Kd.C_below HR1_1.out HB.out) | (with_reducible refine Kd.C_alloc ?_ _) | (with_reducible refine Kd.C_drewN ?_ _) | (with_reducible refine Kd.C_drew ?_)))
                                            (case side4 => exact HC1_1.out)
                                            (case side5 => repeat (first | exact (Kd.R_reads' HO_2.out).2.2 | (with_reducible refine Kd.C_alloc ?_ _) | (with_reducible refine Kd.C_drewN ?_ _) | (with_reducible refine Kd.C_drew ?_)))
                                            (case side6 => exact (Kd.R_reads' HO_2.out).2.1)
                                            rintro e w37 ⟨rfl, hb⟩
                                            refine ⟨_, rfl, ?_⟩
                                            have n0_ := Aside0.mk (Kd.R_below (by (with_reducible repeat (first | apply Kd.R_alloc | apply Kd.R_drewN | apply Kd.R_drew)); exact HO_2.out) hb)
                                            have n1_ := Aside0.mk (blk_below (g := gb888) (o := .cells #[.int .i64 a0_0, .slice (some ad890) l0_1.length c0_1] 31 (0, 0)) (by (with_reducible repeat (first | refine blk_drewN ?_ _ | refine blk_drew ?_ | refine blk_alloc ?_ _)); exact BK888.out) hb)
                                            have n2_ := Aside0.mk (blk_below (g := gb889) (o := .cells #[.int .i64 a1_0, .slice (some ad894) l1_1.length c1_1] 31 (0, 0)) (by (with_reducible repeat (first | refine blk_drewN ?_ _ | refine blk_drew ?_ | refine blk_alloc ?_ _)); exact BK889.out) hb)
                                            have n3_ := Aside0.mk (blk_below (g := gb891) (o := .cells #[.int .i64 ((rd_T80 l0_1 x17_2).f0), .slice (some ad892) ((rd_T80 l0_1 x17_2).f1).length c890_1] 80 (0, 0)) (by (with_reducible repeat (first | refine blk_drewN ?_ _ | refine blk_drew ?_ | refine blk_alloc ?_ _)); exact BK891.out) hb)
                                            have n4_ := Aside0.mk (Kept.below (S := (fun k_ => P2_ k_)) (by repeat (first | (with_reducible first | exact HK.out | apply Kept.alloc | apply Kept.drewN | apply Kept.drew | refine Kept.setCell ?_ (.inr GW888.out) _ | refine Kept.setCell ?_ (.inr GW889.out) _ | refine Kept.setCell ?_ (.inr GW891.out) _) | exact HK.out)) hb)
                                            have n5_ := Aside0.mk (below_step (by repeat (first | (with_reducible first | exact HB.out | apply below_alloc | apply pw_below_drewN | apply below_drew1 | refine below_set ?_ GE888.out | refine below_set ?_ GE889.out | refine below_set ?_ GE891.out) | exact HB.out)) hb)
                                            clear HO_2
                                            clear BK888
                                            clear BK889
                                            clear BK891
                                            clear HK
                                            clear HB
                                            have HO_2 := n0_
                                            have BK888 := n1_
                                            have BK889 := n2_
                                            have BK891 := n3_
                                            have HK := n4_
                                            have HB := n5_
                                            clear n0_ n1_ n2_ n3_ n4_ n5_
                                            (try clear hb)
                                            (try clear hb2)
                                            (try clear hk)
                                            (try clear hi)
                                            refine hK.out _ _ ⟨(blk_cell BK889.out 0).trans rfl, (blk_cell BK889.out 1).trans rfl, (blk_cell BK891.out 0).trans rfl, (blk_cell BK891.out 1).trans rfl, (blk_cell BK888.out 0).trans rfl, (blk_cell BK888.out 1).trans rfl, ((HB.out.cell (World.block_lt_of_cell? w0 _ hw894_0)).trans hw894_0), ((HB.out.cell (World.block_lt_of_cell? w0 _ hw894_1)).trans hw894_1), ((HB.out.cell (World.block_lt_of_cell? w0 _ hw896_0)).trans hw896_0)⟩ (fun hHeld => ?_)
                                            clear hK K
                                            refine norm_ (a' := ?_) ?_ ?_
                                            rotate_left
                                            · show Act.put _ (some 50) _ = _
                                              simp only [Act.put, List.setIfInBounds_toArray, List.set_cons_zero, List.set_cons_succ, i64_w, i32_w]
                                              rfl
                                            refine pure_ (i := 13) (N := some 51) (v := ?_) (a' := ?_) #[true, true, true, true, true, true, true, true, true, true, true, true, true, true, false, false] rfl rfl (any_of HT_.out (by kernel_rfl)) (fun _ _ _ h => h) (Or.inl ⟨by rfl, ?_⟩) ?_ ?_
                                            rotate_left
                                            · intro w'
                                              go_simp
                                              with_reducible rfl
                                            rotate_left
                                            · simp only [Act.put, List.setIfInBounds_toArray, List.set_cons_zero, List.set_cons_succ, i64_w, i32_w]
                                              rfl
                                            refine take_ (i := 14) (N := some 52) (v := ?_) (a' := ?_) #[true, true, true, true, true, true, true, true, true, true, true, true, true, true, true, false] rfl rfl (take_ofW HT_.out HW_.out (by kernel_rfl)) (fun _ _ _ h => h) (Or.inl ⟨by rfl, ?_⟩) hHeld ?_ ?_
                                            rotate_left
                                            · rintro w' ⟨s0, s1, s2, s3, s4, s5, s6, s7, s8⟩
                                              go_simp
                                              with_reducible rfl
                                            rotate_left
                                            · simp only [Act.put, List.setIfInBounds_toArray, List.set_cons_zero, List.set_cons_succ, i64_w, i32_w]
                                              rfl
                                            refine pure_ (i := 15) (N := some 12) (v := ?_) (a' := ?_) #[true, true, true, true, true, true, true, true, true, true, true, true, true, true, true, true] rfl rfl (any_of HT_.out (by kernel_rfl)) (fun _ _ _ h => h) (Or.inl ⟨by rfl, ?_⟩) ?_ ?_
                                            rotate_left
                                            · intro w'
                                              go_simp
                                              with_reducible rfl
                                            rotate_left
                                            · simp only [Act.put, List.setIfInBounds_toArray, List.set_cons_zero, List.set_cons_succ, i64_w, i32_w]
                                              rfl
                                            refine done_ (done_of HT_.out (by kernel_rfl)) ?_
                                            have p897 : 0 ≤ ((rd ((rd_T80 l0_1 x17_2).f1) x25_3) : Int) := of_decide_eq_true (by first | (with_reducible assumption) | assumption)
                                            have q897 : (rd ((rd_T80 l0_1 x17_2).f1) x25_3) < (x2_3.length : Int) := of_decide_eq_true (by first | (with_reducible assumption) | assumption)
                                            obtain ⟨ad897, e897, hx897_0⟩ := Kd.at_int (Kd.R_reads' HO_2.out).2.2 (rd ((rd_T80 l0_1 x17_2).f1) x25_3) p897 q897
                                            cases e897
                                            replace p897 := eq_true p897
                                            replace q897 := eq_true q897
                                            have p29 : 0 ≤ ((rd ((rd_T80 l0_1 x17_2).f1) x25_3) : Int) := of_decide_eq_true (by first | (with_reducible assumption) | assumption)
                                            have q29 : ((rd ((rd_T80 l0_1 x17_2).f1) x25_3) : Int) < ((x2_3.length : Int) : Int) := of_decide_eq_true (by first | (with_reducible assumption) | assumption)
                                            obtain ⟨go29, co29, eo29, gb29, gl29, cl29, HG29⟩ := Kd.R_form HO_2.out (by omega)
                                            (first | cases eo29 | (injection eo29 with ea_ en_ ec_; (first | subst ea_ | (injection ea_ with ea_; subst ea_)); subst ec_; clear en_))
                                            have GB29 := Aside0.mk gb29
                                            have GG29 := Aside0.mk HG29
                                            clear gb29 gl29 HG29
                                            have HMgo29 := Aside0.mk (show (P2_ go29 ∨ w.heap.size ≤ go29) from (HO_2.out.1 _ rfl))
                                            (first | simp only [add_plain] at hx897_0 | skip)
                                            obtain ⟨hx29_0, hf29_0⟩ := Kd.R_celln 0 HO_2.out ((rd ((rd_T80 l0_1 x17_2).f1) x25_3) : Int) p29 q29
                                            replace p29 := eq_true p29
                                            replace q29 := eq_true q29
                                            obtain ⟨hy38_, hz38_⟩ := Kd.R_celln 0 HO_2.out ((rd ((rd_T80 l0_1 x17_2).f1) x25_3) : Int) (of_decide_eq_true (by first | (with_reducible assumption) | assumption)) (of_decide_eq_true (by first | (with_reducible assumption) | assumption))
                                            have HP38 := Kd.R_putg HO_2.out ((rd ((rd_T80 l0_1 x17_2).f1) x25_3) : Int) (rd ((rd_T80 l1_1 x17_2).f1) t895)
                                            try go_wp2_with (first | ((with_reducible refine gate_store (t := 3) (p := 61) rfl ?_); refine store_event (t := 3) (p := 61) (v := ?vo_w39) (w1 := (w37.setCell ⟨go29, ((rd ((rd_T80 l0_1 x17_2).f1) x25_3) : Int).toNat, none⟩ (.int .i64 (rd ((rd_T80 l1_1 x17_2).f1) t895)))) ?hg ?ho ?hn ?hr ?_; (case ho => rfl); (case hg => rfl); (case hn => rfl); (case hr => first | (go_simp; done) | (go_simp; rfl)); intro w39 hw; have hg : w37.grownBy w39 (some go29) := (by rw [hw]; exact HP38.2); have hp_ : Kd.R (Kd.int .i64) 3 w39 w0.heap.size (fun k_ => (P2_ k_ ∨ w.heap.size ≤ k_)) (.slice (some ⟨go29, 0, none⟩) x2_3.length co35) y898 := (by rw [hw, Ny898.out]; exact HP38.1); clear HP38; have n0_ := Aside0.mk (hp_); have n1_ := Aside0.mk (blk_grown (g := gb888) (o := .cells #[.int .i64 a0_0, .slice (some ad890) l0_1.length c0_1] 31 (0, 0)) (by (with_reducible repeat (first | refine blk_drewN ?_ _ | refine blk_drew ?_ | refine blk_alloc ?_ _)); exact BK888.out) hg (Kd.R_ne HO_2.out BK888.out (by decide))); have n2_ := Aside0.mk (blk_grown (g := gb889) (o := .cells #[.int .i64 a1_0, .slice (some ad894) l1_1.length c1_1] 31 (0, 0)) (by (with_reducible repeat (first | refine blk_drewN ?_ _ | refine blk_drew ?_ | refine blk_alloc ?_ _)); exact BK889.out) hg (Kd.R_ne HO_2.out BK889.out (by decide))); have n3_ := Aside0.mk (blk_grown (g := gb891) (o := .cells #[.int .i64 ((rd_T80 l0_1 x17_2).f0), .slice (some ad892) ((rd_T80 l0_1 x17_2).f1).length c890_1] 80 (0, 0)) (by (with_reducible repeat (first | refine blk_drewN ?_ _ | refine blk_drew ?_ | refine blk_alloc ?_ _)); exact BK891.out) hg (Kd.R_ne HO_2.out BK891.out (by decide))); have n4_ := Aside0.mk ((by rw [hw]; exact below_set (HB.out) GB29.out : Below w0.heap.size w0 w39)); have n5_ := Aside0.mk (Kept.of_grown (S := (fun k_ => P2_ k_)) hg (by repeat (first | (with_reducible first | exact HK.out | apply Kept.alloc | apply Kept.drewN | apply Kept.drew | refine Kept.setCell ?_ (.inr GW888.out) _ | refine Kept.setCell ?_ (.inr GW889.out) _ | refine Kept.setCell ?_ (.inr GW891.out) _) | exact HK.out)) (fun k_ e_ => (HO_2.out.1 k_ e_))); clear HO_2; clear BK888; clear BK889; clear BK891; clear HB; clear HK; have HO_2 := n0_; have BK888 := n1_; have BK889 := n2_; have BK891 := n3_; have HB := n4_; have HK := n5_; clear n0_ n1_ n2_ n3_ n4_ n5_; clear hg hw hp_))
                                            go_roundg k3
                                            case measure => have := HK1.out; have := HK2.out; have := HK3.out; omega
                                            case rel => exact ⟨(y898), (true), (wrap64 (x25_3 + 1)), (by first | rfl | (simp; done) | (simp [*]; done)), (by first | rfl | (simp; done) | (simp [*]; done)), H', ⟨by have := HK1.out; have := HK2.out; have := HK3.out; omega⟩, ⟨by (with_reducible repeat (first | apply Kd.R_alloc | apply Kd.R_drewN | apply Kd.R_drew)); exact HO_2.out⟩, ⟨by (with_reducible repeat (first | refine blk_drewN ?_ _ | refine blk_drew ?_ | refine blk_alloc ?_ _)); exact BK888.out⟩, ⟨by (with_reducible repeat (first | refine blk_drewN ?_ _ | refine blk_drew ?_ | refine blk_alloc ?_ _)); exact BK889.out⟩, ⟨by (with_reducible repeat (first | refine blk_drewN ?_ _ | refine blk_drew ?_ | refine blk_alloc ?_ _)); exact BK891.out⟩, ⟨by repeat (first | (with_reducible first | exact HK.out | apply Kept.alloc | apply Kept.drewN | apply Kept.drew | refine Kept.setCell ?_ (.inr GW888.out) _ | refine Kept.setCell ?_ (.inr GW889.out) _ | refine Kept.setCell ?_ (.inr GW891.out) _) | exact HK.out)⟩, ⟨by repeat (first | (with_reducible first | exact HB.out | apply below_alloc | apply pw_below_drewN | apply below_drew1 | refine below_set ?_ GE888.out | refine below_set ?_ GE889.out | refine below_set ?_ GE891.out) | exact HB.out)⟩⟩
                                          · rw [if_neg c28] at H
                                            have c28b0 : decide ((rd x2_3 (rd ((rd_T80 l0_1 x17_2).f1) x25_3)) < 0) = false := decide_eq_false c28
                                            clear c28
                                            by_cases c40 : (rd x2_3 (rd ((rd_T80 l0_1 x17_2).f1) x25_3)) = (rd ((rd_T80 l1_1 x17_2).f1) t895)
                                            · rw [if_pos c40] at H
                                              have c40b0 : ((rd x2_3 (rd ((rd_T80 l0_1 x17_2).f1) x25_3)) == (rd ((rd_T80 l1_1 x17_2).f1) t895)) = true := beq_iff_eq.mpr c40
                                              have c40b1 : ((rd x2_3 (rd ((rd_T80 l0_1 x17_2).f1) x25_3)) != (rd ((rd_T80 l1_1 x17_2).f1) t895)) = false := bne_eq_false_iff_eq.mpr c40
                                              clear c40
                                              have H' := Aside0.mk H
                                              clear H
                                              have p892 : 0 ≤ (x25_3 : Int) := of_decide_eq_true (by first | (with_reducible assumption) | assumption)
                                              have q892 : x25_3 < (((rd_T80 l0_1 x17_2).f1).length : Int) := of_decide_eq_true (by first | (with_reducible assumption) | assumption)
                                              obtain ⟨ad892, e892, hx892_0⟩ := Kd.at_int HR890_1.out x25_3 p892 q892
                                              cases e892
                                              replace hx892_0 := (HB.out.cell (World.block_lt_of_cell? w0 _ hx892_0)).trans hx892_0
                                              replace p892 := eq_true p892
                                              replace q892 := eq_true q892
                                              have hnb41 := NB891_888.out
                                              have hnc41 := NB888_891.out
                                              have hnb42 := NB891_889.out
                                              have hnc42 := NB889_891.out
                                              have hcz43_0 : wr.cell? ⟨gb891, 0, none⟩ = some (.int .i64 ((rd_T80 l0_1 x17_2).f0)) := (blk_cell BK891.out 0).trans rfl
                                              have hcz43_1 : wr.cell? ⟨gb891, 1, none⟩ = some (.slice (some ad892) ((rd_T80 l0_1 x17_2).f1).length c890_1) := (blk_cell BK891.out 1).trans rfl
                                              have hfz43_0 := blk_frozen BK891.out 0
                                              have hfz43_1 := blk_frozen BK891.out 1
                                              have hnb44 := NB888_889.out
                                              have hnc44 := NB889_888.out
                                              have hcz45_0 : wr.cell? ⟨gb888, 0, none⟩ = some (.int .i64 a0_0) := (blk_cell BK888.out 0).trans rfl
                                              have hcz45_1 : wr.cell? ⟨gb888, 1, none⟩ = some (.slice (some ad890) l0_1.length c0_1) := (blk_cell BK888.out 1).trans rfl
                                              have hfz45_0 := blk_frozen BK888.out 0
                                              have hfz45_1 := blk_frozen BK888.out 1
                                              obtain ⟨Ao46, co46, eo46⟩ := Kd.R_slice HO_2.out
                                              subst eo46
                                              try go_wp2_with (first | ((with_reducible refine gate_callee (f := 99) rfl ?_); refine goesL_ (some 36) rfl rfl Try.func99 (by kernel_rfl) rfl #[.int .i64 x25_3, .int .i64 ((rd_T80 l0_1 x17_2).f0), .int .i64 a0_0, .slice Ao46 x2_3.length co46] rfl (by (try simp only [List.map_toArray, List.map_cons, List.map_nil]); first | done | rfl | (simp only [List.length_drop, List.length_take]; rfl)) ?_; (with_reducible refine (impl_noneOpen.calls k3 x25_3 ((rd_T80 l0_1 x17_2).f0) a0_0 _ _ x2_3 true _ ?side1 ?side2 A19.out).mono ?_); (case side1 => repeat (first | exact (Kd.R_reads' HO_2.out).2.2 | (with_reducible refine Kd.C_alloc ?_ _) | (with_reducible refine Kd.C_drewN ?_ _) | (with_reducible refine Kd.C_drew ?_))); (case side2 => exact (Kd.R_reads' HO_2.out).2.1); rintro e w' ⟨rfl, ⟨nd, rfl⟩⟩; refine ⟨_, rfl, ?_⟩))
                                              (try (rw [drewN_self wr]; generalize hq_ : World.drewN wr _ = wr; have n0_ : Aside0 (Kd.R (Kd.int .i64) 3 wr w0.heap.size (fun k_ => (P2_ k_ ∨ w.heap.size ≤ k_)) (.slice Ao46 x2_3.length co46) x2_3) := ⟨by rw [← hq_]; exact (by (with_reducible repeat (first | apply Kd.R_alloc | apply Kd.R_drewN | apply Kd.R_drew)); exact HO_2.out)⟩; have n1_ : Aside0 (wr.heap[gb888]? = some (.cells #[.int .i64 a0_0, .slice (some ad890) l0_1.length c0_1] 31 (0, 0))) := ⟨by rw [← hq_]; exact (by (with_reducible repeat (first | refine blk_drewN ?_ _ | refine blk_drew ?_ | refine blk_alloc ?_ _)); exact BK888.out)⟩; have n2_ : Aside0 (wr.heap[gb889]? = some (.cells #[.int .i64 a1_0, .slice A1_1 l1_1.length c1_1] 31 (0, 0))) := ⟨by rw [← hq_]; exact (by (with_reducible repeat (first | refine blk_drewN ?_ _ | refine blk_drew ?_ | refine blk_alloc ?_ _)); exact BK889.out)⟩; have n3_ : Aside0 (wr.heap[gb891]? = some (.cells #[.int .i64 ((rd_T80 l0_1 x17_2).f0), .slice (some ad892) ((rd_T80 l0_1 x17_2).f1).length c890_1] 80 (0, 0))) := ⟨by rw [← hq_]; exact (by (with_reducible repeat (first | refine blk_drewN ?_ _ | refine blk_drew ?_ | refine blk_alloc ?_ _)); exact BK891.out)⟩; have n4_ : Aside0 (Kept w wr (fun k_ => P2_ k_)) := ⟨by rw [← hq_]; exact (by repeat (first | (with_reducible first | exact HK.out | apply Kept.alloc | apply Kept.drewN | apply Kept.drew | refine Kept.setCell ?_ (.inr GW888.out) _ | refine Kept.setCell ?_ (.inr GW889.out) _ | refine Kept.setCell ?_ (.inr GW891.out) _) | exact HK.out))⟩; have n5_ : Aside0 (Below w0.heap.size w0 wr) := ⟨by rw [← hq_]; exact (by repeat (first | (with_reducible first | exact HB.out | apply below_alloc | apply pw_below_drewN | apply below_drew1 | refine below_set ?_ GE888.out | refine below_set ?_ GE889.out | refine below_set ?_ GE891.out) | exact HB.out))⟩; clear HO_2 BK888 BK889 BK891 HK HB hq_; have HO_2 := n0_; have BK888 := n1_; have BK889 := n2_; have BK891 := n3_; have HK := n4_; have HB := n5_; clear n0_ n1_ n2_ n3_ n4_ n5_; have hczq_gb888_0 : wr.cell? ⟨gb888, 0, none⟩ = some (.int .i64 a0_0) := (blk_cell BK888.out 0).trans rfl; have hfzq_gb888_0 := blk_frozen BK888.out 0; have hczq_gb888_1 : wr.cell? ⟨gb888, 1, none⟩ = some (.slice (some ad890) l0_1.length c0_1) := (blk_cell BK888.out 1).trans rfl; have hfzq_gb888_1 := blk_frozen BK888.out 1; have hczq_gb889_0 : wr.cell? ⟨gb889, 0, none⟩ = some (.int .i64 a1_0) := (blk_cell BK889.out 0).trans rfl; have hfzq_gb889_0 := blk_frozen BK889.out 0; have hczq_gb889_1 : wr.cell? ⟨gb889, 1, none⟩ = some (.slice A1_1 l1_1.length c1_1) := (blk_cell BK889.out 1).trans rfl; have hfzq_gb889_1 := blk_frozen BK889.out 1; have hczq_gb891_0 : wr.cell? ⟨gb891, 0, none⟩ = some (.int .i64 ((rd_T80 l0_1 x17_2).f0)) := (blk_cell BK891.out 0).trans rfl; have hfzq_gb891_0 := blk_frozen BK891.out 0; have hczq_gb891_1 : wr.cell? ⟨gb891, 1, none⟩ = some (.slice (some ad892) ((rd_T80 l0_1 x17_2).f1).length c890_1) := (blk_cell BK891.out 1).trans rfl; have hfzq_gb891_1 := blk_frozen BK891.out 1))
                                              have n0_ := Aside0.mk (Kd.R_drew HO_2.out)
                                              have n1_ := Aside0.mk (blk_drew BK888.out)
                                              have n2_ := Aside0.mk (blk_drew BK889.out)
                                              have n3_ := Aside0.mk (blk_drew BK891.out)
                                              have n4_ := Aside0.mk (Kept.drew HK.out)
                                              have n5_ := Aside0.mk (below_drew1 HB.out)
                                              clear HO_2
                                              clear BK888
                                              clear BK889
                                              clear BK891
                                              clear HK
                                              clear HB
                                              have HO_2 := n0_
                                              have BK888 := n1_
                                              have BK889 := n2_
                                              have BK891 := n3_
                                              have HK := n4_
                                              have HB := n5_
                                              clear n0_ n1_ n2_ n3_ n4_ n5_
                                              have p894 : 0 ≤ (x17_2 : Int) := of_decide_eq_true (by first | (with_reducible assumption) | assumption)
                                              have q894 : x17_2 < (l1_1.length : Int) := of_decide_eq_true (by first | (with_reducible assumption) | assumption)
                                              obtain ⟨ad894, A894_1, c894_1, e894, hx894_0, hx894_1, hl894_1, hi894_1⟩ := at_T80 HR1_1.out x17_2 p894 q894
                                              have hw894_1 := hx894_1
                                              have hw894_0 := hx894_0
                                              cases e894
                                              replace hx894_0 := (HB.out.cell (World.block_lt_of_cell? w0 _ hx894_0)).trans hx894_0
                                              replace hx894_1 := (HB.out.cell (World.block_lt_of_cell? w0 _ hx894_1)).trans hx894_1
                                              have HR894_1 := Aside0.mk hi894_1
                                              have HC894_1 := Aside0.mk hl894_1
                                              clear hi894_1 hl894_1
                                              replace p894 := eq_true p894
                                              replace q894 := eq_true q894
                                              have p896 : 0 ≤ (t895 : Int) := of_decide_eq_true (by first | (with_reducible assumption) | assumption)
                                              have q896 : t895 < (((rd_T80 l1_1 x17_2).f1).length : Int) := of_decide_eq_true (by first | (with_reducible assumption) | assumption)
                                              obtain ⟨ad896, e896, hx896_0⟩ := Kd.at_int HR894_1.out t895 p896 q896
                                              have hw896_0 := hx896_0
                                              cases e896
                                              replace hx896_0 := (HB.out.cell (World.block_lt_of_cell? w0 _ hx896_0)).trans hx896_0
                                              replace p896 := eq_true p896
                                              replace q896 := eq_true q896
                                              refine start_ (n := 16) (S := fun w' => w'.cell? ⟨gb889, 0, none⟩ = some (.int .i64 a1_0) ∧ w'.cell? ⟨gb889, 1, none⟩ = some (.slice (some ad894) l1_1.length c1_1) ∧ w'.cell? ⟨gb891, 0, none⟩ = some (.int .i64 ((rd_T80 l0_1 x17_2).f0)) ∧ w'.cell? ⟨gb891, 1, none⟩ = some (.slice (some ad892) ((rd_T80 l0_1 x17_2).f1).length c890_1) ∧ w'.cell? ⟨gb888, 0, none⟩ = some (.int .i64 a0_0) ∧ w'.cell? ⟨gb888, 1, none⟩ = some (.slice (some ad890) l0_1.length c0_1) ∧ w'.cell? (ad894.add ((x17_2).toNat * 2)) = some (.int .i64 ((rd_T80 l1_1 x17_2).f0)) ∧ w'.cell? ⟨(ad894.add ((x17_2).toNat * 2)).block, (ad894.add ((x17_2).toNat * 2)).off + 1, none⟩ = some (.slice (some ad896) ((rd_T80 l1_1 x17_2).f1).length c894_1) ∧ w'.cell? (ad896.add (t895).toNat) = some (.int .i64 (rd ((rd_T80 l1_1 x17_2).f1) t895))) (ds := []) #[false, false, false, false, false, false, false, false, false, false, false, false, false, false, false, false] (by kernel_rfl) rfl rfl ⟨(blk_cell BK889.out 0).trans rfl, (blk_cell BK889.out 1).trans rfl, (blk_cell BK891.out 0).trans rfl, (blk_cell BK891.out 1).trans rfl, (blk_cell BK888.out 0).trans rfl, (blk_cell BK888.out 1).trans rfl, ((HB.out.cell (World.block_lt_of_cell? w0 _ hw894_0)).trans hw894_0), ((HB.out.cell (World.block_lt_of_cell? w0 _ hw894_1)).trans hw894_1), ((HB.out.cell (World.block_lt_of_cell? w0 _ hw896_0)).trans hw896_0)⟩ (fun hHeld => ?_); refine with_tabW impl_closeMap.tab11 impl_closeMap.bits11 (fun HT_ HW_ => ?_)
                                              generalize wr.drew = w47 at HO_2 BK888 BK889 BK891 HK HB HR894_1 hx894_0 hx894_1 hx896_0 hHeld ⊢
                                              refine pure_ (i := 0) (N := some 38) (v := ?_) (a' := ?_) #[true, false, false, false, false, false, false, false, false, false, false, false, false, false, false, false] rfl rfl (any_of HT_.out (by kernel_rfl)) (fun _ _ _ h => h) (Or.inl ⟨by rfl, ?_⟩) ?_ ?_
                                              rotate_left
                                              · intro w'
                                                go_simp
                                                with_reducible rfl
                                              rotate_left
                                              · simp only [Act.put, List.setIfInBounds_toArray, List.set_cons_zero, List.set_cons_succ, i64_w, i32_w]
                                                rfl
                                              refine pure_ (i := 2) (N := some 40) (v := ?_) (a' := ?_) #[true, false, true, false, false, false, false, false, false, false, false, false, false, false, false, false] rfl rfl (any_of HT_.out (by kernel_rfl)) (fun _ _ _ h => h) (Or.inl ⟨by rfl, ?_⟩) ?_ ?_
                                              rotate_left
                                              · intro w'
                                                go_simp
                                                with_reducible rfl
                                              rotate_left
                                              · simp only [Act.put, List.setIfInBounds_toArray, List.set_cons_zero, List.set_cons_succ, i64_w, i32_w]
                                                rfl
                                              refine pure_ (i := 6) (N := some 44) (v := ?_) (a' := ?_) #[true, false, true, false, false, false, true, false, false, false, false, false, false, false, false, false] rfl rfl (any_of HT_.out (by kernel_rfl)) (fun _ _ _ h => h) (Or.inl ⟨by rfl, ?_⟩) ?_ ?_
                                              rotate_left
                                              · intro w'
                                                go_simp
                                                with_reducible rfl
                                              rotate_left
                                              · simp only [Act.put, List.setIfInBounds_toArray, List.set_cons_zero, List.set_cons_succ, i64_w, i32_w]
                                                rfl
                                              refine pure_ (i := 7) (N := some 45) (v := ?_) (a' := ?_) #[true, false, true, false, false, false, true, true, false, false, false, false, false, false, false, false] rfl rfl (any_of HT_.out (by kernel_rfl)) (fun _ _ _ h => h) (Or.inl ⟨by rfl, ?_⟩) ?_ ?_
                                              rotate_left
                                              · intro w'
                                                go_simp
                                                with_reducible rfl
                                              rotate_left
                                              · simp only [Act.put, List.setIfInBounds_toArray, List.set_cons_zero, List.set_cons_succ, i64_w, i32_w]
                                                rfl
                                              refine pure_ (i := 11) (N := some 49) (v := ?_) (a' := ?_) #[true, false, true, false, false, false, true, true, false, false, false, true, false, false, false, false] rfl rfl (any_of HT_.out (by kernel_rfl)) (fun _ _ _ h => h) (Or.inl ⟨by rfl, ?_⟩) ?_ ?_
                                              rotate_left
                                              · intro w'
                                                go_simp
                                                with_reducible rfl
                                              rotate_left
                                              · simp only [Act.put, List.setIfInBounds_toArray, List.set_cons_zero, List.set_cons_succ, i64_w, i32_w]
                                                rfl
                                              refine take_ (i := 1) (N := some 39) (v := ?_) (a' := ?_) #[true, true, true, false, false, false, true, true, false, false, false, true, false, false, false, false] rfl rfl (take_ofW HT_.out HW_.out (by kernel_rfl)) (fun _ _ _ h => h) (Or.inl ⟨by rfl, ?_⟩) hHeld ?_ ?_
                                              rotate_left
                                              · rintro w' ⟨s0, s1, s2, s3, s4, s5, s6, s7, s8⟩
                                                go_simp
                                                with_reducible rfl
                                              rotate_left
                                              · simp only [Act.put, List.setIfInBounds_toArray, List.set_cons_zero, List.set_cons_succ, i64_w, i32_w]
                                                rfl
                                              refine pure_ (i := 3) (N := some 41) (v := ?_) (a' := ?_) #[true, true, true, true, false, false, true, true, false, false, false, true, false, false, false, false] rfl rfl (any_of HT_.out (by kernel_rfl)) (fun _ _ _ h => h) (Or.inl ⟨by rfl, ?_⟩) ?_ ?_
                                              rotate_left
                                              · intro w'
                                                go_simp
                                                with_reducible rfl
                                              rotate_left
                                              · simp only [Act.put, List.setIfInBounds_toArray, List.set_cons_zero, List.set_cons_succ, i64_w, i32_w]
                                                rfl
                                              refine pure_ (i := 4) (N := some 42) (v := ?_) (a' := ?_) #[true, true, true, true, true, false, true, true, false, false, false, true, false, false, false, false] rfl rfl (any_of HT_.out (by kernel_rfl)) (fun _ _ _ h => h) (Or.inl ⟨by rfl, ?_⟩) ?_ ?_
                                              rotate_left
                                              · intro w'
                                                go_simp
                                                with_reducible rfl
                                              rotate_left
                                              · simp only [Act.put, List.setIfInBounds_toArray, List.set_cons_zero, List.set_cons_succ, i64_w, i32_w]
                                                rfl
                                              refine take_ (i := 5) (N := some 43) (v := ?_) (a' := ?_) #[true, true, true, true, true, true, true, true, false, false, false, true, false, false, false, false] rfl rfl (take_ofW HT_.out HW_.out (by kernel_rfl)) (fun _ _ _ h => h) (Or.inl ⟨by rfl, ?_⟩) hHeld ?_ ?_
                                              rotate_left
                                              · rintro w' ⟨s0, s1, s2, s3, s4, s5, s6, s7, s8⟩
                                                go_simp
                                                with_reducible rfl
                                              rotate_left
                                              · simp only [Act.put, List.setIfInBounds_toArray, List.set_cons_zero, List.set_cons_succ, i64_w, i32_w]
                                                rfl
                                              refine take_ (i := 8) (N := some 46) (v := ?_) (a' := ?_) #[true, true, true, true, true, true, true, true, true, false, false, true, false, false, false, false] rfl rfl (take_ofW HT_.out HW_.out (by kernel_rfl)) (fun _ _ _ h => h) (Or.inl ⟨by rfl, ?_⟩) hHeld ?_ ?_
                                              rotate_left
                                              · rintro w' ⟨s0, s1, s2, s3, s4, s5, s6, s7, s8⟩
                                                go_simp
                                                with_reducible rfl
                                              rotate_left
                                              · simp only [Act.put, List.setIfInBounds_toArray, List.set_cons_zero, List.set_cons_succ, i64_w, i32_w]
                                                rfl
                                              refine take_ (i := 9) (N := some 47) (v := ?_) (a' := ?_) #[true, true, true, true, true, true, true, true, true, true, false, true, false, false, false, false] rfl rfl (take_ofW HT_.out HW_.out (by kernel_rfl)) (fun _ _ _ h => h) (Or.inl ⟨by rfl, ?_⟩) hHeld ?_ ?_
                                              rotate_left
                                              · rintro w' ⟨s0, s1, s2, s3, s4, s5, s6, s7, s8⟩
                                                go_simp
                                                with_reducible rfl
                                              rotate_left
                                              · simp only [Act.put, List.setIfInBounds_toArray, List.set_cons_zero, List.set_cons_succ, i64_w, i32_w]
                                                rfl
                                              refine take_ (i := 10) (N := some 48) (v := ?_) (a' := ?_) #[true, true, true, true, true, true, true, true, true, true, true, true, false, false, false, false] rfl rfl (take_ofW HT_.out HW_.out (by kernel_rfl)) (fun _ _ _ h => h) (Or.inl ⟨by rfl, ?_⟩) hHeld ?_ ?_
                                              rotate_left
                                              · rintro w' ⟨s0, s1, s2, s3, s4, s5, s6, s7, s8⟩
                                                go_simp
                                                with_reducible rfl
                                              rotate_left
                                              · simp only [Act.put, List.setIfInBounds_toArray, List.set_cons_zero, List.set_cons_succ, i64_w, i32_w]
                                                rfl
                                              refine one_ (i := 12) (N := some 50) #[true, true, true, true, true, true, true, true, true, true, true, true, true, false, false, false] rfl rfl (one_of HT_.out (by kernel_rfl)) (by decide) (fun K hK => ?_)
                                              refine goes_ Try.func100 (by kernel_rfl) rfl #[.int .i64 x25_3, .int .i64 ((rd_T80 l0_1 x17_2).f0), .agg #[.int .i64 a0_0, .slice (some ad890) l0_1.length c0_1], .agg #[.int .i64 a1_0, .slice (some ad894) l1_1.length c1_1], .slice Ao46 x2_3.length co46] (by rfl) rfl rfl (by (try simp only [List.map_toArray, List.map_cons, List.map_nil]); first | done | rfl | (simp only [List.length_drop, List.length_take]; rfl)) ?_
                                              with_reducible refine (impl_imageIndex.calls k3 x25_3 ((rd_T80 l0_1 x17_2).f0) a0_0 _ _ l0_1 a1_0 _ _ l1_1 _ _ x2_3 t895 _ ?side1 ?side2 ?side3 ?side4 ?side5 ?side6 A23.out).mono ?_
                                              (case side1 => repeat (first | exact (Kd.C_below HR0_1.out HB.out) | (with_reducible refine Kd.C_alloc ?_ _) | (with_reducible refine Kd.C_drewN ?_ _) | (with_reducible refine Kd.C_drew ?_)))
                                              (case side2 => exact HC0_1.out)
                                              (case side3 => repeat (first | exact (Kd.C_below HR1_1.out HB.out) | (with_reducible refine Kd.C_alloc ?_ _) | (with_reducible refine Kd.C_drewN ?_ _) | (with_reducible refine Kd.C_drew ?_)))
                                              (case side4 => exact HC1_1.out)
                                              (case side5 => repeat (first | exact (Kd.R_reads' HO_2.out).2.2 | (with_reducible refine Kd.C_alloc ?_ _) | (with_reducible refine Kd.C_drewN ?_ _) | (with_reducible refine Kd.C_drew ?_)))
                                              (case side6 => exact (Kd.R_reads' HO_2.out).2.1)
                                              rintro e w48 ⟨rfl, hb⟩
                                              refine ⟨_, rfl, ?_⟩
                                              have n0_ := Aside0.mk (Kd.R_below (by (with_reducible repeat (first | apply Kd.R_alloc | apply Kd.R_drewN | apply Kd.R_drew)); exact HO_2.out) hb)
                                              have n1_ := Aside0.mk (blk_below (g := gb888) (o := .cells #[.int .i64 a0_0, .slice (some ad890) l0_1.length c0_1] 31 (0, 0)) (by (with_reducible repeat (first | refine blk_drewN ?_ _ | refine blk_drew ?_ | refine blk_alloc ?_ _)); exact BK888.out) hb)
                                              have n2_ := Aside0.mk (blk_below (g := gb889) (o := .cells #[.int .i64 a1_0, .slice (some ad894) l1_1.length c1_1] 31 (0, 0)) (by (with_reducible repeat (first | refine blk_drewN ?_ _ | refine blk_drew ?_ | refine blk_alloc ?_ _)); exact BK889.out) hb)
                                              have n3_ := Aside0.mk (blk_below (g := gb891) (o := .cells #[.int .i64 ((rd_T80 l0_1 x17_2).f0), .slice (some ad892) ((rd_T80 l0_1 x17_2).f1).length c890_1] 80 (0, 0)) (by (with_reducible repeat (first | refine blk_drewN ?_ _ | refine blk_drew ?_ | refine blk_alloc ?_ _)); exact BK891.out) hb)
                                              have n4_ := Aside0.mk (Kept.below (S := (fun k_ => P2_ k_)) (by repeat (first | (with_reducible first | exact HK.out | apply Kept.alloc | apply Kept.drewN | apply Kept.drew | refine Kept.setCell ?_ (.inr GW888.out) _ | refine Kept.setCell ?_ (.inr GW889.out) _ | refine Kept.setCell ?_ (.inr GW891.out) _) | exact HK.out)) hb)
                                              have n5_ := Aside0.mk (below_step (by repeat (first | (with_reducible first | exact HB.out | apply below_alloc | apply pw_below_drewN | apply below_drew1 | refine below_set ?_ GE888.out | refine below_set ?_ GE889.out | refine below_set ?_ GE891.out) | exact HB.out)) hb)
                                              clear HO_2
                                              clear BK888
                                              clear BK889
                                              clear BK891
                                              clear HK
                                              clear HB
                                              have HO_2 := n0_
                                              have BK888 := n1_
                                              have BK889 := n2_
                                              have BK891 := n3_
                                              have HK := n4_
                                              have HB := n5_
                                              clear n0_ n1_ n2_ n3_ n4_ n5_
                                              (try clear hb)
                                              (try clear hb2)
                                              (try clear hk)
                                              (try clear hi)
                                              refine hK.out _ _ ⟨(blk_cell BK889.out 0).trans rfl, (blk_cell BK889.out 1).trans rfl, (blk_cell BK891.out 0).trans rfl, (blk_cell BK891.out 1).trans rfl, (blk_cell BK888.out 0).trans rfl, (blk_cell BK888.out 1).trans rfl, ((HB.out.cell (World.block_lt_of_cell? w0 _ hw894_0)).trans hw894_0), ((HB.out.cell (World.block_lt_of_cell? w0 _ hw894_1)).trans hw894_1), ((HB.out.cell (World.block_lt_of_cell? w0 _ hw896_0)).trans hw896_0)⟩ (fun hHeld => ?_)
                                              clear hK K
                                              refine norm_ (a' := ?_) ?_ ?_
                                              rotate_left
                                              · show Act.put _ (some 50) _ = _
                                                simp only [Act.put, List.setIfInBounds_toArray, List.set_cons_zero, List.set_cons_succ, i64_w, i32_w]
                                                rfl
                                              refine pure_ (i := 13) (N := some 51) (v := ?_) (a' := ?_) #[true, true, true, true, true, true, true, true, true, true, true, true, true, true, false, false] rfl rfl (any_of HT_.out (by kernel_rfl)) (fun _ _ _ h => h) (Or.inl ⟨by rfl, ?_⟩) ?_ ?_
                                              rotate_left
                                              · intro w'
                                                go_simp
                                                with_reducible rfl
                                              rotate_left
                                              · simp only [Act.put, List.setIfInBounds_toArray, List.set_cons_zero, List.set_cons_succ, i64_w, i32_w]
                                                rfl
                                              refine take_ (i := 14) (N := some 52) (v := ?_) (a' := ?_) #[true, true, true, true, true, true, true, true, true, true, true, true, true, true, true, false] rfl rfl (take_ofW HT_.out HW_.out (by kernel_rfl)) (fun _ _ _ h => h) (Or.inl ⟨by rfl, ?_⟩) hHeld ?_ ?_
                                              rotate_left
                                              · rintro w' ⟨s0, s1, s2, s3, s4, s5, s6, s7, s8⟩
                                                go_simp
                                                with_reducible rfl
                                              rotate_left
                                              · simp only [Act.put, List.setIfInBounds_toArray, List.set_cons_zero, List.set_cons_succ, i64_w, i32_w]
                                                rfl
                                              refine pure_ (i := 15) (N := some 12) (v := ?_) (a' := ?_) #[true, true, true, true, true, true, true, true, true, true, true, true, true, true, true, true] rfl rfl (any_of HT_.out (by kernel_rfl)) (fun _ _ _ h => h) (Or.inl ⟨by rfl, ?_⟩) ?_ ?_
                                              rotate_left
                                              · intro w'
                                                go_simp
                                                with_reducible rfl
                                              rotate_left
                                              · simp only [Act.put, List.setIfInBounds_toArray, List.set_cons_zero, List.set_cons_succ, i64_w, i32_w]
                                                rfl
                                              refine done_ (done_of HT_.out (by kernel_rfl)) ?_
                                              have p897 : 0 ≤ ((rd ((rd_T80 l0_1 x17_2).f1) x25_3) : Int) := of_decide_eq_true (by first | (with_reducible assumption) | assumption)
                                              have q897 : (rd ((rd_T80 l0_1 x17_2).f1) x25_3) < (x2_3.length : Int) := of_decide_eq_true (by first | (with_reducible assumption) | assumption)
                                              obtain ⟨ad897, e897, hx897_0⟩ := Kd.at_int (Kd.R_reads' HO_2.out).2.2 (rd ((rd_T80 l0_1 x17_2).f1) x25_3) p897 q897
                                              cases e897
                                              replace p897 := eq_true p897
                                              replace q897 := eq_true q897
                                              have p899 : 0 ≤ ((rd ((rd_T80 l0_1 x17_2).f1) x25_3) : Int) := of_decide_eq_true (by first | (with_reducible assumption) | assumption)
                                              have q899 : (rd ((rd_T80 l0_1 x17_2).f1) x25_3) < (x2_3.length : Int) := of_decide_eq_true (by first | (with_reducible assumption) | assumption)
                                              obtain ⟨ad899, e899, hx899_0⟩ := Kd.at_int (Kd.R_reads' HO_2.out).2.2 (rd ((rd_T80 l0_1 x17_2).f1) x25_3) p899 q899
                                              obtain rfl : ad897 = ad899 := (by injection e899)
                                              replace p899 := eq_true p899
                                              replace q899 := eq_true q899
                                              try go_wp2
                                              go_roundg k3
                                              case measure => have := HK1.out; have := HK2.out; have := HK3.out; omega
                                              case rel => exact ⟨(x2_3), (x7_3), (wrap64 (x25_3 + 1)), (by first | rfl | (simp; done) | (simp [*]; done)), (by first | rfl | (simp; done) | (simp [*]; done)), H', ⟨by have := HK1.out; have := HK2.out; have := HK3.out; omega⟩, ⟨by (with_reducible repeat (first | apply Kd.R_alloc | apply Kd.R_drewN | apply Kd.R_drew)); exact HO_2.out⟩, ⟨by (with_reducible repeat (first | refine blk_drewN ?_ _ | refine blk_drew ?_ | refine blk_alloc ?_ _)); exact BK888.out⟩, ⟨by (with_reducible repeat (first | refine blk_drewN ?_ _ | refine blk_drew ?_ | refine blk_alloc ?_ _)); exact BK889.out⟩, ⟨by (with_reducible repeat (first | refine blk_drewN ?_ _ | refine blk_drew ?_ | refine blk_alloc ?_ _)); exact BK891.out⟩, ⟨by repeat (first | (with_reducible first | exact HK.out | apply Kept.alloc | apply Kept.drewN | apply Kept.drew | refine Kept.setCell ?_ (.inr GW888.out) _ | refine Kept.setCell ?_ (.inr GW889.out) _ | refine Kept.setCell ?_ (.inr GW891.out) _) | exact HK.out)⟩, ⟨by repeat (first | (with_reducible first | exact HB.out | apply below_alloc | apply pw_below_drewN | apply below_drew1 | refine below_set ?_ GE888.out | refine below_set ?_ GE889.out | refine below_set ?_ GE891.out) | exact HB.out)⟩⟩
                                            · rw [if_neg c40] at H
                                              have c40b0 : ((rd x2_3 (rd ((rd_T80 l0_1 x17_2).f1) x25_3)) == (rd ((rd_T80 l1_1 x17_2).f1) t895)) = false := beq_eq_false_iff_ne.mpr c40
                                              have c40b1 : ((rd x2_3 (rd ((rd_T80 l0_1 x17_2).f1) x25_3)) != (rd ((rd_T80 l1_1 x17_2).f1) t895)) = true := bne_iff_ne.mpr c40
                                              simp only [Option.some.injEq, Prod.mk.injEq] at H
                                              obtain ⟨rfl, rfl⟩ := H
                                              have p892 : 0 ≤ (x25_3 : Int) := of_decide_eq_true (by first | (with_reducible assumption) | assumption)
                                              have q892 : x25_3 < (((rd_T80 l0_1 x17_2).f1).length : Int) := of_decide_eq_true (by first | (with_reducible assumption) | assumption)
                                              obtain ⟨ad892, e892, hx892_0⟩ := Kd.at_int HR890_1.out x25_3 p892 q892
                                              cases e892
                                              replace hx892_0 := (HB.out.cell (World.block_lt_of_cell? w0 _ hx892_0)).trans hx892_0
                                              replace p892 := eq_true p892
                                              replace q892 := eq_true q892
                                              have hnb49 := NB891_888.out
                                              have hnc49 := NB888_891.out
                                              have hnb50 := NB891_889.out
                                              have hnc50 := NB889_891.out
                                              have hcz51_0 : wr.cell? ⟨gb891, 0, none⟩ = some (.int .i64 ((rd_T80 l0_1 x17_2).f0)) := (blk_cell BK891.out 0).trans rfl
                                              have hcz51_1 : wr.cell? ⟨gb891, 1, none⟩ = some (.slice (some ad892) ((rd_T80 l0_1 x17_2).f1).length c890_1) := (blk_cell BK891.out 1).trans rfl
                                              have hfz51_0 := blk_frozen BK891.out 0
                                              have hfz51_1 := blk_frozen BK891.out 1
                                              have hnb52 := NB888_889.out
                                              have hnc52 := NB889_888.out
                                              have hcz53_0 : wr.cell? ⟨gb888, 0, none⟩ = some (.int .i64 a0_0) := (blk_cell BK888.out 0).trans rfl
                                              have hcz53_1 : wr.cell? ⟨gb888, 1, none⟩ = some (.slice (some ad890) l0_1.length c0_1) := (blk_cell BK888.out 1).trans rfl
                                              have hfz53_0 := blk_frozen BK888.out 0
                                              have hfz53_1 := blk_frozen BK888.out 1
                                              obtain ⟨Ao54, co54, eo54⟩ := Kd.R_slice HO_2.out
                                              subst eo54
                                              try go_wp2_with (first | ((with_reducible refine gate_callee (f := 99) rfl ?_); refine goesL_ (some 36) rfl rfl Try.func99 (by kernel_rfl) rfl #[.int .i64 x25_3, .int .i64 ((rd_T80 l0_1 x17_2).f0), .int .i64 a0_0, .slice Ao54 x2_3.length co54] rfl (by (try simp only [List.map_toArray, List.map_cons, List.map_nil]); first | done | rfl | (simp only [List.length_drop, List.length_take]; rfl)) ?_; (with_reducible refine (impl_noneOpen.calls k3 x25_3 ((rd_T80 l0_1 x17_2).f0) a0_0 _ _ x2_3 true _ ?side1 ?side2 A19.out).mono ?_); (case side1 => repeat (first | exact (Kd.R_reads' HO_2.out).2.2 | (with_reducible refine Kd.C_alloc ?_ _) | (with_reducible refine Kd.C_drewN ?_ _) | (with_reducible refine Kd.C_drew ?_))); (case side2 => exact (Kd.R_reads' HO_2.out).2.1); rintro e w' ⟨rfl, ⟨nd, rfl⟩⟩; refine ⟨_, rfl, ?_⟩))
                                              (try (rw [drewN_self wr]; generalize hq_ : World.drewN wr _ = wr; have n0_ : Aside0 (Kd.R (Kd.int .i64) 3 wr w0.heap.size (fun k_ => (P2_ k_ ∨ w.heap.size ≤ k_)) (.slice Ao54 x2_3.length co54) x2_3) := ⟨by rw [← hq_]; exact (by (with_reducible repeat (first | apply Kd.R_alloc | apply Kd.R_drewN | apply Kd.R_drew)); exact HO_2.out)⟩; have n1_ : Aside0 (wr.heap[gb888]? = some (.cells #[.int .i64 a0_0, .slice (some ad890) l0_1.length c0_1] 31 (0, 0))) := ⟨by rw [← hq_]; exact (by (with_reducible repeat (first | refine blk_drewN ?_ _ | refine blk_drew ?_ | refine blk_alloc ?_ _)); exact BK888.out)⟩; have n2_ : Aside0 (wr.heap[gb889]? = some (.cells #[.int .i64 a1_0, .slice A1_1 l1_1.length c1_1] 31 (0, 0))) := ⟨by rw [← hq_]; exact (by (with_reducible repeat (first | refine blk_drewN ?_ _ | refine blk_drew ?_ | refine blk_alloc ?_ _)); exact BK889.out)⟩; have n3_ : Aside0 (wr.heap[gb891]? = some (.cells #[.int .i64 ((rd_T80 l0_1 x17_2).f0), .slice (some ad892) ((rd_T80 l0_1 x17_2).f1).length c890_1] 80 (0, 0))) := ⟨by rw [← hq_]; exact (by (with_reducible repeat (first | refine blk_drewN ?_ _ | refine blk_drew ?_ | refine blk_alloc ?_ _)); exact BK891.out)⟩; have n4_ : Aside0 (Kept w wr (fun k_ => P2_ k_)) := ⟨by rw [← hq_]; exact (by repeat (first | (with_reducible first | exact HK.out | apply Kept.alloc | apply Kept.drewN | apply Kept.drew | refine Kept.setCell ?_ (.inr GW888.out) _ | refine Kept.setCell ?_ (.inr GW889.out) _ | refine Kept.setCell ?_ (.inr GW891.out) _) | exact HK.out))⟩; have n5_ : Aside0 (Below w0.heap.size w0 wr) := ⟨by rw [← hq_]; exact (by repeat (first | (with_reducible first | exact HB.out | apply below_alloc | apply pw_below_drewN | apply below_drew1 | refine below_set ?_ GE888.out | refine below_set ?_ GE889.out | refine below_set ?_ GE891.out) | exact HB.out))⟩; clear HO_2 BK888 BK889 BK891 HK HB hq_; have HO_2 := n0_; have BK888 := n1_; have BK889 := n2_; have BK891 := n3_; have HK := n4_; have HB := n5_; clear n0_ n1_ n2_ n3_ n4_ n5_; have hczq_gb888_0 : wr.cell? ⟨gb888, 0, none⟩ = some (.int .i64 a0_0) := (blk_cell BK888.out 0).trans rfl; have hfzq_gb888_0 := blk_frozen BK888.out 0; have hczq_gb888_1 : wr.cell? ⟨gb888, 1, none⟩ = some (.slice (some ad890) l0_1.length c0_1) := (blk_cell BK888.out 1).trans rfl; have hfzq_gb888_1 := blk_frozen BK888.out 1; have hczq_gb889_0 : wr.cell? ⟨gb889, 0, none⟩ = some (.int .i64 a1_0) := (blk_cell BK889.out 0).trans rfl; have hfzq_gb889_0 := blk_frozen BK889.out 0; have hczq_gb889_1 : wr.cell? ⟨gb889, 1, none⟩ = some (.slice A1_1 l1_1.length c1_1) := (blk_cell BK889.out 1).trans rfl; have hfzq_gb889_1 := blk_frozen BK889.out 1; have hczq_gb891_0 : wr.cell? ⟨gb891, 0, none⟩ = some (.int .i64 ((rd_T80 l0_1 x17_2).f0)) := (blk_cell BK891.out 0).trans rfl; have hfzq_gb891_0 := blk_frozen BK891.out 0; have hczq_gb891_1 : wr.cell? ⟨gb891, 1, none⟩ = some (.slice (some ad892) ((rd_T80 l0_1 x17_2).f1).length c890_1) := (blk_cell BK891.out 1).trans rfl; have hfzq_gb891_1 := blk_frozen BK891.out 1))
                                              have n0_ := Aside0.mk (Kd.R_drew HO_2.out)
                                              have n1_ := Aside0.mk (blk_drew BK888.out)
                                              have n2_ := Aside0.mk (blk_drew BK889.out)
                                              have n3_ := Aside0.mk (blk_drew BK891.out)
                                              have n4_ := Aside0.mk (Kept.drew HK.out)
                                              have n5_ := Aside0.mk (below_drew1 HB.out)
                                              clear HO_2
                                              clear BK888
                                              clear BK889
                                              clear BK891
                                              clear HK
                                              clear HB
                                              have HO_2 := n0_
                                              have BK888 := n1_
                                              have BK889 := n2_
                                              have BK891 := n3_
                                              have HK := n4_
                                              have HB := n5_
                                              clear n0_ n1_ n2_ n3_ n4_ n5_
                                              have p894 : 0 ≤ (x17_2 : Int) := of_decide_eq_true (by first | (with_reducible assumption) | assumption)
                                              have q894 : x17_2 < (l1_1.length : Int) := of_decide_eq_true (by first | (with_reducible assumption) | assumption)
                                              obtain ⟨ad894, A894_1, c894_1, e894, hx894_0, hx894_1, hl894_1, hi894_1⟩ := at_T80 HR1_1.out x17_2 p894 q894
                                              have hw894_1 := hx894_1
                                              have hw894_0 := hx894_0
                                              cases e894
                                              replace hx894_0 := (HB.out.cell (World.block_lt_of_cell? w0 _ hx894_0)).trans hx894_0
                                              replace hx894_1 := (HB.out.cell (World.block_lt_of_cell? w0 _ hx894_1)).trans hx894_1
                                              have HR894_1 := Aside0.mk hi894_1
                                              have HC894_1 := Aside0.mk hl894_1
                                              clear hi894_1 hl894_1
                                              replace p894 := eq_true p894
                                              replace q894 := eq_true q894
                                              have p896 : 0 ≤ (t895 : Int) := of_decide_eq_true (by first | (with_reducible assumption) | assumption)
                                              have q896 : t895 < (((rd_T80 l1_1 x17_2).f1).length : Int) := of_decide_eq_true (by first | (with_reducible assumption) | assumption)
                                              obtain ⟨ad896, e896, hx896_0⟩ := Kd.at_int HR894_1.out t895 p896 q896
                                              have hw896_0 := hx896_0
                                              cases e896
                                              replace hx896_0 := (HB.out.cell (World.block_lt_of_cell? w0 _ hx896_0)).trans hx896_0
                                              replace p896 := eq_true p896
                                              replace q896 := eq_true q896
                                              refine start_ (n := 16) (S := fun w' => w'.cell? ⟨gb889, 0, none⟩ = some (.int .i64 a1_0) ∧ w'.cell? ⟨gb889, 1, none⟩ = some (.slice (some ad894) l1_1.length c1_1) ∧ w'.cell? ⟨gb891, 0, none⟩ = some (.int .i64 ((rd_T80 l0_1 x17_2).f0)) ∧ w'.cell? ⟨gb891, 1, none⟩ = some (.slice (some ad892) ((rd_T80 l0_1 x17_2).f1).length c890_1) ∧ w'.cell? ⟨gb888, 0, none⟩ = some (.int .i64 a0_0) ∧ w'.cell? ⟨gb888, 1, none⟩ = some (.slice (some ad890) l0_1.length c0_1) ∧ w'.cell? (ad894.add ((x17_2).toNat * 2)) = some (.int .i64 ((rd_T80 l1_1 x17_2).f0)) ∧ w'.cell? ⟨(ad894.add ((x17_2).toNat * 2)).block, (ad894.add ((x17_2).toNat * 2)).off + 1, none⟩ = some (.slice (some ad896) ((rd_T80 l1_1 x17_2).f1).length c894_1) ∧ w'.cell? (ad896.add (t895).toNat) = some (.int .i64 (rd ((rd_T80 l1_1 x17_2).f1) t895))) (ds := []) #[false, false, false, false, false, false, false, false, false, false, false, false, false, false, false, false] (by kernel_rfl) rfl rfl ⟨(blk_cell BK889.out 0).trans rfl, (blk_cell BK889.out 1).trans rfl, (blk_cell BK891.out 0).trans rfl, (blk_cell BK891.out 1).trans rfl, (blk_cell BK888.out 0).trans rfl, (blk_cell BK888.out 1).trans rfl, ((HB.out.cell (World.block_lt_of_cell? w0 _ hw894_0)).trans hw894_0), ((HB.out.cell (World.block_lt_of_cell? w0 _ hw894_1)).trans hw894_1), ((HB.out.cell (World.block_lt_of_cell? w0 _ hw896_0)).trans hw896_0)⟩ (fun hHeld => ?_); refine with_tabW impl_closeMap.tab11 impl_closeMap.bits11 (fun HT_ HW_ => ?_)
                                              generalize wr.drew = w55 at HO_2 BK888 BK889 BK891 HK HB HR894_1 hx894_0 hx894_1 hx896_0 hHeld ⊢
                                              refine pure_ (i := 0) (N := some 38) (v := ?_) (a' := ?_) #[true, false, false, false, false, false, false, false, false, false, false, false, false, false, false, false] rfl rfl (any_of HT_.out (by kernel_rfl)) (fun _ _ _ h => h) (Or.inl ⟨by rfl, ?_⟩) ?_ ?_
                                              rotate_left
                                              · intro w'
                                                go_simp
                                                with_reducible rfl
                                              rotate_left
                                              · simp only [Act.put, List.setIfInBounds_toArray, List.set_cons_zero, List.set_cons_succ, i64_w, i32_w]
                                                rfl
                                              refine pure_ (i := 2) (N := some 40) (v := ?_) (a' := ?_) #[true, false, true, false, false, false, false, false, false, false, false, false, false, false, false, false] rfl rfl (any_of HT_.out (by kernel_rfl)) (fun _ _ _ h => h) (Or.inl ⟨by rfl, ?_⟩) ?_ ?_
                                              rotate_left
                                              · intro w'
                                                go_simp
                                                with_reducible rfl
                                              rotate_left
                                              · simp only [Act.put, List.setIfInBounds_toArray, List.set_cons_zero, List.set_cons_succ, i64_w, i32_w]
                                                rfl
                                              refine pure_ (i := 6) (N := some 44) (v := ?_) (a' := ?_) #[true, false, true, false, false, false, true, false, false, false, false, false, false, false, false, false] rfl rfl (any_of HT_.out (by kernel_rfl)) (fun _ _ _ h => h) (Or.inl ⟨by rfl, ?_⟩) ?_ ?_
                                              rotate_left
                                              · intro w'
                                                go_simp
                                                with_reducible rfl
                                              rotate_left
                                              · simp only [Act.put, List.setIfInBounds_toArray, List.set_cons_zero, List.set_cons_succ, i64_w, i32_w]
                                                rfl
                                              refine pure_ (i := 7) (N := some 45) (v := ?_) (a' := ?_) #[true, false, true, false, false, false, true, true, false, false, false, false, false, false, false, false] rfl rfl (any_of HT_.out (by kernel_rfl)) (fun _ _ _ h => h) (Or.inl ⟨by rfl, ?_⟩) ?_ ?_
                                              rotate_left
                                              · intro w'
                                                go_simp
                                                with_reducible rfl
                                              rotate_left
                                              · simp only [Act.put, List.setIfInBounds_toArray, List.set_cons_zero, List.set_cons_succ, i64_w, i32_w]
                                                rfl
                                              refine pure_ (i := 11) (N := some 49) (v := ?_) (a' := ?_) #[true, false, true, false, false, false, true, true, false, false, false, true, false, false, false, false] rfl rfl (any_of HT_.out (by kernel_rfl)) (fun _ _ _ h => h) (Or.inl ⟨by rfl, ?_⟩) ?_ ?_
                                              rotate_left
                                              · intro w'
                                                go_simp
                                                with_reducible rfl
                                              rotate_left
                                              · simp only [Act.put, List.setIfInBounds_toArray, List.set_cons_zero, List.set_cons_succ, i64_w, i32_w]
                                                rfl
                                              refine take_ (i := 1) (N := some 39) (v := ?_) (a' := ?_) #[true, true, true, false, false, false, true, true, false, false, false, true, false, false, false, false] rfl rfl (take_ofW HT_.out HW_.out (by kernel_rfl)) (fun _ _ _ h => h) (Or.inl ⟨by rfl, ?_⟩) hHeld ?_ ?_
                                              rotate_left
                                              · rintro w' ⟨s0, s1, s2, s3, s4, s5, s6, s7, s8⟩
                                                go_simp
                                                with_reducible rfl
                                              rotate_left
                                              · simp only [Act.put, List.setIfInBounds_toArray, List.set_cons_zero, List.set_cons_succ, i64_w, i32_w]
                                                rfl
                                              refine pure_ (i := 3) (N := some 41) (v := ?_) (a' := ?_) #[true, true, true, true, false, false, true, true, false, false, false, true, false, false, false, false] rfl rfl (any_of HT_.out (by kernel_rfl)) (fun _ _ _ h => h) (Or.inl ⟨by rfl, ?_⟩) ?_ ?_
                                              rotate_left
                                              · intro w'
                                                go_simp
                                                with_reducible rfl
                                              rotate_left
                                              · simp only [Act.put, List.setIfInBounds_toArray, List.set_cons_zero, List.set_cons_succ, i64_w, i32_w]
                                                rfl
                                              refine pure_ (i := 4) (N := some 42) (v := ?_) (a' := ?_) #[true, true, true, true, true, false, true, true, false, false, false, true, false, false, false, false] rfl rfl (any_of HT_.out (by kernel_rfl)) (fun _ _ _ h => h) (Or.inl ⟨by rfl, ?_⟩) ?_ ?_
                                              rotate_left
                                              · intro w'
                                                go_simp
                                                with_reducible rfl
                                              rotate_left
                                              · simp only [Act.put, List.setIfInBounds_toArray, List.set_cons_zero, List.set_cons_succ, i64_w, i32_w]
                                                rfl
                                              refine take_ (i := 5) (N := some 43) (v := ?_) (a' := ?_) #[true, true, true, true, true, true, true, true, false, false, false, true, false, false, false, false] rfl rfl (take_ofW HT_.out HW_.out (by kernel_rfl)) (fun _ _ _ h => h) (Or.inl ⟨by rfl, ?_⟩) hHeld ?_ ?_
                                              rotate_left
                                              · rintro w' ⟨s0, s1, s2, s3, s4, s5, s6, s7, s8⟩
                                                go_simp
                                                with_reducible rfl
                                              rotate_left
                                              · simp only [Act.put, List.setIfInBounds_toArray, List.set_cons_zero, List.set_cons_succ, i64_w, i32_w]
                                                rfl
                                              refine take_ (i := 8) (N := some 46) (v := ?_) (a' := ?_) #[true, true, true, true, true, true, true, true, true, false, false, true, false, false, false, false] rfl rfl (take_ofW HT_.out HW_.out (by kernel_rfl)) (fun _ _ _ h => h) (Or.inl ⟨by rfl, ?_⟩) hHeld ?_ ?_
                                              rotate_left
                                              · rintro w' ⟨s0, s1, s2, s3, s4, s5, s6, s7, s8⟩
                                                go_simp
                                                with_reducible rfl
                                              rotate_left
                                              · simp only [Act.put, List.setIfInBounds_toArray, List.set_cons_zero, List.set_cons_succ, i64_w, i32_w]
                                                rfl
                                              refine take_ (i := 9) (N := some 47) (v := ?_) (a' := ?_) #[true, true, true, true, true, true, true, true, true, true, false, true, false, false, false, false] rfl rfl (take_ofW HT_.out HW_.out (by kernel_rfl)) (fun _ _ _ h => h) (Or.inl ⟨by rfl, ?_⟩) hHeld ?_ ?_
                                              rotate_left
                                              · rintro w' ⟨s0, s1, s2, s3, s4, s5, s6, s7, s8⟩
                                                go_simp
                                                with_reducible rfl
                                              rotate_left
                                              · simp only [Act.put, List.setIfInBounds_toArray, List.set_cons_zero, List.set_cons_succ, i64_w, i32_w]
                                                rfl
                                              refine take_ (i := 10) (N := some 48) (v := ?_) (a' := ?_) #[true, true, true, true, true, true, true, true, true, true, true, true, false, false, false, false] rfl rfl (take_ofW HT_.out HW_.out (by kernel_rfl)) (fun _ _ _ h => h) (Or.inl ⟨by rfl, ?_⟩) hHeld ?_ ?_
                                              rotate_left
                                              · rintro w' ⟨s0, s1, s2, s3, s4, s5, s6, s7, s8⟩
                                                go_simp
                                                with_reducible rfl
                                              rotate_left
                                              · simp only [Act.put, List.setIfInBounds_toArray, List.set_cons_zero, List.set_cons_succ, i64_w, i32_w]
                                                rfl
                                              refine one_ (i := 12) (N := some 50) #[true, true, true, true, true, true, true, true, true, true, true, true, true, false, false, false] rfl rfl (one_of HT_.out (by kernel_rfl)) (by decide) (fun K hK => ?_)
                                              refine goes_ Try.func100 (by kernel_rfl) rfl #[.int .i64 x25_3, .int .i64 ((rd_T80 l0_1 x17_2).f0), .agg #[.int .i64 a0_0, .slice (some ad890) l0_1.length c0_1], .agg #[.int .i64 a1_0, .slice (some ad894) l1_1.length c1_1], .slice Ao54 x2_3.length co54] (by rfl) rfl rfl (by (try simp only [List.map_toArray, List.map_cons, List.map_nil]); first | done | rfl | (simp only [List.length_drop, List.length_take]; rfl)) ?_
                                              with_reducible refine (impl_imageIndex.calls k3 x25_3 ((rd_T80 l0_1 x17_2).f0) a0_0 _ _ l0_1 a1_0 _ _ l1_1 _ _ x2_3 t895 _ ?side1 ?side2 ?side3 ?side4 ?side5 ?side6 A23.out).mono ?_
                                              (case side1 => repeat (first | exact (Kd.C_below HR0_1.out HB.out) | (with_reducible refine Kd.C_alloc ?_ _) | (with_reducible refine Kd.C_drewN ?_ _) | (with_reducible refine Kd.C_drew ?_)))
                                              (case side2 => exact HC0_1.out)
                                              (case side3 => repeat (first | exact (Kd.C_below HR1_1.out HB.out) | (with_reducible refine Kd.C_alloc ?_ _) | (with_reducible refine Kd.C_drewN ?_ _) | (with_reducible refine Kd.C_drew ?_)))
                                              (case side4 => exact HC1_1.out)
                                              (case side5 => repeat (first | exact (Kd.R_reads' HO_2.out).2.2 | (with_reducible refine Kd.C_alloc ?_ _) | (with_reducible refine Kd.C_drewN ?_ _) | (with_reducible refine Kd.C_drew ?_)))
                                              (case side6 => exact (Kd.R_reads' HO_2.out).2.1)
                                              rintro e w56 ⟨rfl, hb⟩
                                              refine ⟨_, rfl, ?_⟩
                                              have n0_ := Aside0.mk (Kd.R_below (by (with_reducible repeat (first | apply Kd.R_alloc | apply Kd.R_drewN | apply Kd.R_drew)); exact HO_2.out) hb)
                                              have n1_ := Aside0.mk (blk_below (g := gb888) (o := .cells #[.int .i64 a0_0, .slice (some ad890) l0_1.length c0_1] 31 (0, 0)) (by (with_reducible repeat (first | refine blk_drewN ?_ _ | refine blk_drew ?_ | refine blk_alloc ?_ _)); exact BK888.out) hb)
                                              have n2_ := Aside0.mk (blk_below (g := gb889) (o := .cells #[.int .i64 a1_0, .slice (some ad894) l1_1.length c1_1] 31 (0, 0)) (by (with_reducible repeat (first | refine blk_drewN ?_ _ | refine blk_drew ?_ | refine blk_alloc ?_ _)); exact BK889.out) hb)
                                              have n3_ := Aside0.mk (blk_below (g := gb891) (o := .cells #[.int .i64 ((rd_T80 l0_1 x17_2).f0), .slice (some ad892) ((rd_T80 l0_1 x17_2).f1).length c890_1] 80 (0, 0)) (by (with_reducible repeat (first | refine blk_drewN ?_ _ | refine blk_drew ?_ | refine blk_alloc ?_ _)); exact BK891.out) hb)
                                              have n4_ := Aside0.mk (Kept.below (S := (fun k_ => P2_ k_)) (by repeat (first | (with_reducible first | exact HK.out | apply Kept.alloc | apply Kept.drewN | apply Kept.drew | refine Kept.setCell ?_ (.inr GW888.out) _ | refine Kept.setCell ?_ (.inr GW889.out) _ | refine Kept.setCell ?_ (.inr GW891.out) _) | exact HK.out)) hb)
                                              have n5_ := Aside0.mk (below_step (by repeat (first | (with_reducible first | exact HB.out | apply below_alloc | apply pw_below_drewN | apply below_drew1 | refine below_set ?_ GE888.out | refine below_set ?_ GE889.out | refine below_set ?_ GE891.out) | exact HB.out)) hb)
                                              clear HO_2
                                              clear BK888
                                              clear BK889
                                              clear BK891
                                              clear HK
                                              clear HB
                                              have HO_2 := n0_
                                              have BK888 := n1_
                                              have BK889 := n2_
                                              have BK891 := n3_
                                              have HK := n4_
                                              have HB := n5_
                                              clear n0_ n1_ n2_ n3_ n4_ n5_
                                              (try clear hb)
                                              (try clear hb2)
                                              (try clear hk)
                                              (try clear hi)
                                              refine hK.out _ _ ⟨(blk_cell BK889.out 0).trans rfl, (blk_cell BK889.out 1).trans rfl, (blk_cell BK891.out 0).trans rfl, (blk_cell BK891.out 1).trans rfl, (blk_cell BK888.out 0).trans rfl, (blk_cell BK888.out 1).trans rfl, ((HB.out.cell (World.block_lt_of_cell? w0 _ hw894_0)).trans hw894_0), ((HB.out.cell (World.block_lt_of_cell? w0 _ hw894_1)).trans hw894_1), ((HB.out.cell (World.block_lt_of_cell? w0 _ hw896_0)).trans hw896_0)⟩ (fun hHeld => ?_)
                                              clear hK K
                                              refine norm_ (a' := ?_) ?_ ?_
                                              rotate_left
                                              · show Act.put _ (some 50) _ = _
                                                simp only [Act.put, List.setIfInBounds_toArray, List.set_cons_zero, List.set_cons_succ, i64_w, i32_w]
                                                rfl
                                              refine pure_ (i := 13) (N := some 51) (v := ?_) (a' := ?_) #[true, true, true, true, true, true, true, true, true, true, true, true, true, true, false, false] rfl rfl (any_of HT_.out (by kernel_rfl)) (fun _ _ _ h => h) (Or.inl ⟨by rfl, ?_⟩) ?_ ?_
                                              rotate_left
                                              · intro w'
                                                go_simp
                                                with_reducible rfl
                                              rotate_left
                                              · simp only [Act.put, List.setIfInBounds_toArray, List.set_cons_zero, List.set_cons_succ, i64_w, i32_w]
                                                rfl
                                              refine take_ (i := 14) (N := some 52) (v := ?_) (a' := ?_) #[true, true, true, true, true, true, true, true, true, true, true, true, true, true, true, false] rfl rfl (take_ofW HT_.out HW_.out (by kernel_rfl)) (fun _ _ _ h => h) (Or.inl ⟨by rfl, ?_⟩) hHeld ?_ ?_
                                              rotate_left
                                              · rintro w' ⟨s0, s1, s2, s3, s4, s5, s6, s7, s8⟩
                                                go_simp
                                                with_reducible rfl
                                              rotate_left
                                              · simp only [Act.put, List.setIfInBounds_toArray, List.set_cons_zero, List.set_cons_succ, i64_w, i32_w]
                                                rfl
                                              refine pure_ (i := 15) (N := some 12) (v := ?_) (a' := ?_) #[true, true, true, true, true, true, true, true, true, true, true, true, true, true, true, true] rfl rfl (any_of HT_.out (by kernel_rfl)) (fun _ _ _ h => h) (Or.inl ⟨by rfl, ?_⟩) ?_ ?_
                                              rotate_left
                                              · intro w'
                                                go_simp
                                                with_reducible rfl
                                              rotate_left
                                              · simp only [Act.put, List.setIfInBounds_toArray, List.set_cons_zero, List.set_cons_succ, i64_w, i32_w]
                                                rfl
                                              refine done_ (done_of HT_.out (by kernel_rfl)) ?_
                                              have p897 : 0 ≤ ((rd ((rd_T80 l0_1 x17_2).f1) x25_3) : Int) := of_decide_eq_true (by first | (with_reducible assumption) | assumption)
                                              have q897 : (rd ((rd_T80 l0_1 x17_2).f1) x25_3) < (x2_3.length : Int) := of_decide_eq_true (by first | (with_reducible assumption) | assumption)
                                              obtain ⟨ad897, e897, hx897_0⟩ := Kd.at_int (Kd.R_reads' HO_2.out).2.2 (rd ((rd_T80 l0_1 x17_2).f1) x25_3) p897 q897
                                              cases e897
                                              replace p897 := eq_true p897
                                              replace q897 := eq_true q897
                                              have p899 : 0 ≤ ((rd ((rd_T80 l0_1 x17_2).f1) x25_3) : Int) := of_decide_eq_true (by first | (with_reducible assumption) | assumption)
                                              have q899 : (rd ((rd_T80 l0_1 x17_2).f1) x25_3) < (x2_3.length : Int) := of_decide_eq_true (by first | (with_reducible assumption) | assumption)
                                              obtain ⟨ad899, e899, hx899_0⟩ := Kd.at_int (Kd.R_reads' HO_2.out).2.2 (rd ((rd_T80 l0_1 x17_2).f1) x25_3) p899 q899
                                              obtain rfl : ad897 = ad899 := (by injection e899)
                                              replace p899 := eq_true p899
                                              replace q899 := eq_true q899
                                              try go_wp2
                                              go_ret
                                              exact ⟨by first | rfl | (simp [errW_none, errW_some] <;> rfl) | (simp [*, errW_none, errW_some] <;> rfl), by (with_reducible repeat (first | apply Kd.R_alloc | apply Kd.R_drewN | apply Kd.R_drew)); exact HO_2.out, by repeat (first | (with_reducible first | exact HB.out | apply below_alloc | apply pw_below_drewN | apply below_drew1 | refine below_set ?_ GE888.out | refine below_set ?_ GE889.out | refine below_set ?_ GE891.out) | exact HB.out), by repeat (first | (with_reducible first | exact HK.out | apply Kept.alloc | apply Kept.drewN | apply Kept.drew | refine Kept.setCell ?_ (.inr GW888.out) _ | refine Kept.setCell ?_ (.inr GW889.out) _ | refine Kept.setCell ?_ (.inr GW891.out) _) | exact HK.out)⟩
                                        · rw [if_neg c27] at H
                                          exact absurd H (by simp)
                                      · rw [if_neg c26] at H
                                        exact absurd H (by simp)
                                    · rw [if_neg c25] at H
                                      exact absurd H (by simp)
                                  · rw [if_neg c24] at H
                                    exact absurd H (by simp)
                                · rw [if_neg c22] at H
                                  exact absurd H (by simp)
                              · rw [if_neg c21] at H
                                exact absurd H (by simp)
                            · replace c20 := Bool.eq_false_iff.mpr c20
                              subst c20
                              have H1 : (impl_closeMap.l2 k3 x2_3 x7_3 x17_2 l0_1 (l0_1.length : Int) x17_2 ((rd_T80 l0_1 x17_2).f1) (((rd_T80 l0_1 x17_2).f1).length : Int) (wrap64 (x25_3 + 1)) a0_0 l0_1 a1_0 l1_1 ((rd_T80 l0_1 x17_2).f0) ((rd_T80 l0_1 x17_2).f1)) = some (r1, r2) := by rw [if_neg (show ¬ (false = true) by decide)] at H; exact H
                              clear H
                              have H := H1
                              clear H1
                              have H' := Aside0.mk H
                              clear H
                              have p892 : 0 ≤ (x25_3 : Int) := of_decide_eq_true (by first | (with_reducible assumption) | assumption)
                              have q892 : x25_3 < (((rd_T80 l0_1 x17_2).f1).length : Int) := of_decide_eq_true (by first | (with_reducible assumption) | assumption)
                              obtain ⟨ad892, e892, hx892_0⟩ := Kd.at_int HR890_1.out x25_3 p892 q892
                              cases e892
                              replace hx892_0 := (HB.out.cell (World.block_lt_of_cell? w0 _ hx892_0)).trans hx892_0
                              replace p892 := eq_true p892
                              replace q892 := eq_true q892
                              have hnb57 := NB891_888.out
                              have hnc57 := NB888_891.out
                              have hnb58 := NB891_889.out
                              have hnc58 := NB889_891.out
                              have hcz59_0 : wr.cell? ⟨gb891, 0, none⟩ = some (.int .i64 ((rd_T80 l0_1 x17_2).f0)) := (blk_cell BK891.out 0).trans rfl
                              have hcz59_1 : wr.cell? ⟨gb891, 1, none⟩ = some (.slice (some ad892) ((rd_T80 l0_1 x17_2).f1).length c890_1) := (blk_cell BK891.out 1).trans rfl
                              have hfz59_0 := blk_frozen BK891.out 0
                              have hfz59_1 := blk_frozen BK891.out 1
                              have hnb60 := NB888_889.out
                              have hnc60 := NB889_888.out
                              have hcz61_0 : wr.cell? ⟨gb888, 0, none⟩ = some (.int .i64 a0_0) := (blk_cell BK888.out 0).trans rfl
                              have hcz61_1 : wr.cell? ⟨gb888, 1, none⟩ = some (.slice (some ad890) l0_1.length c0_1) := (blk_cell BK888.out 1).trans rfl
                              have hfz61_0 := blk_frozen BK888.out 0
                              have hfz61_1 := blk_frozen BK888.out 1
                              obtain ⟨Ao62, co62, eo62⟩ := Kd.R_slice HO_2.out
                              subst eo62
                              go_wp2_with (first | ((with_reducible refine gate_callee (f := 99) rfl ?_); refine goesL_ (some 36) rfl rfl Try.func99 (by kernel_rfl) rfl #[.int .i64 x25_3, .int .i64 ((rd_T80 l0_1 x17_2).f0), .int .i64 a0_0, .slice Ao62 x2_3.length co62] rfl (by (try simp only [List.map_toArray, List.map_cons, List.map_nil]); first | done | rfl | (simp only [List.length_drop, List.length_take]; rfl)) ?_; (with_reducible refine (impl_noneOpen.calls k3 x25_3 ((rd_T80 l0_1 x17_2).f0) a0_0 _ _ x2_3 false _ ?side1 ?side2 A19.out).mono ?_); (case side1 => repeat (first | exact (Kd.R_reads' HO_2.out).2.2 | (with_reducible refine Kd.C_alloc ?_ _) | (with_reducible refine Kd.C_drewN ?_ _) | (with_reducible refine Kd.C_drew ?_))); (case side2 => exact (Kd.R_reads' HO_2.out).2.1); rintro e w' ⟨rfl, ⟨nd, rfl⟩⟩; refine ⟨_, rfl, ?_⟩))
                              go_roundg k3
                              case measure => have := HK1.out; have := HK2.out; have := HK3.out; omega
                              case rel => exact ⟨(x2_3), (x7_3), (wrap64 (x25_3 + 1)), (by first | rfl | (simp; done) | (simp [*]; done)), (by first | rfl | (simp; done) | (simp [*]; done)), H', ⟨by have := HK1.out; have := HK2.out; have := HK3.out; omega⟩, ⟨by (with_reducible repeat (first | apply Kd.R_alloc | apply Kd.R_drewN | apply Kd.R_drew)); exact HO_2.out⟩, ⟨by (with_reducible repeat (first | refine blk_drewN ?_ _ | refine blk_drew ?_ | refine blk_alloc ?_ _)); exact BK888.out⟩, ⟨by (with_reducible repeat (first | refine blk_drewN ?_ _ | refine blk_drew ?_ | refine blk_alloc ?_ _)); exact BK889.out⟩, ⟨by (with_reducible repeat (first | refine blk_drewN ?_ _ | refine blk_drew ?_ | refine blk_alloc ?_ _)); exact BK891.out⟩, ⟨by repeat (first | (with_reducible first | exact HK.out | apply Kept.alloc | apply Kept.drewN | apply Kept.drew | refine Kept.setCell ?_ (.inr GW888.out) _ | refine Kept.setCell ?_ (.inr GW889.out) _ | refine Kept.setCell ?_ (.inr GW891.out) _) | exact HK.out)⟩, ⟨by repeat (first | (with_reducible first | exact HB.out | apply below_alloc | apply pw_below_drewN | apply below_drew1 | refine below_set ?_ GE888.out | refine below_set ?_ GE889.out | refine below_set ?_ GE891.out) | exact HB.out)⟩⟩
                          · rw [if_neg c18] at H
                            exact absurd H (by simp)
                        · rw [if_neg c17] at H
                          exact absurd H (by simp)
                      · rw [if_neg c16] at H
                        have c16b0 : decide (x25_3 < (((rd_T80 l0_1 x17_2).f1).length : Int)) = false := decide_eq_false c16
                        clear c16
                        have H' := Aside0.mk H
                        clear H
                        go_wp2
                        go_roundg k3
                        case measure => have := HK1.out; have := HK2.out; have := HK3.out; omega
                        case rel => exact ⟨(x2_3), (x7_3), (wrap64 (x17_2 + 1)), (by first | rfl | (simp; done) | (simp [*]; done)), (by first | rfl | (simp; done) | (simp [*]; done)), H', ⟨by have := HK1.out; have := HK2.out; have := HK3.out; omega⟩, ⟨by (with_reducible repeat (first | apply Kd.R_alloc | apply Kd.R_drewN | apply Kd.R_drew)); exact HO_2.out⟩, ⟨by (with_reducible repeat (first | refine blk_drewN ?_ _ | refine blk_drew ?_ | refine blk_alloc ?_ _)); exact BK888.out⟩, ⟨by (with_reducible repeat (first | refine blk_drewN ?_ _ | refine blk_drew ?_ | refine blk_alloc ?_ _)); exact BK889.out⟩, ⟨by repeat (first | (with_reducible first | exact HK.out | apply Kept.alloc | apply Kept.drewN | apply Kept.drew | refine Kept.setCell ?_ (.inr GW888.out) _ | refine Kept.setCell ?_ (.inr GW889.out) _ | refine Kept.setCell ?_ (.inr GW891.out) _) | exact HK.out)⟩, ⟨by repeat (first | (with_reducible first | exact HB.out | apply below_alloc | apply pw_below_drewN | apply below_drew1 | refine below_set ?_ GE888.out | refine below_set ?_ GE889.out | refine below_set ?_ GE891.out) | exact HB.out)⟩⟩
                · rw [if_neg c11] at H
                  exact absurd H (by simp)
              · rw [if_neg c10] at H
                exact absurd H (by simp)
            · rw [if_neg c9] at H
              have c9b0 : decide (x17_2 < (l0_1.length : Int)) = false := decide_eq_false c9
              clear c9
              have H' := Aside0.mk H
              clear H
              go_wp2
              go_roundg k2
              case measure => have := HK1.out; have := HK2.out; omega
              case rel => exact ⟨(x2_2), (x7_2), (by first | rfl | (simp; done) | (simp [*]; done)), H', ⟨by have := HK1.out; have := HK2.out; omega⟩, ⟨by (with_reducible repeat (first | apply Kd.R_alloc | apply Kd.R_drewN | apply Kd.R_drew)); exact HO_2.out⟩, ⟨by (with_reducible repeat (first | refine blk_drewN ?_ _ | refine blk_drew ?_ | refine blk_alloc ?_ _)); exact BK888.out⟩, ⟨by (with_reducible repeat (first | refine blk_drewN ?_ _ | refine blk_drew ?_ | refine blk_alloc ?_ _)); exact BK889.out⟩, ⟨by repeat (first | (with_reducible first | exact HK.out | apply Kept.alloc | apply Kept.drewN | apply Kept.drew | refine Kept.setCell ?_ (.inr GW888.out) _ | refine Kept.setCell ?_ (.inr GW889.out) _) | exact HK.out)⟩, ⟨by repeat (first | (with_reducible first | exact HB.out | apply below_alloc | apply pw_below_drewN | apply below_drew1 | refine below_set ?_ GE888.out | refine below_set ?_ GE889.out) | exact HB.out)⟩⟩
      · replace c6 := Bool.eq_false_iff.mpr c6
        subst c6
        have H1 : (some (true, x2_1)) = some (r1, r2) := by rw [if_neg (show ¬ (false = true) by decide)] at H; exact H
        clear H
        have H := H1
        clear H1
        simp only [Option.some.injEq, Prod.mk.injEq] at H
        obtain ⟨rfl, rfl⟩ := H
        go_wp2
        go_ret
        exact ⟨by first | rfl | (simp [errW_none, errW_some] <;> rfl) | (simp [*, errW_none, errW_some] <;> rfl), by (with_reducible repeat (first | apply Kd.R_alloc | apply Kd.R_drewN | apply Kd.R_drew)); exact HO_2.out, by repeat (first | (with_reducible first | exact HB.out | apply below_alloc | apply pw_below_drewN | apply below_drew1 | refine below_set ?_ GE888.out | refine below_set ?_ GE889.out) | exact HB.out), by repeat (first | (with_reducible first | exact HK.out | apply Kept.alloc | apply Kept.drewN | apply Kept.drew | refine Kept.setCell ?_ (.inr GW888.out) _ | refine Kept.setCell ?_ (.inr GW889.out) _) | exact HK.out)⟩
end Go.Proofs.Ytgockfnhgmlhoaa.Q

namespace Go.Proofs.Ytgockfnhgmlhoaa.Q
open Go.RowKit Go.Proofs.YtgockfnhgmlhoaaW.PrintWords Go.Proofs.YtgockfnhgmlhoaaW.PrintLast Go.Proofs.YtgockfnhgmlhoaaW.PrintMore
attribute [local go_sem] max2_int min2_int max_two min_two max_three min_three max_four min_four
set_option linter.unusedVariables false
set_option linter.unusedSimpArgs false
mutual
def impl_ClosePartial.j0 : Nat → List Int → Bool → Int → List (S80) → Int → List (S80) → Option (List Int × Bool)
  | 0, _, _, _, _, _, _ => none
  | k + 1, x2, x21, x901000, x901001, x902000, x902001 => if x21 = true then (some ((([] : List Int)), false)) else (impl_ClosePartial.l0 k x2 x2 (x2.length : Int) 0 x901000 x901001 x902000 x902001)
def impl_ClosePartial.l0 : Nat → List Int → List Int → Int → Int → Int → List (S80) → Int → List (S80) → Option (List Int × Bool)
  | 0, _, _, _, _, _, _, _, _ => none
  | k + 1, x2, x23, x24, x25, x901000, x901001, x902000, x902001 => if x25 < x24 then (if 0 ≤ x25 then (if x25 < (x23.length : Int) then (if (rd x23 x25) < (-1) then (some ((([] : List Int)), false)) else (if (rd x23 x25) ≥ x902000 then (some ((([] : List Int)), false)) else (impl_ClosePartial.l0 k x2 x23 x24 (wrap64 (x25 + 1)) x901000 x901001 x902000 x902001))) else (none)) else (none)) else ((impl_clone.f x2).bind fun t913 => ((impl_closeMap.f k x901000 x901001 x902000 x902001 t913).bind fun bt916 => (if bt916.1 = true then (some (bt916.2, true)) else (some ((([] : List Int)), false)))))
end
def impl_ClosePartial.f (k : Nat) (a0_0 : Int) (l0_1 : List (S80)) (a1_0 : Int) (l1_1 : List (S80)) (l2 : List Int) : Option (List Int × Bool) := (impl_areAlike.f k a0_0 l0_1 a1_0 l1_1).bind fun t902 => (if t902 = true then (impl_ClosePartial.j0 k l2 ((l2.length : Int) != a0_0) a0_0 l0_1 a1_0 l1_1) else (impl_ClosePartial.j0 k l2 true a0_0 l0_1 a1_0 l1_1))
theorem impl_ClosePartial.mono_l : ∀ k, (∀ y0 y1 y2 y3 y4 y5, LeO (impl_ClosePartial.j0 k y0 y1 y2 y3 y4 y5) (impl_ClosePartial.j0 (k + 1) y0 y1 y2 y3 y4 y5)) ∧ (∀ y0 y1 y2 y3 y4 y5 y6 y7, LeO (impl_ClosePartial.l0 k y0 y1 y2 y3 y4 y5 y6 y7) (impl_ClosePartial.l0 (k + 1) y0 y1 y2 y3 y4 y5 y6 y7))
  | 0 => ⟨fun _ _ _ _ _ _ r h => by simp [impl_ClosePartial.j0] at h, fun _ _ _ _ _ _ _ _ r h => by simp [impl_ClosePartial.l0] at h⟩
  | k + 1 => by
    obtain ⟨ih0, ih1⟩ := impl_ClosePartial.mono_l k
    refine ⟨?_, ?_⟩
    · intro y0 y1 y2 y3 y4 y5
      unfold impl_ClosePartial.j0
      repeat' first
      | (with_reducible exact ih0 _ _ _ _ _ _)
      | (with_reducible exact ih1 _ _ _ _ _ _ _ _)
      | (with_reducible exact impl_areAlike.mono _ _ _ _ _)
      | (with_reducible exact impl_closeMap.mono _ _ _ _ _ _)
      | (with_reducible exact LeO.refl _)
      | (with_reducible exact LeO.none _)
      | (with_reducible refine LeO.ite ?_ ?_)
      | (with_reducible refine LeO.bind ?_ (fun _ => ?_))
      | exact ih0 _ _ _ _ _ _
      | exact ih1 _ _ _ _ _ _ _ _
      | exact impl_areAlike.mono _ _ _ _ _
      | exact impl_closeMap.mono _ _ _ _ _ _
      | exact LeO.none _
      | refine LeO.ite ?_ ?_
      | refine LeO.bind ?_ (fun _ => ?_)
    · intro y0 y1 y2 y3 y4 y5 y6 y7
      unfold impl_ClosePartial.l0
      repeat' first
      | (with_reducible exact ih0 _ _ _ _ _ _)
      | (with_reducible exact ih1 _ _ _ _ _ _ _ _)
      | (with_reducible exact impl_areAlike.mono _ _ _ _ _)
      | (with_reducible exact impl_closeMap.mono _ _ _ _ _ _)
      | (with_reducible exact LeO.refl _)
      | (with_reducible exact LeO.none _)
      | (with_reducible refine LeO.ite ?_ ?_)
      | (with_reducible refine LeO.bind ?_ (fun _ => ?_))
      | exact ih0 _ _ _ _ _ _
      | exact ih1 _ _ _ _ _ _ _ _
      | exact impl_areAlike.mono _ _ _ _ _
      | exact impl_closeMap.mono _ _ _ _ _ _
      | exact LeO.none _
      | refine LeO.ite ?_ ?_
      | refine LeO.bind ?_ (fun _ => ?_)
theorem impl_ClosePartial.mono : ∀ a0 a1 a2 a3 a4 k, LeO (impl_ClosePartial.f k a0 a1 a2 a3 a4) (impl_ClosePartial.f (k + 1) a0 a1 a2 a3 a4) := by
  intro a0 a1 a2 a3 a4 k
  obtain ⟨ih0, ih1⟩ := impl_ClosePartial.mono_l k
  unfold impl_ClosePartial.f
  repeat' first
      | (with_reducible exact ih0 _ _ _ _ _ _)
      | (with_reducible exact ih1 _ _ _ _ _ _ _ _)
      | (with_reducible exact impl_areAlike.mono _ _ _ _ _)
      | (with_reducible exact impl_closeMap.mono _ _ _ _ _ _)
      | (with_reducible exact LeO.refl _)
      | (with_reducible exact LeO.none _)
      | (with_reducible refine LeO.ite ?_ ?_)
      | (with_reducible refine LeO.bind ?_ (fun _ => ?_))
      | exact ih0 _ _ _ _ _ _
      | exact ih1 _ _ _ _ _ _ _ _
      | exact impl_areAlike.mono _ _ _ _ _
      | exact impl_closeMap.mono _ _ _ _ _ _
      | exact LeO.none _
      | refine LeO.ite ?_ ?_
      | refine LeO.bind ?_ (fun _ => ?_)
set_option maxHeartbeats 8000000 in
set_option maxRecDepth 100000 in
theorem impl_ClosePartial.calls (k : Nat) (a0_0 : Int) (A0_1 : Option Addr) (c0_1 : Nat) (l0_1 : List (S80)) (a1_0 : Int) (A1_1 : Option Addr) (c1_1 : Nat) (l1_1 : List (S80)) (A2 : Option Addr) (c2 : Nat) (l2 : List Int) (r1 : List Int) (r2 : Bool) (w : World) (hr0_1 : Kd.C k80 w A0_1 l0_1.length l0_1) (hc0_1 : l0_1.length ≤ c0_1) (hr1_1 : Kd.C k80 w A1_1 l1_1.length l1_1) (hc1_1 : l1_1.length ≤ c1_1) (hr2 : Kd.C (Kd.int .i64) w A2 l2.length l2) (hc2 : l2.length ≤ c2) (h : impl_ClosePartial.f k a0_0 l0_1 a1_0 l1_1 l2 = some (r1, r2)) :
    Calls Try.prog 31 #[.agg #[.int .i64 a0_0, .slice A0_1 l0_1.length c0_1], .agg #[.int .i64 a1_0, .slice A1_1 l1_1.length c1_1], .slice A2 l2.length c2] w fun e w' => ∃ v0_ : Value, e = .returned (.tuple #[v0_, .bool r2]) ∧ Kd.R (Kd.int .i64) 3 w' w.heap.size (fun _ => True) v0_ r1 ∧ Below w.heap.size w w' := by
  have hu31 := Try.underlying31
  have HR0_1 := Aside0.mk hr0_1
  have HC0_1 := Aside0.mk hc0_1
  clear hr0_1 hc0_1
  have HR1_1 := Aside0.mk hr1_1
  have HC1_1 := Aside0.mk hc1_1
  clear hr1_1 hc1_1
  have HR2 := Aside0.mk hr2
  have HC2 := Aside0.mk hc2
  clear hr2 hc2
  have HB := Aside0.mk (Below.refl w.heap.size w)
  have H : ((impl_areAlike.f k a0_0 l0_1 a1_0 l1_1).bind fun t902 => (if t902 = true then (impl_ClosePartial.j0 k l2 ((l2.length : Int) != a0_0) a0_0 l0_1 a1_0 l1_1) else (impl_ClosePartial.j0 k l2 true a0_0 l0_1 a1_0 l1_1))) = some (r1, r2) := h
  clear h
  have HC4 := Aside0.mk H
  clear H
  go_enter Try.func31, Try.ntmps31
  go_upto_region 1 with (first | ((with_reducible refine gate_dst (N := 3) rfl ?_); (try (refine gate_guard (by rfl) ?_; dsimp only)); refine box_event ?hg (N := 3) ?hd (cs := #[.int .i64 a0_0, .slice A0_1 l0_1.length c0_1]) (t := 31) ?hr ?_; (case hd => rfl); (case hg => rfl); (case hr => first | (go_simp; done) | (go_simp; rfl)); intro gb900 hg w5 hbox hb; have n0_ := Aside0.mk (below_step (by repeat (first | (with_reducible first | exact HB.out | apply below_alloc | apply pw_below_drewN | apply below_drew1) | exact HB.out)) hb); have n1_ := Aside0.mk (hbox); have n2_ := Aside0.mk ((by rw [hg]; exact (below_size (by repeat (first | (with_reducible first | exact HB.out | apply below_alloc | apply pw_below_drewN | apply below_drew1) | exact HB.out))) : w.heap.size ≤ gb900)); have n3_ := Aside0.mk ((by rw [hg]; exact (below_size (by repeat (first | (with_reducible first | exact HB.out | apply below_alloc | apply pw_below_drewN | apply below_drew1) | exact HB.out))) : w.heap.size ≤ gb900)); clear HB; have HB := n0_; have BK900 := n1_; have GW900 := n2_; have GE900 := n3_; clear n0_ n1_ n2_ n3_; clear hb hbox hg) | ((with_reducible refine gate_dst (N := 4) rfl ?_); (try (refine gate_guard (by rfl) ?_; dsimp only)); refine box_event ?hg (N := 4) ?hd (cs := #[.int .i64 a1_0, .slice A1_1 l1_1.length c1_1]) (t := 31) ?hr ?_; (case hd => rfl); (case hg => rfl); (case hr => first | (go_simp; done) | (go_simp; rfl)); intro gb901 hg w6 hbox hb; have n0_ := Aside0.mk (blk_below (g := gb900) (o := .cells #[.int .i64 a0_0, .slice A0_1 l0_1.length c0_1] 31 (0, 0)) (by (with_reducible repeat (first | refine blk_drewN ?_ _ | refine blk_drew ?_ | refine blk_alloc ?_ _)); exact BK900.out) hb); have n1_ := Aside0.mk (below_step (by repeat (first | (with_reducible first | exact HB.out | apply below_alloc | apply pw_below_drewN | apply below_drew1 | refine below_set ?_ GE900.out) | exact HB.out)) hb); have n2_ := Aside0.mk (hbox); have n3_ := Aside0.mk ((by rw [hg]; exact (below_size (by repeat (first | (with_reducible first | exact HB.out | apply below_alloc | apply pw_below_drewN | apply below_drew1 | refine below_set ?_ GE900.out) | exact HB.out))) : w.heap.size ≤ gb901)); have n4_ := Aside0.mk ((by rw [hg]; exact (below_size (by repeat (first | (with_reducible first | exact HB.out | apply below_alloc | apply pw_below_drewN | apply below_drew1 | refine below_set ?_ GE900.out) | exact HB.out))) : w.heap.size ≤ gb901)); have n5_ := Aside0.mk ((by rw [hg]; exact Nat.ne_of_lt (blk_lt (g := gb900) (o := .cells #[.int .i64 a0_0, .slice A0_1 l0_1.length c0_1] 31 (0, 0)) (by (with_reducible repeat (first | refine blk_drewN ?_ _ | refine blk_drew ?_ | refine blk_alloc ?_ _)); exact BK900.out)) : gb900 ≠ gb901)); have n6_ := Aside0.mk ((by rw [hg]; exact Nat.ne_of_gt (blk_lt (g := gb900) (o := .cells #[.int .i64 a0_0, .slice A0_1 l0_1.length c0_1] 31 (0, 0)) (by (with_reducible repeat (first | refine blk_drewN ?_ _ | refine blk_drew ?_ | refine blk_alloc ?_ _)); exact BK900.out)) : gb901 ≠ gb900)); clear BK900; clear HB; have BK900 := n0_; have HB := n1_; have BK901 := n2_; have GW901 := n3_; have GE901 := n4_; have NB900_901 := n5_; have NB901_900 := n6_; clear n0_ n1_ n2_ n3_ n4_ n5_ n6_; clear hb hbox hg))
  (try simp only [Act.put, List.setIfInBounds_toArray, List.set_cons_zero, List.set_cons_succ])
  go_cut [21] (fun v21 wc => ∃ (kq : Nat) (x21_3 : Bool), v21 = .bool x21_3 ∧ Aside0 (impl_ClosePartial.j0 kq l2 x21_3 a0_0 l0_1 a1_0 l1_1 = some (r1, r2)) ∧ Aside0 (kq ≤ k) ∧ Aside0 (wc.heap[gb900]? = some (.cells #[.int .i64 a0_0, (.slice A0_1 l0_1.length c0_1)] 31 (0, 0))) ∧ Aside0 (wc.heap[gb901]? = some (.cells #[.int .i64 a1_0, (.slice A1_1 l1_1.length c1_1)] 31 (0, 0))) ∧ Aside0 (Below w.heap.size w wc))
  case first =>
    have H := HC4.out
    clear HC4
    replace H := Option.bind_eq_some_iff.mp H
    obtain ⟨t902, A70, H⟩ := H
    replace H : (if t902 = true then (impl_ClosePartial.j0 k l2 ((l2.length : Int) != a0_0) a0_0 l0_1 a1_0 l1_1) else (impl_ClosePartial.j0 k l2 true a0_0 l0_1 a1_0 l1_1)) = some (r1, r2) := H
    have A7 := Aside0.mk A70
    clear A70
    by_cases c8 : t902 = true
    · subst c8
      have H1 : (impl_ClosePartial.j0 k l2 ((l2.length : Int) != a0_0) a0_0 l0_1 a1_0 l1_1) = some (r1, r2) := by rw [if_pos rfl] at H; exact H
      clear H
      have H := H1
      clear H1
      have H' := Aside0.mk H
      clear H
      have hnb9 := NB900_901.out
      have hnc9 := NB901_900.out
      have hcz10_0 : w6.cell? ⟨gb900, 0, none⟩ = some (.int .i64 a0_0) := (blk_cell BK900.out 0).trans rfl
      have hcz10_1 : w6.cell? ⟨gb900, 1, none⟩ = some (.slice A0_1 l0_1.length c0_1) := (blk_cell BK900.out 1).trans rfl
      have hfz10_0 := blk_frozen BK900.out 0
      have hfz10_1 := blk_frozen BK900.out 1
      have hcz11_0 : w6.cell? ⟨gb901, 0, none⟩ = some (.int .i64 a1_0) := (blk_cell BK901.out 0).trans rfl
      have hcz11_1 : w6.cell? ⟨gb901, 1, none⟩ = some (.slice A1_1 l1_1.length c1_1) := (blk_cell BK901.out 1).trans rfl
      have hfz11_0 := blk_frozen BK901.out 0
      have hfz11_1 := blk_frozen BK901.out 1
      go_wp2_with (first | ((with_reducible refine gate_callee (f := 63) rfl ?_); refine goesL_ (some 13) rfl rfl Try.func63 (by kernel_rfl) rfl #[.agg #[.int .i64 a0_0, .slice A0_1 l0_1.length c0_1], .agg #[.int .i64 a1_0, .slice A1_1 l1_1.length c1_1]] rfl (by (try simp only [List.map_toArray, List.map_cons, List.map_nil]); first | done | rfl | (simp only [List.length_drop, List.length_take]; rfl)) ?_; (with_reducible refine (impl_areAlike.calls k a0_0 _ _ l0_1 a1_0 _ _ l1_1 true _ ?side1 ?side2 ?side3 ?side4 A7.out).mono ?_); (case side1 => repeat (first | exact (Kd.C_below HR0_1.out HB.out) | (with_reducible refine Kd.C_alloc ?_ _) | (with_reducible refine Kd.C_drewN ?_ _) | (with_reducible refine Kd.C_drew ?_))); (case side2 => exact HC0_1.out); (case side3 => repeat (first | exact (Kd.C_below HR1_1.out HB.out) | (with_reducible refine Kd.C_alloc ?_ _) | (with_reducible refine Kd.C_drewN ?_ _) | (with_reducible refine Kd.C_drew ?_))); (case side4 => exact HC1_1.out); rintro e w12 ⟨rfl, hb⟩; refine ⟨_, rfl, ?_⟩; have n0_ := Aside0.mk (blk_below (g := gb900) (o := .cells #[.int .i64 a0_0, .slice A0_1 l0_1.length c0_1] 31 (0, 0)) (by (with_reducible repeat (first | refine blk_drewN ?_ _ | refine blk_drew ?_ | refine blk_alloc ?_ _)); exact BK900.out) hb); have n1_ := Aside0.mk (blk_below (g := gb901) (o := .cells #[.int .i64 a1_0, .slice A1_1 l1_1.length c1_1] 31 (0, 0)) (by (with_reducible repeat (first | refine blk_drewN ?_ _ | refine blk_drew ?_ | refine blk_alloc ?_ _)); exact BK901.out) hb); have n2_ := Aside0.mk (below_step (by repeat (first | (with_reducible first | exact HB.out | apply below_alloc | apply pw_below_drewN | apply below_drew1 | refine below_set ?_ GE900.out | refine below_set ?_ GE901.out) | exact HB.out)) hb); clear BK900; clear BK901; clear HB; have BK900 := n0_; have BK901 := n1_; have HB := n2_; clear n0_ n1_ n2_; (try clear hb); (try clear hb2); (try clear hk); (try clear hi); have hcz13_0 : w12.cell? ⟨gb900, 0, none⟩ = some (.int .i64 a0_0) := (blk_cell BK900.out 0).trans rfl; have hcz13_1 : w12.cell? ⟨gb900, 1, none⟩ = some (.slice A0_1 l0_1.length c0_1) := (blk_cell BK900.out 1).trans rfl; have hfz13_0 := blk_frozen BK900.out 0; have hfz13_1 := blk_frozen BK900.out 1))
      go_meet
      case rel => exact ⟨_, (((l2.length : Int) != a0_0)), (by first | rfl | (simp; done) | (simp [*]; done)), H', ⟨by first | omega | exact Nat.le_refl _⟩, ⟨by (with_reducible repeat (first | refine blk_drewN ?_ _ | refine blk_drew ?_ | refine blk_alloc ?_ _)); exact BK900.out⟩, ⟨by (with_reducible repeat (first | refine blk_drewN ?_ _ | refine blk_drew ?_ | refine blk_alloc ?_ _)); exact BK901.out⟩, ⟨by repeat (first | (with_reducible first | exact HB.out | apply below_alloc | apply pw_below_drewN | apply below_drew1 | refine below_set ?_ GE900.out | refine below_set ?_ GE901.out) | exact HB.out)⟩⟩
    · replace c8 := Bool.eq_false_iff.mpr c8
      subst c8
      have H1 : (impl_ClosePartial.j0 k l2 true a0_0 l0_1 a1_0 l1_1) = some (r1, r2) := by rw [if_neg (show ¬ (false = true) by decide)] at H; exact H
      clear H
      have H := H1
      clear H1
      have H' := Aside0.mk H
      clear H
      have hnb14 := NB900_901.out
      have hnc14 := NB901_900.out
      have hcz15_0 : w6.cell? ⟨gb900, 0, none⟩ = some (.int .i64 a0_0) := (blk_cell BK900.out 0).trans rfl
      have hcz15_1 : w6.cell? ⟨gb900, 1, none⟩ = some (.slice A0_1 l0_1.length c0_1) := (blk_cell BK900.out 1).trans rfl
      have hfz15_0 := blk_frozen BK900.out 0
      have hfz15_1 := blk_frozen BK900.out 1
      have hcz16_0 : w6.cell? ⟨gb901, 0, none⟩ = some (.int .i64 a1_0) := (blk_cell BK901.out 0).trans rfl
      have hcz16_1 : w6.cell? ⟨gb901, 1, none⟩ = some (.slice A1_1 l1_1.length c1_1) := (blk_cell BK901.out 1).trans rfl
      have hfz16_0 := blk_frozen BK901.out 0
      have hfz16_1 := blk_frozen BK901.out 1
      go_wp2_with (first | ((with_reducible refine gate_callee (f := 63) rfl ?_); refine goesL_ (some 13) rfl rfl Try.func63 (by kernel_rfl) rfl #[.agg #[.int .i64 a0_0, .slice A0_1 l0_1.length c0_1], .agg #[.int .i64 a1_0, .slice A1_1 l1_1.length c1_1]] rfl (by (try simp only [List.map_toArray, List.map_cons, List.map_nil]); first | done | rfl | (simp only [List.length_drop, List.length_take]; rfl)) ?_; (with_reducible refine (impl_areAlike.calls k a0_0 _ _ l0_1 a1_0 _ _ l1_1 false _ ?side1 ?side2 ?side3 ?side4 A7.out).mono ?_); (case side1 => repeat (first | exact (Kd.C_below HR0_1.out HB.out) | (with_reducible refine Kd.C_alloc ?_ _) | (with_reducible refine Kd.C_drewN ?_ _) | (with_reducible refine Kd.C_drew ?_))); (case side2 => exact HC0_1.out); (case side3 => repeat (first | exact (Kd.C_below HR1_1.out HB.out) | (with_reducible refine Kd.C_alloc ?_ _) | (with_reducible refine Kd.C_drewN ?_ _) | (with_reducible refine Kd.C_drew ?_))); (case side4 => exact HC1_1.out); rintro e w17 ⟨rfl, hb⟩; refine ⟨_, rfl, ?_⟩; have n0_ := Aside0.mk (blk_below (g := gb900) (o := .cells #[.int .i64 a0_0, .slice A0_1 l0_1.length c0_1] 31 (0, 0)) (by (with_reducible repeat (first | refine blk_drewN ?_ _ | refine blk_drew ?_ | refine blk_alloc ?_ _)); exact BK900.out) hb); have n1_ := Aside0.mk (blk_below (g := gb901) (o := .cells #[.int .i64 a1_0, .slice A1_1 l1_1.length c1_1] 31 (0, 0)) (by (with_reducible repeat (first | refine blk_drewN ?_ _ | refine blk_drew ?_ | refine blk_alloc ?_ _)); exact BK901.out) hb); have n2_ := Aside0.mk (below_step (by repeat (first | (with_reducible first | exact HB.out | apply below_alloc | apply pw_below_drewN | apply below_drew1 | refine below_set ?_ GE900.out | refine below_set ?_ GE901.out) | exact HB.out)) hb); clear BK900; clear BK901; clear HB; have BK900 := n0_; have BK901 := n1_; have HB := n2_; clear n0_ n1_ n2_; (try clear hb); (try clear hb2); (try clear hk); (try clear hi)))
      go_meet
      case rel => exact ⟨_, (true), (by first | rfl | (simp; done) | (simp [*]; done)), H', ⟨by first | omega | exact Nat.le_refl _⟩, ⟨by (with_reducible repeat (first | refine blk_drewN ?_ _ | refine blk_drew ?_ | refine blk_alloc ?_ _)); exact BK900.out⟩, ⟨by (with_reducible repeat (first | refine blk_drewN ?_ _ | refine blk_drew ?_ | refine blk_alloc ?_ _)); exact BK901.out⟩, ⟨by repeat (first | (with_reducible first | exact HB.out | apply below_alloc | apply pw_below_drewN | apply below_drew1 | refine below_set ?_ GE900.out | refine below_set ?_ GE901.out) | exact HB.out)⟩⟩
  case rest =>
    clear HC4
    try clear c1
    try clear c2
    try clear p2
    try clear c3
    try clear c6
    try clear c8
    try clear c9
    try clear c14
    try clear hcz10_0
    try clear hcz10_1
    try clear hcz11_0
    try clear hcz11_1
    try clear hcz13_0
    try clear hcz13_1
    try clear hcz15_0
    try clear hcz15_1
    try clear hcz16_0
    try clear hcz16_1
    try clear hfz10_0
    try clear hfz10_1
    try clear hfz11_0
    try clear hfz11_1
    try clear hfz13_0
    try clear hfz13_1
    try clear hfz15_0
    try clear hfz15_1
    try clear hfz16_0
    try clear hfz16_1
    obtain ⟨kq, x21_3, rfl, HA, HJ3, BK900, BK901, HB⟩ := hcut
    cases kq with
    | zero => exact absurd HA.out (by simp [impl_ClosePartial.j0])
    | succ kj3 =>
      have H := HA.out
      clear HA
      simp only [impl_ClosePartial.j0] at H
      by_cases c18 : x21_3 = true
      · subst c18
        have H1 : (some ((([] : List Int)), false)) = some (r1, r2) := by rw [if_pos rfl] at H; exact H
        clear H
        have H := H1
        clear H1
        obtain ⟨y903, hy903⟩ : ∃ y_ : List Int, y_ = (([] : List Int)) := ⟨_, rfl⟩
        replace H : (some (y903, false)) = some (r1, r2) := by first | (rw [hy903]; with_reducible exact H) | (have H2_ := (Option.bind_some _ _).symm.trans H; rw [hy903]; with_reducible exact H2_) | (have H2_ := (Option.bind_some _ _).symm.trans H; with_reducible exact H2_) | with_reducible exact H | (rw [hy903]; exact H) | exact H
        have Ny903 := Aside0.mk hy903
        clear hy903
        simp only [Option.some.injEq, Prod.mk.injEq] at H
        obtain ⟨rfl, rfl⟩ := H
        go_wp2_with (first | ((with_reducible refine gate_dst (N := 22) rfl ?_); (try (refine gate_guard (by rfl) ?_; dsimp only)); refine Kd.R_lit (Kd.int .i64) _ 3 ?hg (N := 22) ?hd (xs := ([] : List Int)) (inner := []) (ok := fun _ => True) (okp := fun _ => True) ?hr ?hp (fun _ hk => hk) trivial (Below.refl _ _) (Nat.le_refl _) (by simp) ?_; (case hd => rfl); (case hg => rfl); (case hr => first | (go_simp; done) | (go_simp; rfl)); (case hp => exact (Reps.none _ _)); intro v904 w19 ho20 hb hg_ hnew_; clear hg_ hnew_; (first | rw [← Ny903.out] at ho20 | (simp only [Int.reduceToNat] at ho20; rw [← Ny903.out] at ho20)); have n0_ := Aside0.mk (Kd.R_lower ho20 (below_size (by repeat (first | (with_reducible first | exact HB.out | apply below_alloc | apply pw_below_drewN | apply below_drew1 | refine below_set ?_ GE900.out | refine below_set ?_ GE901.out) | exact HB.out)))); have n1_ := Aside0.mk (blk_below (g := gb900) (o := .cells #[.int .i64 a0_0, .slice A0_1 l0_1.length c0_1] 31 (0, 0)) (by (with_reducible repeat (first | refine blk_drewN ?_ _ | refine blk_drew ?_ | refine blk_alloc ?_ _)); exact BK900.out) hb); have n2_ := Aside0.mk (blk_below (g := gb901) (o := .cells #[.int .i64 a1_0, .slice A1_1 l1_1.length c1_1] 31 (0, 0)) (by (with_reducible repeat (first | refine blk_drewN ?_ _ | refine blk_drew ?_ | refine blk_alloc ?_ _)); exact BK901.out) hb); have n3_ := Aside0.mk (below_step (by repeat (first | (with_reducible first | exact HB.out | apply below_alloc | apply pw_below_drewN | apply below_drew1 | refine below_set ?_ GE900.out | refine below_set ?_ GE901.out) | exact HB.out)) hb); clear BK900; clear BK901; clear HB; have HO905 := n0_; have BK900 := n1_; have BK901 := n2_; have HB := n3_; clear n0_ n1_ n2_ n3_; clear hb ho20))
        go_ret2
        exact ⟨_, by first | rfl | (simp [errW_none, errW_some] <;> rfl) | (simp [*, errW_none, errW_some] <;> rfl), by (with_reducible repeat (first | apply Kd.R_alloc | apply Kd.R_drewN | apply Kd.R_drew)); exact HO905.out, by repeat (first | (with_reducible first | exact HB.out | apply below_alloc | apply pw_below_drewN | apply below_drew1 | refine below_set ?_ GE900.out | refine below_set ?_ GE901.out) | exact HB.out)⟩
      · replace c18 := Bool.eq_false_iff.mpr c18
        subst c18
        have H1 : (impl_ClosePartial.l0 kj3 l2 l2 (l2.length : Int) 0 a0_0 l0_1 a1_0 l1_1) = some (r1, r2) := by rw [if_neg (show ¬ (false = true) by decide)] at H; exact H
        clear H
        have H := H1
        clear H1
        have H' := Aside0.mk H
        clear H
        go_wp2
        go_loopg [25] kj3 (fun kq v25 w' => ∃ (x25_2 : Int), v25 = .int .i64 x25_2 ∧ Aside0 (impl_ClosePartial.l0 kq l2 l2 (l2.length : Int) x25_2 a0_0 l0_1 a1_0 l1_1 = some (r1, r2)) ∧ Aside0 (kq ≤ kj3) ∧ Aside0 (w'.heap[gb900]? = some (.cells #[.int .i64 a0_0, (.slice A0_1 l0_1.length c0_1)] 31 (0, 0))) ∧ Aside0 (w'.heap[gb901]? = some (.cells #[.int .i64 a1_0, (.slice A1_1 l1_1.length c1_1)] 31 (0, 0))) ∧ Aside0 (Below w.heap.size w w'))
        case atStart => exact ⟨(0), (by first | rfl | (simp; done) | (simp [*]; done)), H', ⟨Nat.le_refl _⟩, ⟨by (with_reducible repeat (first | refine blk_drewN ?_ _ | refine blk_drew ?_ | refine blk_alloc ?_ _)); exact BK900.out⟩, ⟨by (with_reducible repeat (first | refine blk_drewN ?_ _ | refine blk_drew ?_ | refine blk_alloc ?_ _)); exact BK901.out⟩, ⟨by repeat (first | (with_reducible first | exact HB.out | apply below_alloc | apply pw_below_drewN | apply below_drew1 | refine below_set ?_ GE900.out | refine below_set ?_ GE901.out) | exact HB.out)⟩⟩
        case round =>
          clear H'
          try clear c1
          try clear c2
          try clear p2
          try clear c3
          try clear c6
          try clear c8
          try clear c9
          try clear c14
          try clear c18
          try clear hcz10_0
          try clear hcz10_1
          try clear hcz11_0
          try clear hcz11_1
          try clear hcz13_0
          try clear hcz13_1
          try clear hcz15_0
          try clear hcz15_1
          try clear hcz16_0
          try clear hcz16_1
          try clear hfz10_0
          try clear hfz10_1
          try clear hfz11_0
          try clear hfz11_1
          try clear hfz13_0
          try clear hfz13_1
          try clear hfz15_0
          try clear hfz15_1
          try clear hfz16_0
          try clear hfz16_1
          try clear p2
          obtain ⟨x25_2, rfl, HA, HK2, BK900, BK901, HB⟩ := hrel
          cases gk with
          | zero => exact absurd HA.out (by simp [impl_ClosePartial.l0])
          | succ k2 =>
            have H := HA.out
            clear HA
            simp only [impl_ClosePartial.l0] at H
            by_cases c21 : x25_2 < (l2.length : Int)
            · rw [if_pos c21] at H
              have c21b0 : decide (x25_2 < (l2.length : Int)) = true := decide_eq_true c21
              clear c21
              by_cases c22 : 0 ≤ x25_2
              · rw [if_pos c22] at H
                have c22b0 : decide (0 ≤ x25_2) = true := decide_eq_true c22
                clear c22
                by_cases c23 : x25_2 < (l2.length : Int)
                · rw [if_pos c23] at H
                  have c23b0 : decide (x25_2 < (l2.length : Int)) = true := decide_eq_true c23
                  clear c23
                  by_cases c24 : (rd l2 x25_2) < (-1)
                  · rw [if_pos c24] at H
                    have c24b0 : decide ((rd l2 x25_2) < (-1)) = true := decide_eq_true c24
                    clear c24
                    obtain ⟨y907, hy907⟩ : ∃ y_ : List Int, y_ = (([] : List Int)) := ⟨_, rfl⟩
                    replace H : (some (y907, false)) = some (r1, r2) := by first | (rw [hy907]; with_reducible exact H) | (have H2_ := (Option.bind_some _ _).symm.trans H; rw [hy907]; with_reducible exact H2_) | (have H2_ := (Option.bind_some _ _).symm.trans H; with_reducible exact H2_) | with_reducible exact H | (rw [hy907]; exact H) | exact H
                    have Ny907 := Aside0.mk hy907
                    clear hy907
                    simp only [Option.some.injEq, Prod.mk.injEq] at H
                    obtain ⟨rfl, rfl⟩ := H
                    have p906 : 0 ≤ (x25_2 : Int) := of_decide_eq_true (by first | (with_reducible assumption) | assumption)
                    have q906 : x25_2 < (l2.length : Int) := of_decide_eq_true (by first | (with_reducible assumption) | assumption)
                    obtain ⟨ad906, e906, hx906_0⟩ := Kd.at_int HR2.out x25_2 p906 q906
                    cases e906
                    replace hx906_0 := (HB.out.cell (World.block_lt_of_cell? w _ hx906_0)).trans hx906_0
                    replace p906 := eq_true p906
                    replace q906 := eq_true q906
                    go_wp2_with (first | ((with_reducible refine gate_dst (N := 37) rfl ?_); (try (refine gate_guard (by rfl) ?_; dsimp only)); refine Kd.R_lit (Kd.int .i64) _ 3 ?hg (N := 37) ?hd (xs := ([] : List Int)) (inner := []) (ok := fun _ => True) (okp := fun _ => True) ?hr ?hp (fun _ hk => hk) trivial (Below.refl _ _) (Nat.le_refl _) (by simp) ?_; (case hd => rfl); (case hg => rfl); (case hr => first | (go_simp; done) | (go_simp; rfl)); (case hp => exact (Reps.none _ _)); intro v908 w25 ho26 hb hg_ hnew_; clear hg_ hnew_; (first | rw [← Ny907.out] at ho26 | (simp only [Int.reduceToNat] at ho26; rw [← Ny907.out] at ho26)); have n0_ := Aside0.mk (Kd.R_lower ho26 (below_size (by repeat (first | (with_reducible first | exact HB.out | apply below_alloc | apply pw_below_drewN | apply below_drew1 | refine below_set ?_ GE900.out | refine below_set ?_ GE901.out) | exact HB.out)))); have n1_ := Aside0.mk (blk_below (g := gb900) (o := .cells #[.int .i64 a0_0, .slice A0_1 l0_1.length c0_1] 31 (0, 0)) (by (with_reducible repeat (first | refine blk_drewN ?_ _ | refine blk_drew ?_ | refine blk_alloc ?_ _)); exact BK900.out) hb); have n2_ := Aside0.mk (blk_below (g := gb901) (o := .cells #[.int .i64 a1_0, .slice A1_1 l1_1.length c1_1] 31 (0, 0)) (by (with_reducible repeat (first | refine blk_drewN ?_ _ | refine blk_drew ?_ | refine blk_alloc ?_ _)); exact BK901.out) hb); have n3_ := Aside0.mk (below_step (by repeat (first | (with_reducible first | exact HB.out | apply below_alloc | apply pw_below_drewN | apply below_drew1 | refine below_set ?_ GE900.out | refine below_set ?_ GE901.out) | exact HB.out)) hb); clear BK900; clear BK901; clear HB; have HO909 := n0_; have BK900 := n1_; have BK901 := n2_; have HB := n3_; clear n0_ n1_ n2_ n3_; clear hb ho26))
                    go_ret2
                    exact ⟨_, by first | rfl | (simp [errW_none, errW_some] <;> rfl) | (simp [*, errW_none, errW_some] <;> rfl), by (with_reducible repeat (first | apply Kd.R_alloc | apply Kd.R_drewN | apply Kd.R_drew)); exact HO909.out, by repeat (first | (with_reducible first | exact HB.out | apply below_alloc | apply pw_below_drewN | apply below_drew1 | refine below_set ?_ GE900.out | refine below_set ?_ GE901.out) | exact HB.out)⟩
                  · rw [if_neg c24] at H
                    have c24b0 : decide ((rd l2 x25_2) < (-1)) = false := decide_eq_false c24
                    clear c24
                    by_cases c27 : (rd l2 x25_2) ≥ a1_0
                    · rw [if_pos c27] at H
                      have c27b0 : decide (a1_0 ≤ (rd l2 x25_2)) = true := decide_eq_true c27
                      clear c27
                      obtain ⟨y910, hy910⟩ : ∃ y_ : List Int, y_ = (([] : List Int)) := ⟨_, rfl⟩
                      replace H : (some (y910, false)) = some (r1, r2) := by first | (rw [hy910]; with_reducible exact H) | (have H2_ := (Option.bind_some _ _).symm.trans H; rw [hy910]; with_reducible exact H2_) | (have H2_ := (Option.bind_some _ _).symm.trans H; with_reducible exact H2_) | with_reducible exact H | (rw [hy910]; exact H) | exact H
                      have Ny910 := Aside0.mk hy910
                      clear hy910
                      simp only [Option.some.injEq, Prod.mk.injEq] at H
                      obtain ⟨rfl, rfl⟩ := H
                      have p906 : 0 ≤ (x25_2 : Int) := of_decide_eq_true (by first | (with_reducible assumption) | assumption)
                      have q906 : x25_2 < (l2.length : Int) := of_decide_eq_true (by first | (with_reducible assumption) | assumption)
                      obtain ⟨ad906, e906, hx906_0⟩ := Kd.at_int HR2.out x25_2 p906 q906
                      cases e906
                      replace hx906_0 := (HB.out.cell (World.block_lt_of_cell? w _ hx906_0)).trans hx906_0
                      replace p906 := eq_true p906
                      replace q906 := eq_true q906
                      have hnb28 := NB901_900.out
                      have hnc28 := NB900_901.out
                      have hcz29_0 : wr.cell? ⟨gb901, 0, none⟩ = some (.int .i64 a1_0) := (blk_cell BK901.out 0).trans rfl
                      have hcz29_1 : wr.cell? ⟨gb901, 1, none⟩ = some (.slice A1_1 l1_1.length c1_1) := (blk_cell BK901.out 1).trans rfl
                      have hfz29_0 := blk_frozen BK901.out 0
                      have hfz29_1 := blk_frozen BK901.out 1
                      go_wp2_with (first | ((with_reducible refine gate_dst (N := 37) rfl ?_); (try (refine gate_guard (by rfl) ?_; dsimp only)); refine Kd.R_lit (Kd.int .i64) _ 3 ?hg (N := 37) ?hd (xs := ([] : List Int)) (inner := []) (ok := fun _ => True) (okp := fun _ => True) ?hr ?hp (fun _ hk => hk) trivial (Below.refl _ _) (Nat.le_refl _) (by simp) ?_; (case hd => rfl); (case hg => rfl); (case hr => first | (go_simp; done) | (go_simp; rfl)); (case hp => exact (Reps.none _ _)); intro v911 w30 ho31 hb hg_ hnew_; clear hg_ hnew_; (first | rw [← Ny910.out] at ho31 | (simp only [Int.reduceToNat] at ho31; rw [← Ny910.out] at ho31)); have n0_ := Aside0.mk (Kd.R_lower ho31 (below_size (by repeat (first | (with_reducible first | exact HB.out | apply below_alloc | apply pw_below_drewN | apply below_drew1 | refine below_set ?_ GE900.out | refine below_set ?_ GE901.out) | exact HB.out)))); have n1_ := Aside0.mk (blk_below (g := gb900) (o := .cells #[.int .i64 a0_0, .slice A0_1 l0_1.length c0_1] 31 (0, 0)) (by (with_reducible repeat (first | refine blk_drewN ?_ _ | refine blk_drew ?_ | refine blk_alloc ?_ _)); exact BK900.out) hb); have n2_ := Aside0.mk (blk_below (g := gb901) (o := .cells #[.int .i64 a1_0, .slice A1_1 l1_1.length c1_1] 31 (0, 0)) (by (with_reducible repeat (first | refine blk_drewN ?_ _ | refine blk_drew ?_ | refine blk_alloc ?_ _)); exact BK901.out) hb); have n3_ := Aside0.mk (below_step (by repeat (first | (with_reducible first | exact HB.out | apply below_alloc | apply pw_below_drewN | apply below_drew1 | refine below_set ?_ GE900.out | refine below_set ?_ GE901.out) | exact HB.out)) hb); clear BK900; clear BK901; clear HB; have HO912 := n0_; have BK900 := n1_; have BK901 := n2_; have HB := n3_; clear n0_ n1_ n2_ n3_; clear hb ho31))
                      go_ret2
                      exact ⟨_, by first | rfl | (simp [errW_none, errW_some] <;> rfl) | (simp [*, errW_none, errW_some] <;> rfl), by (with_reducible repeat (first | apply Kd.R_alloc | apply Kd.R_drewN | apply Kd.R_drew)); exact HO912.out, by repeat (first | (with_reducible first | exact HB.out | apply below_alloc | apply pw_below_drewN | apply below_drew1 | refine below_set ?_ GE900.out | refine below_set ?_ GE901.out) | exact HB.out)⟩
                    · rw [if_neg c27] at H
                      have c27b0 : decide (a1_0 ≤ (rd l2 x25_2)) = false := decide_eq_false c27
                      clear c27
                      have H' := Aside0.mk H
                      clear H
                      have p906 : 0 ≤ (x25_2 : Int) := of_decide_eq_true (by first | (with_reducible assumption) | assumption)
                      have q906 : x25_2 < (l2.length : Int) := of_decide_eq_true (by first | (with_reducible assumption) | assumption)
                      obtain ⟨ad906, e906, hx906_0⟩ := Kd.at_int HR2.out x25_2 p906 q906
                      cases e906
                      replace hx906_0 := (HB.out.cell (World.block_lt_of_cell? w _ hx906_0)).trans hx906_0
                      replace p906 := eq_true p906
                      replace q906 := eq_true q906
                      have hnb32 := NB901_900.out
                      have hnc32 := NB900_901.out
                      have hcz33_0 : wr.cell? ⟨gb901, 0, none⟩ = some (.int .i64 a1_0) := (blk_cell BK901.out 0).trans rfl
                      have hcz33_1 : wr.cell? ⟨gb901, 1, none⟩ = some (.slice A1_1 l1_1.length c1_1) := (blk_cell BK901.out 1).trans rfl
                      have hfz33_0 := blk_frozen BK901.out 0
                      have hfz33_1 := blk_frozen BK901.out 1
                      go_wp2
                      go_roundg k2
                      case measure => have := HJ3.out; have := HK2.out; omega
                      case rel => exact ⟨(wrap64 (x25_2 + 1)), (by first | rfl | (simp; done) | (simp [*]; done)), H', ⟨by have := HJ3.out; have := HK2.out; omega⟩, ⟨by (with_reducible repeat (first | refine blk_drewN ?_ _ | refine blk_drew ?_ | refine blk_alloc ?_ _)); exact BK900.out⟩, ⟨by (with_reducible repeat (first | refine blk_drewN ?_ _ | refine blk_drew ?_ | refine blk_alloc ?_ _)); exact BK901.out⟩, ⟨by repeat (first | (with_reducible first | exact HB.out | apply below_alloc | apply pw_below_drewN | apply below_drew1 | refine below_set ?_ GE900.out | refine below_set ?_ GE901.out) | exact HB.out)⟩⟩
                · rw [if_neg c23] at H
                  exact absurd H (by simp)
              · rw [if_neg c22] at H
                exact absurd H (by simp)
            · rw [if_neg c21] at H
              have c21b0 : decide (x25_2 < (l2.length : Int)) = false := decide_eq_false c21
              clear c21
              replace H := Option.bind_eq_some_iff.mp H
              obtain ⟨t913, A340, H⟩ := H
              replace H : ((impl_closeMap.f k2 a0_0 l0_1 a1_0 l1_1 t913).bind fun bt916 => (if bt916.1 = true then (some (bt916.2, true)) else (some ((([] : List Int)), false)))) = some (r1, r2) := H
              have A34 := Aside0.mk A340
              clear A340
              replace H := Option.bind_eq_some_iff.mp H
              obtain ⟨⟨t916, t917⟩, A350, H⟩ := H
              replace H : (if t916 = true then (some (t917, true)) else (some ((([] : List Int)), false))) = some (r1, r2) := H
              have A35 := Aside0.mk A350
              clear A350
              by_cases c36 : t916 = true
              · subst c36
                have H1 : (some (t917, true)) = some (r1, r2) := by rw [if_pos rfl] at H; exact H
                clear H
                have H := H1
                clear H1
                simp only [Option.some.injEq, Prod.mk.injEq] at H
                obtain ⟨rfl, rfl⟩ := H
                go_wp2_with (first | ((with_reducible refine gate_callee (f := 64) rfl ?_); refine goesL_ (some 40) rfl rfl Try.func64 (by kernel_rfl) rfl #[.slice A2 l2.length c2] rfl (by (try simp only [List.map_toArray, List.map_cons, List.map_nil]); first | done | rfl | (simp only [List.length_drop, List.length_take]; rfl)) ?_; (with_reducible refine (impl_clone.calls _ _ l2 t913 _ ?side1 ?side2 A34.out).mono ?_); (case side1 => repeat (first | exact (Kd.C_below HR2.out HB.out) | (with_reducible refine Kd.C_alloc ?_ _) | (with_reducible refine Kd.C_drewN ?_ _) | (with_reducible refine Kd.C_drew ?_))); (case side2 => exact HC2.out); rintro e w37 ⟨v914, rfl, ho0, hb⟩; refine ⟨_, rfl, ?_⟩; have n0_ := Aside0.mk (Kd.R_lower ho0 (below_size (by repeat (first | (with_reducible first | exact HB.out | apply below_alloc | apply pw_below_drewN | apply below_drew1 | refine below_set ?_ GE900.out | refine below_set ?_ GE901.out) | exact HB.out)))); have n1_ := Aside0.mk (blk_below (g := gb900) (o := .cells #[.int .i64 a0_0, .slice A0_1 l0_1.length c0_1] 31 (0, 0)) (by (with_reducible repeat (first | refine blk_drewN ?_ _ | refine blk_drew ?_ | refine blk_alloc ?_ _)); exact BK900.out) hb); have n2_ := Aside0.mk (blk_below (g := gb901) (o := .cells #[.int .i64 a1_0, .slice A1_1 l1_1.length c1_1] 31 (0, 0)) (by (with_reducible repeat (first | refine blk_drewN ?_ _ | refine blk_drew ?_ | refine blk_alloc ?_ _)); exact BK901.out) hb); have n3_ := Aside0.mk (below_step (by repeat (first | (with_reducible first | exact HB.out | apply below_alloc | apply pw_below_drewN | apply below_drew1 | refine below_set ?_ GE900.out | refine below_set ?_ GE901.out) | exact HB.out)) hb); clear BK900; clear BK901; clear HB; have HO915 := n0_; have BK900 := n1_; have BK901 := n2_; have HB := n3_; clear n0_ n1_ n2_ n3_; (try clear hb); (try clear hb2); (try clear hk); (try clear hi); (try clear ho0); have hnb38 := NB900_901.out; have hnc38 := NB901_900.out; have hcz39_0 : w37.cell? ⟨gb900, 0, none⟩ = some (.int .i64 a0_0) := (blk_cell BK900.out 0).trans rfl; have hcz39_1 : w37.cell? ⟨gb900, 1, none⟩ = some (.slice A0_1 l0_1.length c0_1) := (blk_cell BK900.out 1).trans rfl; have hfz39_0 := blk_frozen BK900.out 0; have hfz39_1 := blk_frozen BK900.out 1; have hcz40_0 : w37.cell? ⟨gb901, 0, none⟩ = some (.int .i64 a1_0) := (blk_cell BK901.out 0).trans rfl; have hcz40_1 : w37.cell? ⟨gb901, 1, none⟩ = some (.slice A1_1 l1_1.length c1_1) := (blk_cell BK901.out 1).trans rfl; have hfz40_0 := blk_frozen BK901.out 0; have hfz40_1 := blk_frozen BK901.out 1; obtain ⟨Ao41, co41, eo41⟩ := Kd.R_slice HO915.out; subst eo41) | ((with_reducible refine gate_callee (f := 65) rfl ?_); refine goesL_ (some 44) rfl rfl Try.func65 (by kernel_rfl) rfl #[.agg #[.int .i64 a0_0, .slice A0_1 l0_1.length c0_1], .agg #[.int .i64 a1_0, .slice A1_1 l1_1.length c1_1], .slice Ao41 t913.length co41] rfl (by (try simp only [List.map_toArray, List.map_cons, List.map_nil]); first | done | rfl | (simp only [List.length_drop, List.length_take]; rfl)) ?_; (with_reducible refine (impl_closeMap.calls k2 a0_0 _ _ l0_1 a1_0 _ _ l1_1 (fun k_ => some k_ = (.slice Ao41 t913.length co41 : Value).ownBlock) (.slice Ao41 t913.length co41) t913 true t917 w _ ?side1 ?side2 ?side3 ?side4 ?side5 ?side6 A35.out).mono ?_); (case side1 => repeat (first | (with_reducible first | exact HB.out | apply below_alloc | apply pw_below_drewN | apply below_drew1 | refine below_set ?_ GE900.out | refine below_set ?_ GE901.out) | exact HB.out)); (case side2 => exact HR0_1.out); (case side3 => exact HC0_1.out); (case side4 => exact HR1_1.out); (case side5 => exact HC1_1.out); (case side6 => exact Kd.R_tight rfl HO915.out); rintro e w42 ⟨rfl, hy0, hb, hkp⟩; refine ⟨_, rfl, ?_⟩; have n0_ := Aside0.mk (blk_kept (by (with_reducible repeat (first | refine blk_drewN ?_ _ | refine blk_drew ?_ | refine blk_alloc ?_ _)); exact BK900.out) hkp (fun hs_ => (fun e_ => (Kd.R_ne HO915.out BK900.out (by decide)) e_) hs_)); have n1_ := Aside0.mk (blk_kept (by (with_reducible repeat (first | refine blk_drewN ?_ _ | refine blk_drew ?_ | refine blk_alloc ?_ _)); exact BK901.out) hkp (fun hs_ => (fun e_ => (Kd.R_ne HO915.out BK901.out (by decide)) e_) hs_)); have n2_ := Aside0.mk (Kd.R_reok rfl hy0 (fun k_ e_ => HO915.out.1 k_ e_)); have n3_ := Aside0.mk (hb); clear BK900; clear BK901; clear HO915; clear HB; have BK900 := n0_; have BK901 := n1_; have HO915 := n2_; have HB := n3_; clear n0_ n1_ n2_ n3_; (try clear hb); (try clear hkp); (try clear hy0)))
                go_ret2
                exact ⟨_, by first | rfl | (simp [errW_none, errW_some] <;> rfl) | (simp [*, errW_none, errW_some] <;> rfl), by (with_reducible repeat (first | apply Kd.R_alloc | apply Kd.R_drewN | apply Kd.R_drew)); exact HO915.out, by repeat (first | (with_reducible first | exact HB.out | apply below_alloc | apply pw_below_drewN | apply below_drew1 | refine below_set ?_ GE900.out | refine below_set ?_ GE901.out) | exact HB.out)⟩
              · replace c36 := Bool.eq_false_iff.mpr c36
                subst c36
                have H1 : (some ((([] : List Int)), false)) = some (r1, r2) := by rw [if_neg (show ¬ (false = true) by decide)] at H; exact H
                clear H
                have H := H1
                clear H1
                obtain ⟨y918, hy918⟩ : ∃ y_ : List Int, y_ = (([] : List Int)) := ⟨_, rfl⟩
                replace H : (some (y918, false)) = some (r1, r2) := by first | (rw [hy918]; with_reducible exact H) | (have H2_ := (Option.bind_some _ _).symm.trans H; rw [hy918]; with_reducible exact H2_) | (have H2_ := (Option.bind_some _ _).symm.trans H; with_reducible exact H2_) | with_reducible exact H | (rw [hy918]; exact H) | exact H
                have Ny918 := Aside0.mk hy918
                clear hy918
                simp only [Option.some.injEq, Prod.mk.injEq] at H
                obtain ⟨rfl, rfl⟩ := H
                go_wp2_with (first | ((with_reducible refine gate_callee (f := 64) rfl ?_); refine goesL_ (some 40) rfl rfl Try.func64 (by kernel_rfl) rfl #[.slice A2 l2.length c2] rfl (by (try simp only [List.map_toArray, List.map_cons, List.map_nil]); first | done | rfl | (simp only [List.length_drop, List.length_take]; rfl)) ?_; (with_reducible refine (impl_clone.calls _ _ l2 t913 _ ?side1 ?side2 A34.out).mono ?_); (case side1 => repeat (first | exact (Kd.C_below HR2.out HB.out) | (with_reducible refine Kd.C_alloc ?_ _) | (with_reducible refine Kd.C_drewN ?_ _) | (with_reducible refine Kd.C_drew ?_))); (case side2 => exact HC2.out); rintro e w43 ⟨v914, rfl, ho0, hb⟩; refine ⟨_, rfl, ?_⟩; have n0_ := Aside0.mk (Kd.R_lower ho0 (below_size (by repeat (first | (with_reducible first | exact HB.out | apply below_alloc | apply pw_below_drewN | apply below_drew1 | refine below_set ?_ GE900.out | refine below_set ?_ GE901.out) | exact HB.out)))); have n1_ := Aside0.mk (blk_below (g := gb900) (o := .cells #[.int .i64 a0_0, .slice A0_1 l0_1.length c0_1] 31 (0, 0)) (by (with_reducible repeat (first | refine blk_drewN ?_ _ | refine blk_drew ?_ | refine blk_alloc ?_ _)); exact BK900.out) hb); have n2_ := Aside0.mk (blk_below (g := gb901) (o := .cells #[.int .i64 a1_0, .slice A1_1 l1_1.length c1_1] 31 (0, 0)) (by (with_reducible repeat (first | refine blk_drewN ?_ _ | refine blk_drew ?_ | refine blk_alloc ?_ _)); exact BK901.out) hb); have n3_ := Aside0.mk (below_step (by repeat (first | (with_reducible first | exact HB.out | apply below_alloc | apply pw_below_drewN | apply below_drew1 | refine below_set ?_ GE900.out | refine below_set ?_ GE901.out) | exact HB.out)) hb); clear BK900; clear BK901; clear HB; have HO915 := n0_; have BK900 := n1_; have BK901 := n2_; have HB := n3_; clear n0_ n1_ n2_ n3_; (try clear hb); (try clear hb2); (try clear hk); (try clear hi); (try clear ho0); have hnb44 := NB900_901.out; have hnc44 := NB901_900.out; have hcz45_0 : w43.cell? ⟨gb900, 0, none⟩ = some (.int .i64 a0_0) := (blk_cell BK900.out 0).trans rfl; have hcz45_1 : w43.cell? ⟨gb900, 1, none⟩ = some (.slice A0_1 l0_1.length c0_1) := (blk_cell BK900.out 1).trans rfl; have hfz45_0 := blk_frozen BK900.out 0; have hfz45_1 := blk_frozen BK900.out 1; have hcz46_0 : w43.cell? ⟨gb901, 0, none⟩ = some (.int .i64 a1_0) := (blk_cell BK901.out 0).trans rfl; have hcz46_1 : w43.cell? ⟨gb901, 1, none⟩ = some (.slice A1_1 l1_1.length c1_1) := (blk_cell BK901.out 1).trans rfl; have hfz46_0 := blk_frozen BK901.out 0; have hfz46_1 := blk_frozen BK901.out 1; obtain ⟨Ao47, co47, eo47⟩ := Kd.R_slice HO915.out; subst eo47) | ((with_reducible refine gate_callee (f := 65) rfl ?_); refine goesL_ (some 44) rfl rfl Try.func65 (by kernel_rfl) rfl #[.agg #[.int .i64 a0_0, .slice A0_1 l0_1.length c0_1], .agg #[.int .i64 a1_0, .slice A1_1 l1_1.length c1_1], .slice Ao47 t913.length co47] rfl (by (try simp only [List.map_toArray, List.map_cons, List.map_nil]); first | done | rfl | (simp only [List.length_drop, List.length_take]; rfl)) ?_; (with_reducible refine (impl_closeMap.calls k2 a0_0 _ _ l0_1 a1_0 _ _ l1_1 (fun k_ => some k_ = (.slice Ao47 t913.length co47 : Value).ownBlock) (.slice Ao47 t913.length co47) t913 false t917 w _ ?side1 ?side2 ?side3 ?side4 ?side5 ?side6 A35.out).mono ?_); (case side1 => repeat (first | (with_reducible first | exact HB.out | apply below_alloc | apply pw_below_drewN | apply below_drew1 | refine below_set ?_ GE900.out | refine below_set ?_ GE901.out) | exact HB.out)); (case side2 => exact HR0_1.out); (case side3 => exact HC0_1.out); (case side4 => exact HR1_1.out); (case side5 => exact HC1_1.out); (case side6 => exact Kd.R_tight rfl HO915.out); rintro e w48 ⟨rfl, hy0, hb, hkp⟩; refine ⟨_, rfl, ?_⟩; have n0_ := Aside0.mk (blk_kept (by (with_reducible repeat (first | refine blk_drewN ?_ _ | refine blk_drew ?_ | refine blk_alloc ?_ _)); exact BK900.out) hkp (fun hs_ => (fun e_ => (Kd.R_ne HO915.out BK900.out (by decide)) e_) hs_)); have n1_ := Aside0.mk (blk_kept (by (with_reducible repeat (first | refine blk_drewN ?_ _ | refine blk_drew ?_ | refine blk_alloc ?_ _)); exact BK901.out) hkp (fun hs_ => (fun e_ => (Kd.R_ne HO915.out BK901.out (by decide)) e_) hs_)); have n2_ := Aside0.mk (Kd.R_reok rfl hy0 (fun k_ e_ => HO915.out.1 k_ e_)); have n3_ := Aside0.mk (hb); clear BK900; clear BK901; clear HO915; clear HB; have BK900 := n0_; have BK901 := n1_; have HO915 := n2_; have HB := n3_; clear n0_ n1_ n2_ n3_; (try clear hb); (try clear hkp); (try clear hy0)) | ((with_reducible refine gate_dst (N := 46) rfl ?_); (try (refine gate_guard (by rfl) ?_; dsimp only)); refine Kd.R_lit (Kd.int .i64) _ 3 ?hg (N := 46) ?hd (xs := ([] : List Int)) (inner := []) (ok := fun _ => True) (okp := fun _ => True) ?hr ?hp (fun _ hk => hk) trivial (Below.refl _ _) (Nat.le_refl _) (by simp) ?_; (case hd => rfl); (case hg => rfl); (case hr => first | (go_simp; done) | (go_simp; rfl)); (case hp => exact (Reps.none _ _)); intro v919 w49 ho50 hb hg_ hnew_; clear hg_ hnew_; (first | rw [← Ny918.out] at ho50 | (simp only [Int.reduceToNat] at ho50; rw [← Ny918.out] at ho50)); have n0_ := Aside0.mk (Kd.R_elder' (by (with_reducible repeat (first | apply Kd.R_alloc | apply Kd.R_drewN | apply Kd.R_drew)); exact HO915.out) (Kd.R_base ho50) hb); have n1_ := Aside0.mk (Kd.R_lower (Kd.R_new' ho50 (Kd.R_lt (by (with_reducible repeat (first | apply Kd.R_alloc | apply Kd.R_drewN | apply Kd.R_drew)); exact HO915.out))) (below_size (by repeat (first | (with_reducible first | exact HB.out | apply below_alloc | apply pw_below_drewN | apply below_drew1 | refine below_set ?_ GE900.out | refine below_set ?_ GE901.out) | exact HB.out)))); have n2_ := Aside0.mk (blk_below (g := gb900) (o := .cells #[.int .i64 a0_0, .slice A0_1 l0_1.length c0_1] 31 (0, 0)) (by (with_reducible repeat (first | refine blk_drewN ?_ _ | refine blk_drew ?_ | refine blk_alloc ?_ _)); exact BK900.out) hb); have n3_ := Aside0.mk (blk_below (g := gb901) (o := .cells #[.int .i64 a1_0, .slice A1_1 l1_1.length c1_1] 31 (0, 0)) (by (with_reducible repeat (first | refine blk_drewN ?_ _ | refine blk_drew ?_ | refine blk_alloc ?_ _)); exact BK901.out) hb); have n4_ := Aside0.mk (below_step (by repeat (first | (with_reducible first | exact HB.out | apply below_alloc | apply pw_below_drewN | apply below_drew1 | refine below_set ?_ GE900.out | refine below_set ?_ GE901.out) | exact HB.out)) hb); clear HO915; clear BK900; clear BK901; clear HB; have HO915 := n0_; have HO920 := n1_; have BK900 := n2_; have BK901 := n3_; have HB := n4_; clear n0_ n1_ n2_ n3_ n4_; clear hb ho50))
                go_ret2
                exact ⟨_, by first | rfl | (simp [errW_none, errW_some] <;> rfl) | (simp [*, errW_none, errW_some] <;> rfl), by (with_reducible repeat (first | apply Kd.R_alloc | apply Kd.R_drewN | apply Kd.R_drew)); exact Kd.R_mono HO920.out (fun _ hk => trivial), by repeat (first | (with_reducible first | exact HB.out | apply below_alloc | apply pw_below_drewN | apply below_drew1 | refine below_set ?_ GE900.out | refine below_set ?_ GE901.out) | exact HB.out)⟩
end Go.Proofs.Ytgockfnhgmlhoaa.Q

namespace Go.Proofs.Ytgockfnhgmlhoaa.Live
open Go.RowKit Go.Proofs.YtgockfnhgmlhoaaW.PrintWords Go.Proofs.YtgockfnhgmlhoaaW.PrintLast
set_option linter.unusedVariables false
structure Part where
  lo : Nat
  hi : Nat
  P : World → Prop
def Seg (w : World) (x : Part) : Prop := ∀ w' : World, (∀ k, x.lo ≤ k → k < x.hi → w'.heap[k]? = w.heap[k]?) → x.P w'
def Live (w : World) (L : List Part) : Prop := (∀ x ∈ L, x.lo ≤ x.hi ∧ x.hi ≤ w.heap.size ∧ Seg w x) ∧ L.Pairwise (fun new old => old.hi ≤ new.lo)
theorem Live.nil (w : World) : Live w [] := ⟨fun x hx => by simp at hx, List.Pairwise.nil⟩
theorem Live.get {w : World} {L : List Part} (h : Live w L) (i : Nat) {x : Part} (hi : L[i]? = some x) : x.P w :=
  (h.1 x (List.mem_of_getElem? hi)).2.2 w (fun _ _ _ => rfl)
theorem Seg.kept {w w' : World} {x : Part} {S : Nat → Prop} (h : Seg w x) (hk : Kept w w' S) (hh : x.hi ≤ w.heap.size) (hs : ∀ k, x.lo ≤ k → k < x.hi → ¬ S k) : Seg w' x :=
  fun w2 h2 => h w2 (fun k h3 h4 => (h2 k h3 h4).trans (hk.2 k (by omega) (hs k h3 h4)))
theorem Live.kept {w w' : World} {L : List Part} {S : Nat → Prop} (h : Live w L) (hk : Kept w w' S) (hs : ∀ x ∈ L, ∀ k, x.lo ≤ k → k < x.hi → ¬ S k) : Live w' L :=
  ⟨fun x hx => ⟨(h.1 x hx).1, Nat.le_trans (h.1 x hx).2.1 hk.1, (h.1 x hx).2.2.kept hk (h.1 x hx).2.1 (hs x hx)⟩, h.2⟩
theorem Live.below {w w' : World} {L : List Part} (h : Live w L) (hb : Below w.heap.size w w') : Live w' L :=
  h.kept (Kept.of_below hb (fun _ => False)) (fun _ _ _ _ _ hf => hf)
theorem Live.drew {w : World} {L : List Part} (h : Live w L) : Live w.drew L := h
theorem Live.make {w w' : World} {L : List Part} (h : Live w L) (hb : Below w.heap.size w w') {P : World → Prop} (hP : Seg w' ⟨w.heap.size, w'.heap.size, P⟩) : Live w' (⟨w.heap.size, w'.heap.size, P⟩ :: L) := by
  have h1 := h.below hb
  refine ⟨fun x hx => ?_, List.Pairwise.cons (fun x hx => (h.1 x hx).2.1) h1.2⟩
  rcases List.mem_cons.1 hx with rfl | hx
  · exact ⟨hb.size, Nat.le_refl _, hP⟩
  · exact h1.1 x hx
theorem pairwise_set {L : List Part} (h : L.Pairwise (fun new old => old.hi ≤ new.lo)) (i : Nat) {x y : Part} (hi : L[i]? = some x) (h1 : y.lo = x.lo) (h2 : y.hi = x.hi) : (L.set i y).Pairwise (fun new old => old.hi ≤ new.lo) := by
  rw [List.pairwise_iff_getElem] at h ⊢
  obtain ⟨hil, hx⟩ := List.getElem?_eq_some_iff.1 hi
  have key : ∀ (j : Nat) (hj : j < (L.set i y).length), ((L.set i y)[j]).lo = (L[j]'(by simpa using hj)).lo ∧ ((L.set i y)[j]).hi = (L[j]'(by simpa using hj)).hi := by
    intro j hj
    rw [List.getElem_set]
    split
    · rename_i e
      subst e
      rw [h1, h2, ← hx]
      exact ⟨rfl, rfl⟩
    · exact ⟨rfl, rfl⟩
  intro a b ha hb hab
  rw [(key a ha).1, (key b hb).2]
  exact h a b (by simpa using ha) (by simpa using hb) hab
theorem Live.mark {w w' : World} {L : List Part} (h : Live w L) (i : Nat) {x : Part} (hi : L[i]? = some x) (hk : Kept w w' (fun k => x.lo ≤ k ∧ k < x.hi)) {P' : World → Prop} (hP : Seg w' ⟨x.lo, x.hi, P'⟩) : Live w' (L.set i ⟨x.lo, x.hi, P'⟩) := by
  have hp := h.2
  rw [List.pairwise_iff_getElem] at hp
  obtain ⟨hil, hx⟩ := List.getElem?_eq_some_iff.1 hi
  refine ⟨fun y hy => ?_, pairwise_set h.2 i hi rfl rfl⟩
  obtain ⟨j, hj⟩ := List.getElem?_of_mem hy
  rw [List.getElem?_set] at hj
  by_cases e : i = j
  · subst e
    rw [if_pos rfl, if_pos hil] at hj
    injection hj with hj
    subst hj
    have hm := h.1 x (List.mem_of_getElem? hi)
    exact ⟨hm.1, Nat.le_trans hm.2.1 hk.1, hP⟩
  · rw [if_neg e] at hj
    obtain ⟨hjl, hjx⟩ := List.getElem?_eq_some_iff.1 hj
    have hm := h.1 y (List.mem_of_getElem? hj)
    refine ⟨hm.1, Nat.le_trans hm.2.1 hk.1, hm.2.2.kept hk hm.2.1 (fun k h3 h4 h5 => ?_)⟩
    rcases Nat.lt_or_ge i j with h6 | h6
    · have := hp i j hil hjl h6
      rw [hx, hjx] at this
      omega
    · have := hp j i hjl hil (by omega)
      rw [hx, hjx] at this
      omega
theorem Live.make_box {w : World} {L : List Part} (h : Live w L) (o : Obj) (g : Nat) (hg : g = w.heap.size) : ∃ lo hi, Live (w.alloc o) (⟨lo, hi, fun w => w.heap[g]? = some o ∧ lo ≤ g ∧ g < hi⟩ :: L) :=
  ⟨w.heap.size, (w.alloc o).heap.size, h.make (below_alloc (Below.refl _ _) o) (fun w' hw => by subst hg; exact ⟨(hw _ (Nat.le_refl _) (by simp)).trans (heap_alloc_new w o), Nat.le_refl _, by simp⟩)⟩
theorem Live.make_S {α : Type} {d : Kd α} {e base : Nat} {ok : Nat → Prop} {v : Value} {xs : List α} {w w' : World} {L : List Part} (h : Live w L) (hb : Below w.heap.size w w') (ho : Kd.S d e w' w.heap.size ok v xs) (hbase : base ≤ w.heap.size) :
    ∃ lo hi, Live w' (⟨lo, hi, fun w => Kd.S d e w base (fun k => lo ≤ k ∧ k < hi) v xs⟩ :: L) :=
  ⟨_, _, h.make hb (fun w2 hw => Kd.S_lower (Kd.S_move (Kd.S_mono (Kd.S_bound ho) (fun k hk => ⟨hk.2.1, hk.2.2.1⟩)) (fun k hk => hw k hk.1 hk.2)) hbase)⟩
theorem Live.make_R {α : Type} {d : Kd α} {e base : Nat} {ok : Nat → Prop} {v : Value} {xs : List α} {w w' : World} {L : List Part} (h : Live w L) (hb : Below w.heap.size w w') (ho : d.R e w' w.heap.size ok v xs) (hbase : base ≤ w.heap.size) :
    ∃ lo hi, Live w' (⟨lo, hi, fun w => d.R e w base (fun k => lo ≤ k ∧ k < hi) v xs⟩ :: L) :=
  ⟨_, _, h.make hb (fun w2 hw => Kd.R_lower (Kd.R_move (Kd.R_mono (Kd.R_bound ho) (fun k hk => ⟨hk.2.1, hk.2.2.1⟩)) (fun k hk => hw k hk.1 hk.2)) hbase)⟩
section
variable {α : Type} {d : Kd α} {e base lo hi : Nat} {w : World} {ok : Nat → Prop} {v : Value} {xs : List α}
theorem seg_R {base' : Nat} (h : d.R e w base ok v xs) (hok : ∀ k, ok k → base ≤ k → k < w.heap.size → lo ≤ k ∧ k < hi) (hb : base' ≤ base) : Seg w ⟨lo, hi, fun w => d.R e w base' (fun k => lo ≤ k ∧ k < hi) v xs⟩ := fun w' hw =>
  Kd.R_lower (Kd.R_move (Kd.R_mono (Kd.R_bound h) (fun k hk => hok k hk.1 hk.2.1 hk.2.2.1)) (fun k hk => hw k hk.1 hk.2)) hb
theorem seg_S {base' : Nat} (h : Kd.S d e w base ok v xs) (hok : ∀ k, ok k → base ≤ k → k < w.heap.size → lo ≤ k ∧ k < hi) (hb : base' ≤ base) : Seg w ⟨lo, hi, fun w => Kd.S d e w base' (fun k => lo ≤ k ∧ k < hi) v xs⟩ := fun w' hw =>
  Kd.S_lower (Kd.S_move (Kd.S_mono (Kd.S_bound h) (fun k hk => hok k hk.1 hk.2.1 hk.2.2.1)) (fun k hk => hw k hk.1 hk.2)) hb
end
end Go.Proofs.Ytgockfnhgmlhoaa.Live

namespace Go.Proofs.Ytgockfnhgmlhoaa
open Go.RowKit Go.Proofs.YtgockfnhgmlhoaaW.PrintWords Go.Proofs.YtgockfnhgmlhoaaW.PrintLast Go.Proofs.YtgockfnhgmlhoaaW.PrintMore Go.Proofs.Ytgockfnhgmlhoaa.Live Go.Proofs.Ytgockfnhgmlhoaa.Q
def Stmt.FnExactClosePartial : Prop := ∀ (a0 : Int) (l0 : List (Q.S77)) (a1 : Int) (l1 : List (Q.S77)) (l2 : List (Int)), (Lit.int .i64 a0).wf = true → l0.length ≤ maxLen → (∀ x ∈ l0, (Lit.int .i64 x.f0).wf = true ∧ x.f1.length ≤ maxLen ∧ ∀ y_x ∈ x.f1, (Lit.int .i64 y_x).wf = true) → (Lit.int .i64 a1).wf = true → l1.length ≤ maxLen → (∀ x ∈ l1, (Lit.int .i64 x.f0).wf = true ∧ x.f1.length ≤ maxLen ∧ ∀ y_x ∈ x.f1, (Lit.int .i64 y_x).wf = true) → l2.length ≤ maxLen → (∀ x ∈ l2, (Lit.int .i64 x).wf = true) → l2.length ≤ 1048576 → ∃ k : Nat, ∃ t0 : Int, laws_szAlgebra.f k a0 l0 1048576 = some t0 ∧ (0 ≤ t0 → ∃ t1 : Int, laws_szAlgebra.f k a1 l1 t0 = some t1 ∧ (0 ≤ t1 → ∃ (X0 : Int) (X1 : List (S80)) (X2 : Int) (X3 : List (S80)) (X4 : List Int) (X5 : List Int) (X6 : Bool), laws_toAlgebra.f k a0 l0 = some (X0, X1) ∧ laws_toAlgebra.f k a1 l1 = some (X2, X3) ∧ laws_toIntS.f k l2 = some X4 ∧ spec_ClosePartial.f k X0 X1 X2 X3 X4 = some (X5, X6) ∧ impl_ClosePartial.f k X0 X1 X2 X3 X4 = some (X5, X6) ∧ laws_eqIntS.f k X5 X5 = some true ∧ laws_eqAlgebra.f k X0 X1 X0 X1 = some true ∧ laws_eqAlgebra.f k X2 X3 X2 X3 = some true ∧ laws_eqIntS.f k X4 X4 = some true ∧ laws_markIntS.f k X4 ((1 + (totO X1 : Int)) + (totO X3 : Int)) = some (((((1 + (totO X1 : Int)) + (totO X3 : Int)) + (X4.length : Int))), (asc X4.length ((1 + (totO X1 : Int)) + (totO X3 : Int)))) ∧ laws_markIntS.f k X5 1 = some (((1 + (X5.length : Int))), (asc X5.length 1)) ∧ laws_heldIntS.f k (asc X5.length 1) 1 = some (1 + (X5.length : Int)) ∧ (1 + (totO X1 : Int)) ≤ 4611686018427387904 ∧ ((1 + (totO X1 : Int)) + (totO X3 : Int)) ≤ 4611686018427387904))
end Go.Proofs.Ytgockfnhgmlhoaa
