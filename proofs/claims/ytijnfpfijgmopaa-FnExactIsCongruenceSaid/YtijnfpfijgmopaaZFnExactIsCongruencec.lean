/- Part 3 of the proof of the law FnExactIsCongruence: functions and lists that say what the Go code computes, and that it does; no condition beside those that each theorem states. -/
import Derived.Test.YtijnfpfijgmopaaZFnExactIsCongruenceb
namespace Go.Proofs.Ytijnfpfijgmopaa.Q
open Go.RowKit Go.Proofs.YtijnfpfijgmopaaW.PrintWords Go.Proofs.YtijnfpfijgmopaaW.PrintLast Go.Proofs.YtijnfpfijgmopaaW.PrintMore
attribute [local go_sem] max2_int min2_int max_two min_two max_three min_three max_four min_four
set_option linter.unusedVariables false
set_option linter.unusedSimpArgs false
mutual
def impl_closePartition.l0 : Nat → List Int → Bool → Bool → Int → List (S87) → Option (Bool × List Int)
  | 0, _, _, _, _, _ => none
  | k + 1, x1, x5, x6, x1135000, x1135001 => if x6 = true then (impl_closePartition.l1 k x1 x5 false x1135001 (x1135001.length : Int) 0 x1135000 x1135001) else (some (x5, x1))
def impl_closePartition.l1 : Nat → List Int → Bool → Bool → List (S87) → Int → Int → Int → List (S87) → Option (Bool × List Int)
  | 0, _, _, _, _, _, _, _, _ => none
  | k + 1, x1, x5, x6, x16, x17, x18, x1135000, x1135001 => if x18 < x17 then (if 0 ≤ x18 then (if x18 < (x16.length : Int) then (impl_closePartition.l2 k x1 x5 x6 1 0 x16 x17 x18 x1135000 x1135001 ((rd_T87 x16 x18).f0) ((rd_T87 x16 x18).f1)) else (none)) else (none)) else (impl_closePartition.l0 k x1 x5 x6 x1135000 x1135001)
def impl_closePartition.l2 : Nat → List Int → Bool → Bool → Int → Int → List (S87) → Int → Int → Int → List (S87) → Int → List Int → Option (Bool × List Int)
  | 0, _, _, _, _, _, _, _, _, _, _, _, _ => none
  | k + 1, x1, x5, x6, x9, x10, x16, x17, x18, x1135000, x1135001, x1137000, x1137001 => if x10 < x1137000 then (impl_closePartition.l3 k x1 x5 x6 x9 x10 x16 x17 x18 x1137001 (x1137001.length : Int) 0 x1135000 x1135001 x1137000 x1137001) else (impl_closePartition.l1 k x1 x5 x6 x16 x17 (wrap64 (x18 + 1)) x1135000 x1135001)
def impl_closePartition.l3 : Nat → List Int → Bool → Bool → Int → Int → List (S87) → Int → Int → List Int → Int → Int → Int → List (S87) → Int → List Int → Option (Bool × List Int)
  | 0, _, _, _, _, _, _, _, _, _, _, _, _, _, _, _ => none
  | k + 1, x1, x5, x6, x9, x10, x16, x17, x18, x29, x30, x31, x1135000, x1135001, x1137000, x1137001 => if x31 < x30 then (if 0 ≤ x31 then (if x31 < (x29.length : Int) then (if x9 = 0 then (none) else (if x1135000 = 0 then (none) else (if 0 ≤ (Int.tmod (wrap64 (Int.tdiv x31 x9)) x1135000) then (if (Int.tmod (wrap64 (Int.tdiv x31 x9)) x1135000) < (x1.length : Int) then (if 0 ≤ (wrap64 (x31 + (wrap64 ((wrap64 ((rd x1 (Int.tmod (wrap64 (Int.tdiv x31 x9)) x1135000)) - (Int.tmod (wrap64 (Int.tdiv x31 x9)) x1135000))) * x9)))) then (if (wrap64 (x31 + (wrap64 ((wrap64 ((rd x1 (Int.tmod (wrap64 (Int.tdiv x31 x9)) x1135000)) - (Int.tmod (wrap64 (Int.tdiv x31 x9)) x1135000))) * x9)))) < (x1137001.length : Int) then ((impl_unite.f k x1 (rd x29 x31) (rd x1137001 (wrap64 (x31 + (wrap64 ((wrap64 ((rd x1 (Int.tmod (wrap64 (Int.tdiv x31 x9)) x1135000)) - (Int.tmod (wrap64 (Int.tdiv x31 x9)) x1135000))) * x9)))))).bind fun bt1140 => (if bt1140.1 = true then (impl_closePartition.l3 k bt1140.2 true true x9 x10 x16 x17 x18 x29 x30 (wrap64 (x31 + 1)) x1135000 x1135001 x1137000 x1137001) else (impl_closePartition.l3 k bt1140.2 x5 x6 x9 x10 x16 x17 x18 x29 x30 (wrap64 (x31 + 1)) x1135000 x1135001 x1137000 x1137001))) else (none)) else (none)) else (none)) else (none)))) else (none)) else (none)) else (impl_closePartition.l2 k x1 x5 x6 (wrap64 (x9 * x1135000)) (wrap64 (x10 + 1)) x16 x17 x18 x1135000 x1135001 x1137000 x1137001)
end
def impl_closePartition.f (k : Nat) (a0_0 : Int) (l0_1 : List (S87)) (l1 : List Int) : Option (Bool × List Int) := impl_closePartition.l0 k l1 false true a0_0 l0_1
theorem impl_closePartition.mono_l : ∀ k, (∀ y0 y1 y2 y3 y4, LeO (impl_closePartition.l0 k y0 y1 y2 y3 y4) (impl_closePartition.l0 (k + 1) y0 y1 y2 y3 y4)) ∧ (∀ y0 y1 y2 y3 y4 y5 y6 y7, LeO (impl_closePartition.l1 k y0 y1 y2 y3 y4 y5 y6 y7) (impl_closePartition.l1 (k + 1) y0 y1 y2 y3 y4 y5 y6 y7)) ∧ (∀ y0 y1 y2 y3 y4 y5 y6 y7 y8 y9 y10 y11, LeO (impl_closePartition.l2 k y0 y1 y2 y3 y4 y5 y6 y7 y8 y9 y10 y11) (impl_closePartition.l2 (k + 1) y0 y1 y2 y3 y4 y5 y6 y7 y8 y9 y10 y11)) ∧ (∀ y0 y1 y2 y3 y4 y5 y6 y7 y8 y9 y10 y11 y12 y13 y14, LeO (impl_closePartition.l3 k y0 y1 y2 y3 y4 y5 y6 y7 y8 y9 y10 y11 y12 y13 y14) (impl_closePartition.l3 (k + 1) y0 y1 y2 y3 y4 y5 y6 y7 y8 y9 y10 y11 y12 y13 y14))
  | 0 => ⟨fun _ _ _ _ _ r h => by simp [impl_closePartition.l0] at h, fun _ _ _ _ _ _ _ _ r h => by simp [impl_closePartition.l1] at h, fun _ _ _ _ _ _ _ _ _ _ _ _ r h => by simp [impl_closePartition.l2] at h, fun _ _ _ _ _ _ _ _ _ _ _ _ _ _ _ r h => by simp [impl_closePartition.l3] at h⟩
  | k + 1 => by
    obtain ⟨ih0, ih1, ih2, ih3⟩ := impl_closePartition.mono_l k
    refine ⟨?_, ?_, ?_, ?_⟩
    · intro y0 y1 y2 y3 y4
      unfold impl_closePartition.l0
      repeat' first
      | (with_reducible exact ih0 _ _ _ _ _)
      | (with_reducible exact ih1 _ _ _ _ _ _ _ _)
      | (with_reducible exact ih2 _ _ _ _ _ _ _ _ _ _ _ _)
      | (with_reducible exact ih3 _ _ _ _ _ _ _ _ _ _ _ _ _ _ _)
      | (with_reducible exact impl_unite.mono _ _ _ _)
      | (with_reducible exact LeO.refl _)
      | (with_reducible exact LeO.none _)
      | (with_reducible refine LeO.ite ?_ ?_)
      | (with_reducible refine LeO.bind ?_ (fun _ => ?_))
      | exact ih0 _ _ _ _ _
      | exact ih1 _ _ _ _ _ _ _ _
      | exact ih2 _ _ _ _ _ _ _ _ _ _ _ _
      | exact ih3 _ _ _ _ _ _ _ _ _ _ _ _ _ _ _
      | exact impl_unite.mono _ _ _ _
      | exact LeO.none _
      | refine LeO.ite ?_ ?_
      | refine LeO.bind ?_ (fun _ => ?_)
    · intro y0 y1 y2 y3 y4 y5 y6 y7
      unfold impl_closePartition.l1
      repeat' first
      | (with_reducible exact ih0 _ _ _ _ _)
      | (with_reducible exact ih1 _ _ _ _ _ _ _ _)
      | (with_reducible exact ih2 _ _ _ _ _ _ _ _ _ _ _ _)
      | (with_reducible exact ih3 _ _ _ _ _ _ _ _ _ _ _ _ _ _ _)
      | (with_reducible exact impl_unite.mono _ _ _ _)
      | (with_reducible exact LeO.refl _)
      | (with_reducible exact LeO.none _)
      | (with_reducible refine LeO.ite ?_ ?_)
      | (with_reducible refine LeO.bind ?_ (fun _ => ?_))
      | exact ih0 _ _ _ _ _
      | exact ih1 _ _ _ _ _ _ _ _
      | exact ih2 _ _ _ _ _ _ _ _ _ _ _ _
      | exact ih3 _ _ _ _ _ _ _ _ _ _ _ _ _ _ _
      | exact impl_unite.mono _ _ _ _
      | exact LeO.none _
      | refine LeO.ite ?_ ?_
      | refine LeO.bind ?_ (fun _ => ?_)
    · intro y0 y1 y2 y3 y4 y5 y6 y7 y8 y9 y10 y11
      unfold impl_closePartition.l2
      repeat' first
      | (with_reducible exact ih0 _ _ _ _ _)
      | (with_reducible exact ih1 _ _ _ _ _ _ _ _)
      | (with_reducible exact ih2 _ _ _ _ _ _ _ _ _ _ _ _)
      | (with_reducible exact ih3 _ _ _ _ _ _ _ _ _ _ _ _ _ _ _)
      | (with_reducible exact impl_unite.mono _ _ _ _)
      | (with_reducible exact LeO.refl _)
      | (with_reducible exact LeO.none _)
      | (with_reducible refine LeO.ite ?_ ?_)
      | (with_reducible refine LeO.bind ?_ (fun _ => ?_))
      | exact ih0 _ _ _ _ _
      | exact ih1 _ _ _ _ _ _ _ _
      | exact ih2 _ _ _ _ _ _ _ _ _ _ _ _
      | exact ih3 _ _ _ _ _ _ _ _ _ _ _ _ _ _ _
      | exact impl_unite.mono _ _ _ _
      | exact LeO.none _
      | refine LeO.ite ?_ ?_
      | refine LeO.bind ?_ (fun _ => ?_)
    · intro y0 y1 y2 y3 y4 y5 y6 y7 y8 y9 y10 y11 y12 y13 y14
      unfold impl_closePartition.l3
      repeat' first
      | (with_reducible exact ih0 _ _ _ _ _)
      | (with_reducible exact ih1 _ _ _ _ _ _ _ _)
      | (with_reducible exact ih2 _ _ _ _ _ _ _ _ _ _ _ _)
      | (with_reducible exact ih3 _ _ _ _ _ _ _ _ _ _ _ _ _ _ _)
      | (with_reducible exact impl_unite.mono _ _ _ _)
      | (with_reducible exact LeO.refl _)
      | (with_reducible exact LeO.none _)
      | (with_reducible refine LeO.ite ?_ ?_)
      | (with_reducible refine LeO.bind ?_ (fun _ => ?_))
      | exact ih0 _ _ _ _ _
      | exact ih1 _ _ _ _ _ _ _ _
      | exact ih2 _ _ _ _ _ _ _ _ _ _ _ _
      | exact ih3 _ _ _ _ _ _ _ _ _ _ _ _ _ _ _
      | exact impl_unite.mono _ _ _ _
      | exact LeO.none _
      | refine LeO.ite ?_ ?_
      | refine LeO.bind ?_ (fun _ => ?_)
theorem impl_closePartition.mono : ∀ a0 a1 a2 k, LeO (impl_closePartition.f k a0 a1 a2) (impl_closePartition.f (k + 1) a0 a1 a2) := by
  intro a0 a1 a2 k
  obtain ⟨ih0, ih1, ih2, ih3⟩ := impl_closePartition.mono_l k
  unfold impl_closePartition.f
  repeat' first
      | (with_reducible exact ih0 _ _ _ _ _)
      | (with_reducible exact ih1 _ _ _ _ _ _ _ _)
      | (with_reducible exact ih2 _ _ _ _ _ _ _ _ _ _ _ _)
      | (with_reducible exact ih3 _ _ _ _ _ _ _ _ _ _ _ _ _ _ _)
      | (with_reducible exact impl_unite.mono _ _ _ _)
      | (with_reducible exact LeO.refl _)
      | (with_reducible exact LeO.none _)
      | (with_reducible refine LeO.ite ?_ ?_)
      | (with_reducible refine LeO.bind ?_ (fun _ => ?_))
      | exact ih0 _ _ _ _ _
      | exact ih1 _ _ _ _ _ _ _ _
      | exact ih2 _ _ _ _ _ _ _ _ _ _ _ _
      | exact ih3 _ _ _ _ _ _ _ _ _ _ _ _ _ _ _
      | exact impl_unite.mono _ _ _ _
      | exact LeO.none _
      | refine LeO.ite ?_ ?_
      | refine LeO.bind ?_ (fun _ => ?_)
def impl_closePartition.T16 : Bool × List (List Nat × List Nat) := (true, [([], []), ([], []), ([], []), ([2], [2]), ([], []), ([], []), ([], []), ([5, 6], [5, 6]), ([7], [7]), ([], []), ([8, 9], [8, 9]), ([], []), ([10, 11], [10, 11]), ([4, 12], [4, 12]), ([3, 13], [3, 13]), ([14], [14]), ([0, 1, 15], [0, 1, 15])])
def impl_closePartition.B16 : List Nat := [0, 0, 0, 4, 0, 0, 0, 96, 224, 0, 992, 0, 4064, 8176, 16380, 32764, 65535]
theorem impl_closePartition.tab16 : rtab .any (opsOf Try.f154 16) = impl_closePartition.T16 := by kernel_rfl
theorem impl_closePartition.bits16 : waitsOk impl_closePartition.T16.2 impl_closePartition.B16 = true := by kernel_rfl
set_option maxHeartbeats 8000000 in
set_option maxRecDepth 100000 in
theorem impl_closePartition.calls (k : Nat) (a0_0 : Int) (A0_1 : Option Addr) (c0_1 : Nat) (l0_1 : List (S87)) (P1_ : Nat → Prop) (u9000_ : Value) (l1 : List Int) (r1 : Bool) (r2 : List Int) (w0 w : World) (hB : Below w0.heap.size w0 w) (hr0_1 : Kd.C k87 w0 A0_1 l0_1.length l0_1) (hc0_1 : l0_1.length ≤ c0_1) (ho1 : Kd.R (Kd.int .i64) 3 w w0.heap.size P1_ u9000_ l1) (h : impl_closePartition.f k a0_0 l0_1 l1 = some (r1, r2)) :
    Calls Try.prog 154 #[.agg #[.int .i64 a0_0, .slice A0_1 l0_1.length c0_1], u9000_] w fun e w' => e = .returned (.bool r1) ∧ Kd.R (Kd.int .i64) 3 w' w0.heap.size (fun k_ => (P1_ k_ ∨ w.heap.size ≤ k_)) u9000_ r2 ∧ Below w0.heap.size w0 w' ∧ Kept w w' (fun k_ => P1_ k_) := by
  have hu30 := Try.underlying30
  have hu87 := Try.underlying87
  have HR0_1 := Aside0.mk hr0_1
  have HC0_1 := Aside0.mk hc0_1
  clear hr0_1 hc0_1
  have HO1 := Aside0.mk (show Kd.R (Kd.int .i64) 3 w w0.heap.size (fun k_ => (P1_ k_ ∨ w.heap.size ≤ k_)) u9000_ l1 from Kd.R_mono ho1 (fun k_ hk => (.inl hk)))
  have HK := Aside0.mk (Kept.refl w (fun k_ => P1_ k_))
  have HW0 := Aside0.mk hB.size
  have HB := Aside0.mk hB
  clear hB
  have H : (impl_closePartition.l0 k l1 false true a0_0 l0_1) = some (r1, r2) := h
  clear h
  have H' := Aside0.mk H
  clear H
  go_enter Try.func154, Try.ntmps154
  go_wp2_with (first | ((with_reducible refine gate_dst (N := 2) rfl ?_); refine box_event ?hg (N := 2) ?hd (cs := #[.int .i64 a0_0, .slice A0_1 l0_1.length c0_1]) (t := 30) ?hr ?_; (case hd => rfl); (case hg => rfl); (case hr => first | (go_simp; done) | (go_simp; rfl)); intro gb1134 hg w3 hbox hb; have n0_ := Aside0.mk (Kd.R_below (by (with_reducible repeat (first | apply Kd.R_alloc | apply Kd.R_drewN | apply Kd.R_drew)); exact HO1.out) hb); have n1_ := Aside0.mk (Kept.below (S := (fun k_ => P1_ k_)) (by repeat (first | (with_reducible first | exact HK.out | apply Kept.alloc | apply Kept.drewN | apply Kept.drew) | exact HK.out)) hb); have n2_ := Aside0.mk (below_step (by repeat (first | (with_reducible first | exact HB.out | apply below_alloc | apply pw_below_drewN | apply below_drew1) | exact HB.out)) hb); have n3_ := Aside0.mk (hbox); have n4_ := Aside0.mk ((by rw [hg]; exact (by first | exact HK.out.1 | exact (show Kept w _ (fun k_ => P1_ k_) from by repeat (first | (with_reducible first | exact HK.out | apply Kept.alloc | apply Kept.drewN | apply Kept.drew) | exact HK.out)).1) : w.heap.size ≤ gb1134)); have n5_ := Aside0.mk ((by rw [hg]; exact (below_size (by repeat (first | (with_reducible first | exact HB.out | apply below_alloc | apply pw_below_drewN | apply below_drew1) | exact HB.out))) : w0.heap.size ≤ gb1134)); clear HO1; clear HK; clear HB; have HO1 := n0_; have HK := n1_; have HB := n2_; have BK1134 := n3_; have GW1134 := n4_; have GE1134 := n5_; clear n0_ n1_ n2_ n3_ n4_ n5_; clear hb hbox hg))
  go_loopg [5, 6] k (fun kq v5 v6 w' => ∃ (x1_1 : List Int) (x5_1 : Bool) (x6_1 : Bool), v5 = .bool x5_1 ∧ v6 = .bool x6_1 ∧ Aside0 (impl_closePartition.l0 kq x1_1 x5_1 x6_1 a0_0 l0_1 = some (r1, r2)) ∧ Aside0 (kq ≤ k) ∧ Aside0 (Kd.R (Kd.int .i64) 3 w' w0.heap.size (fun k_ => (P1_ k_ ∨ w.heap.size ≤ k_)) u9000_ x1_1) ∧ Aside0 (w'.heap[gb1134]? = some (.cells #[.int .i64 a0_0, (.slice A0_1 l0_1.length c0_1)] 30 (0, 0))) ∧ Aside0 (Kept w w' (fun k_ => P1_ k_)) ∧ Aside0 (Below w0.heap.size w0 w'))
  case atStart => exact ⟨(l1), (false), (true), (by first | rfl | (simp; done) | (simp [*]; done)), (by first | rfl | (simp; done) | (simp [*]; done)), H', ⟨Nat.le_refl _⟩, ⟨by (with_reducible repeat (first | apply Kd.R_alloc | apply Kd.R_drewN | apply Kd.R_drew)); exact HO1.out⟩, ⟨by (with_reducible repeat (first | refine blk_drewN ?_ _ | refine blk_drew ?_ | refine blk_alloc ?_ _)); exact BK1134.out⟩, ⟨by repeat (first | (with_reducible first | exact HK.out | apply Kept.alloc | apply Kept.drewN | apply Kept.drew | refine Kept.setCell ?_ (.inr GW1134.out) _) | exact HK.out)⟩, ⟨by repeat (first | (with_reducible first | exact HB.out | apply below_alloc | apply pw_below_drewN | apply below_drew1 | refine below_set ?_ GE1134.out) | exact HB.out)⟩⟩
  case round =>
    clear H'
    try clear c1
    try clear p2
    obtain ⟨x1_1, x5_1, x6_1, rfl, rfl, HA, HK1, HO_1, BK1134, HK, HB⟩ := hrel
    cases gk with
    | zero => exact absurd HA.out (by simp [impl_closePartition.l0])
    | succ k1 =>
      have H := HA.out
      clear HA
      simp only [impl_closePartition.l0] at H
      by_cases c4 : x6_1 = true
      · subst c4
        have H1 : (impl_closePartition.l1 k1 x1_1 x5_1 false l0_1 (l0_1.length : Int) 0 a0_0 l0_1) = some (r1, r2) := by rw [if_pos rfl] at H; exact H
        clear H
        have H := H1
        clear H1
        have H' := Aside0.mk H
        clear H
        have hcz5_0 : wr.cell? ⟨gb1134, 0, none⟩ = some (.int .i64 a0_0) := (blk_cell BK1134.out 0).trans rfl
        have hcz5_1 : wr.cell? ⟨gb1134, 1, none⟩ = some (.slice A0_1 l0_1.length c0_1) := (blk_cell BK1134.out 1).trans rfl
        have hfz5_0 := blk_frozen BK1134.out 0
        have hfz5_1 := blk_frozen BK1134.out 1
        go_wp2
        go_loopg [5, 6, 18] k1 (fun kq v5 v6 v18 w' => ∃ (x1_2 : List Int) (x5_2 : Bool) (x6_2 : Bool) (x18_2 : Int), v5 = .bool x5_2 ∧ v6 = .bool x6_2 ∧ v18 = .int .i64 x18_2 ∧ Aside0 (impl_closePartition.l1 kq x1_2 x5_2 x6_2 l0_1 (l0_1.length : Int) x18_2 a0_0 l0_1 = some (r1, r2)) ∧ Aside0 (kq ≤ k1) ∧ Aside0 (Kd.R (Kd.int .i64) 3 w' w0.heap.size (fun k_ => (P1_ k_ ∨ w.heap.size ≤ k_)) u9000_ x1_2) ∧ Aside0 (w'.heap[gb1134]? = some (.cells #[.int .i64 a0_0, (.slice A0_1 l0_1.length c0_1)] 30 (0, 0))) ∧ Aside0 (Kept w w' (fun k_ => P1_ k_)) ∧ Aside0 (Below w0.heap.size w0 w'))
        case atStart => exact ⟨(x1_1), (x5_1), (false), (0), (by first | rfl | (simp; done) | (simp [*]; done)), (by first | rfl | (simp; done) | (simp [*]; done)), (by first | rfl | (simp; done) | (simp [*]; done)), H', ⟨Nat.le_refl _⟩, ⟨by (with_reducible repeat (first | apply Kd.R_alloc | apply Kd.R_drewN | apply Kd.R_drew)); exact HO_1.out⟩, ⟨by (with_reducible repeat (first | refine blk_drewN ?_ _ | refine blk_drew ?_ | refine blk_alloc ?_ _)); exact BK1134.out⟩, ⟨by repeat (first | (with_reducible first | exact HK.out | apply Kept.alloc | apply Kept.drewN | apply Kept.drew | refine Kept.setCell ?_ (.inr GW1134.out) _) | exact HK.out)⟩, ⟨by repeat (first | (with_reducible first | exact HB.out | apply below_alloc | apply pw_below_drewN | apply below_drew1 | refine below_set ?_ GE1134.out) | exact HB.out)⟩⟩
        case round =>
          clear H'
          try clear c1
          try clear p2
          try clear c4
          try clear hcz5_0
          try clear hcz5_1
          try clear hfz5_0
          try clear hfz5_1
          try clear p2
          obtain ⟨x1_2, x5_2, x6_2, x18_2, rfl, rfl, rfl, HA, HK2, HO_1, BK1134, HK, HB⟩ := hrel
          cases gk with
          | zero => exact absurd HA.out (by simp [impl_closePartition.l1])
          | succ k2 =>
            have H := HA.out
            clear HA
            simp only [impl_closePartition.l1] at H
            by_cases c6 : x18_2 < (l0_1.length : Int)
            · rw [if_pos c6] at H
              have c6b0 : decide (x18_2 < (l0_1.length : Int)) = true := decide_eq_true c6
              clear c6
              by_cases c7 : 0 ≤ x18_2
              · rw [if_pos c7] at H
                have c7b0 : decide (0 ≤ x18_2) = true := decide_eq_true c7
                clear c7
                by_cases c8 : x18_2 < (l0_1.length : Int)
                · rw [if_pos c8] at H
                  have c8b0 : decide (x18_2 < (l0_1.length : Int)) = true := decide_eq_true c8
                  clear c8
                  have H' := Aside0.mk H
                  clear H
                  have p1135 : 0 ≤ (x18_2 : Int) := of_decide_eq_true (by first | (with_reducible assumption) | assumption)
                  have q1135 : x18_2 < (l0_1.length : Int) := of_decide_eq_true (by first | (with_reducible assumption) | assumption)
                  obtain ⟨ad1135, A1135_1, c1135_1, e1135, hx1135_0, hx1135_1, hl1135_1, hi1135_1⟩ := at_T87 HR0_1.out x18_2 p1135 q1135
                  cases e1135
                  replace hx1135_0 := (HB.out.cell (World.block_lt_of_cell? w0 _ hx1135_0)).trans hx1135_0
                  replace hx1135_1 := (HB.out.cell (World.block_lt_of_cell? w0 _ hx1135_1)).trans hx1135_1
                  have HR1135_1 := Aside0.mk hi1135_1
                  have HC1135_1 := Aside0.mk hl1135_1
                  clear hi1135_1 hl1135_1
                  replace p1135 := eq_true p1135
                  replace q1135 := eq_true q1135
                  go_wp2_with (first | ((with_reducible refine gate_dst (N := 8) rfl ?_); refine box_event ?hg (N := 8) ?hd (cs := #[.int .i64 0, .slice none 0 0]) (t := 87) ?hr ?_; (case hd => rfl); (case hg => rfl); (case hr => first | (go_simp; done) | (go_simp; rfl)); intro gb1136 hg w9 hbox hb; have n0_ := Aside0.mk (Kd.R_below (by (with_reducible repeat (first | apply Kd.R_alloc | apply Kd.R_drewN | apply Kd.R_drew)); exact HO_1.out) hb); have n1_ := Aside0.mk (blk_below (g := gb1134) (o := .cells #[.int .i64 a0_0, .slice (some ad1135) l0_1.length c0_1] 30 (0, 0)) (by (with_reducible repeat (first | refine blk_drewN ?_ _ | refine blk_drew ?_ | refine blk_alloc ?_ _)); exact BK1134.out) hb); have n2_ := Aside0.mk (Kept.below (S := (fun k_ => P1_ k_)) (by repeat (first | (with_reducible first | exact HK.out | apply Kept.alloc | apply Kept.drewN | apply Kept.drew | refine Kept.setCell ?_ (.inr GW1134.out) _) | exact HK.out)) hb); have n3_ := Aside0.mk (below_step (by repeat (first | (with_reducible first | exact HB.out | apply below_alloc | apply pw_below_drewN | apply below_drew1 | refine below_set ?_ GE1134.out) | exact HB.out)) hb); have n4_ := Aside0.mk (hbox); have n5_ := Aside0.mk ((by rw [hg]; exact (by first | exact HK.out.1 | exact (show Kept w _ (fun k_ => P1_ k_) from by repeat (first | (with_reducible first | exact HK.out | apply Kept.alloc | apply Kept.drewN | apply Kept.drew | refine Kept.setCell ?_ (.inr GW1134.out) _) | exact HK.out)).1) : w.heap.size ≤ gb1136)); have n6_ := Aside0.mk ((by rw [hg]; exact (below_size (by repeat (first | (with_reducible first | exact HB.out | apply below_alloc | apply pw_below_drewN | apply below_drew1 | refine below_set ?_ GE1134.out) | exact HB.out))) : w0.heap.size ≤ gb1136)); have n7_ := Aside0.mk ((by rw [hg]; exact Nat.ne_of_lt (blk_lt (g := gb1134) (o := .cells #[.int .i64 a0_0, .slice (some ad1135) l0_1.length c0_1] 30 (0, 0)) (by (with_reducible repeat (first | refine blk_drewN ?_ _ | refine blk_drew ?_ | refine blk_alloc ?_ _)); exact BK1134.out)) : gb1134 ≠ gb1136)); have n8_ := Aside0.mk ((by rw [hg]; exact Nat.ne_of_gt (blk_lt (g := gb1134) (o := .cells #[.int .i64 a0_0, .slice (some ad1135) l0_1.length c0_1] 30 (0, 0)) (by (with_reducible repeat (first | refine blk_drewN ?_ _ | refine blk_drew ?_ | refine blk_alloc ?_ _)); exact BK1134.out)) : gb1136 ≠ gb1134)); clear HO_1; clear BK1134; clear HK; clear HB; have HO_1 := n0_; have BK1134 := n1_; have HK := n2_; have HB := n3_; have BK1136 := n4_; have GW1136 := n5_; have GE1136 := n6_; have NB1134_1136 := n7_; have NB1136_1134 := n8_; clear n0_ n1_ n2_ n3_ n4_ n5_ n6_ n7_ n8_; clear hb hbox hg; have hnb10 := NB1136_1134.out; have hnc10 := NB1134_1136.out; have hcz11_0 : w9.cell? ⟨gb1136, 0, none⟩ = some (.int .i64 0) := (blk_cell BK1136.out 0).trans rfl; have hcz11_1 : w9.cell? ⟨gb1136, 1, none⟩ = some (.slice none 0 0) := (blk_cell BK1136.out 1).trans rfl; have hfz11_0 := blk_frozen BK1136.out 0; have hfz11_1 := blk_frozen BK1136.out 1))
                  go_loopg [5, 6, 9, 10] k2 (fun kq v5 v6 v9 v10 w' => ∃ (x1_3 : List Int) (x5_3 : Bool) (x6_3 : Bool) (x9_3 : Int) (x10_3 : Int), v5 = .bool x5_3 ∧ v6 = .bool x6_3 ∧ v9 = .int .i64 x9_3 ∧ v10 = .int .i64 x10_3 ∧ Aside0 (impl_closePartition.l2 kq x1_3 x5_3 x6_3 x9_3 x10_3 l0_1 (l0_1.length : Int) x18_2 a0_0 l0_1 ((rd_T87 l0_1 x18_2).f0) ((rd_T87 l0_1 x18_2).f1) = some (r1, r2)) ∧ Aside0 (kq ≤ k2) ∧ Aside0 (Kd.R (Kd.int .i64) 3 w' w0.heap.size (fun k_ => (P1_ k_ ∨ w.heap.size ≤ k_)) u9000_ x1_3) ∧ Aside0 (w'.heap[gb1134]? = some (.cells #[.int .i64 a0_0, (.slice (some ad1135) l0_1.length c0_1)] 30 (0, 0))) ∧ Aside0 (w'.heap[gb1136]? = some (.cells #[.int .i64 ((rd_T87 l0_1 x18_2).f0), (.slice A1135_1 ((rd_T87 l0_1 x18_2).f1).length c1135_1)] 87 (0, 0))) ∧ Aside0 (Kept w w' (fun k_ => P1_ k_)) ∧ Aside0 (Below w0.heap.size w0 w'))
                  case atStart => exact ⟨(x1_2), (x5_2), (x6_2), (1), (0), (by first | rfl | (simp; done) | (simp [*]; done)), (by first | rfl | (simp; done) | (simp [*]; done)), (by first | rfl | (simp; done) | (simp [*]; done)), (by first | rfl | (simp; done) | (simp [*]; done)), H', ⟨Nat.le_refl _⟩, ⟨by (with_reducible repeat (first | apply Kd.R_alloc | apply Kd.R_drewN | apply Kd.R_drew)); exact Kd.R_mono (Kd.R_far (p := ⟨gb1136, 1, none⟩) (Kd.R_far (p := ⟨gb1136, 0, none⟩) (Kd.R_types HO_1.out BK1136.out (by decide)) (fun _ hk => hk.2) (.int .i64 ((rd_T87 l0_1 x18_2).f0))) (fun _ hk => hk.2) (.slice A1135_1 ((rd_T87 l0_1 x18_2).f1).length c1135_1)) (fun _ hk => hk.1)⟩, ⟨by (with_reducible repeat (first | refine blk_drewN ?_ _ | refine blk_drew ?_ | refine blk_alloc ?_ _)); refine blk_far ?_ NB1134_1136.out _; (with_reducible repeat (first | refine blk_drewN ?_ _ | refine blk_drew ?_ | refine blk_alloc ?_ _)); refine blk_far ?_ NB1134_1136.out _; (with_reducible repeat (first | refine blk_drewN ?_ _ | refine blk_drew ?_ | refine blk_alloc ?_ _)); exact BK1134.out⟩, ⟨by (with_reducible repeat (first | refine blk_drewN ?_ _ | refine blk_drew ?_ | refine blk_alloc ?_ _)); refine blk_put (cs := #[.int .i64 ((rd_T87 l0_1 x18_2).f0), .slice none 0 0]) ?_ 1 _ rfl; (with_reducible repeat (first | refine blk_drewN ?_ _ | refine blk_drew ?_ | refine blk_alloc ?_ _)); refine blk_put (cs := #[.int .i64 0, .slice none 0 0]) ?_ 0 _ rfl; (with_reducible repeat (first | refine blk_drewN ?_ _ | refine blk_drew ?_ | refine blk_alloc ?_ _)); exact BK1136.out⟩, ⟨by repeat (first | (with_reducible first | exact HK.out | apply Kept.alloc | apply Kept.drewN | apply Kept.drew | refine Kept.setCell ?_ (.inr GW1134.out) _ | refine Kept.setCell ?_ (.inr GW1136.out) _) | exact HK.out)⟩, ⟨by repeat (first | (with_reducible first | exact HB.out | apply below_alloc | apply pw_below_drewN | apply below_drew1 | refine below_set ?_ GE1134.out | refine below_set ?_ GE1136.out) | exact HB.out)⟩⟩
                  case round =>
                    clear H'
                    try clear c1
                    try clear p1
                    try clear q1
                    try clear hx1
                    try clear p2
                    try clear c4
                    try clear c6
                    try clear c6b0
                    try clear c7
                    try clear c7b0
                    try clear c8
                    try clear c8b0
                    try clear c10
                    try clear c11
                    try clear p11
                    try clear q11
                    try clear hx11
                    try clear hcz11_0
                    try clear hcz11_1
                    try clear hcz5_0
                    try clear hcz5_1
                    try clear hfz11_0
                    try clear hfz11_1
                    try clear hfz5_0
                    try clear hfz5_1
                    try clear hx1135_0
                    try clear hx1135_1
                    try clear p1135
                    try clear p2
                    try clear q1135
                    obtain ⟨x1_3, x5_3, x6_3, x9_3, x10_3, rfl, rfl, rfl, rfl, HA, HK3, HO_1, BK1134, BK1136, HK, HB⟩ := hrel
                    cases gk with
                    | zero => exact absurd HA.out (by simp [impl_closePartition.l2])
                    | succ k3 =>
                      have H := HA.out
                      clear HA
                      simp only [impl_closePartition.l2] at H
                      by_cases c12 : x10_3 < ((rd_T87 l0_1 x18_2).f0)
                      · rw [if_pos c12] at H
                        have c12b0 : decide (x10_3 < ((rd_T87 l0_1 x18_2).f0)) = true := decide_eq_true c12
                        clear c12
                        have H' := Aside0.mk H
                        clear H
                        have hnb13 := NB1136_1134.out
                        have hnc13 := NB1134_1136.out
                        have hcz14_0 : wr.cell? ⟨gb1136, 0, none⟩ = some (.int .i64 ((rd_T87 l0_1 x18_2).f0)) := (blk_cell BK1136.out 0).trans rfl
                        have hcz14_1 : wr.cell? ⟨gb1136, 1, none⟩ = some (.slice A1135_1 ((rd_T87 l0_1 x18_2).f1).length c1135_1) := (blk_cell BK1136.out 1).trans rfl
                        have hfz14_0 := blk_frozen BK1136.out 0
                        have hfz14_1 := blk_frozen BK1136.out 1
                        go_wp2
                        go_loopg [5, 6, 31] k3 (fun kq v5 v6 v31 w' => ∃ (x1_4 : List Int) (x5_4 : Bool) (x6_4 : Bool) (x31_4 : Int), v5 = .bool x5_4 ∧ v6 = .bool x6_4 ∧ v31 = .int .i64 x31_4 ∧ Aside0 (impl_closePartition.l3 kq x1_4 x5_4 x6_4 x9_3 x10_3 l0_1 (l0_1.length : Int) x18_2 ((rd_T87 l0_1 x18_2).f1) (((rd_T87 l0_1 x18_2).f1).length : Int) x31_4 a0_0 l0_1 ((rd_T87 l0_1 x18_2).f0) ((rd_T87 l0_1 x18_2).f1) = some (r1, r2)) ∧ Aside0 (kq ≤ k3) ∧ Aside0 (Kd.R (Kd.int .i64) 3 w' w0.heap.size (fun k_ => (P1_ k_ ∨ w.heap.size ≤ k_)) u9000_ x1_4) ∧ Aside0 (w'.heap[gb1134]? = some (.cells #[.int .i64 a0_0, (.slice (some ad1135) l0_1.length c0_1)] 30 (0, 0))) ∧ Aside0 (w'.heap[gb1136]? = some (.cells #[.int .i64 ((rd_T87 l0_1 x18_2).f0), (.slice A1135_1 ((rd_T87 l0_1 x18_2).f1).length c1135_1)] 87 (0, 0))) ∧ Aside0 (Kept w w' (fun k_ => P1_ k_)) ∧ Aside0 (Below w0.heap.size w0 w'))
                        case atStart => exact ⟨(x1_3), (x5_3), (x6_3), (0), (by first | rfl | (simp; done) | (simp [*]; done)), (by first | rfl | (simp; done) | (simp [*]; done)), (by first | rfl | (simp; done) | (simp [*]; done)), H', ⟨Nat.le_refl _⟩, ⟨by (with_reducible repeat (first | apply Kd.R_alloc | apply Kd.R_drewN | apply Kd.R_drew)); exact HO_1.out⟩, ⟨by (with_reducible repeat (first | refine blk_drewN ?_ _ | refine blk_drew ?_ | refine blk_alloc ?_ _)); exact BK1134.out⟩, ⟨by (with_reducible repeat (first | refine blk_drewN ?_ _ | refine blk_drew ?_ | refine blk_alloc ?_ _)); exact BK1136.out⟩, ⟨by repeat (first | (with_reducible first | exact HK.out | apply Kept.alloc | apply Kept.drewN | apply Kept.drew | refine Kept.setCell ?_ (.inr GW1134.out) _ | refine Kept.setCell ?_ (.inr GW1136.out) _) | exact HK.out)⟩, ⟨by repeat (first | (with_reducible first | exact HB.out | apply below_alloc | apply pw_below_drewN | apply below_drew1 | refine below_set ?_ GE1134.out | refine below_set ?_ GE1136.out) | exact HB.out)⟩⟩
                        case round =>
                          clear H'
                          try clear c1
                          try clear p1
                          try clear q1
                          try clear hx1
                          try clear p2
                          try clear c4
                          try clear c6
                          try clear c6b0
                          try clear c7
                          try clear c7b0
                          try clear c8
                          try clear c8b0
                          try clear c10
                          try clear c11
                          try clear p11
                          try clear q11
                          try clear hx11
                          try clear c12
                          try clear c12b0
                          try clear c13
                          try clear hcz11_0
                          try clear hcz11_1
                          try clear hcz14_0
                          try clear hcz14_1
                          try clear hcz5_0
                          try clear hcz5_1
                          try clear hfz11_0
                          try clear hfz11_1
                          try clear hfz14_0
                          try clear hfz14_1
                          try clear hfz5_0
                          try clear hfz5_1
                          try clear hx1135_0
                          try clear hx1135_1
                          try clear p1
                          try clear p11
                          try clear p1135
                          try clear p2
                          try clear q1
                          try clear q11
                          try clear q1135
                          obtain ⟨x1_4, x5_4, x6_4, x31_4, rfl, rfl, rfl, HA, HK4, HO_1, BK1134, BK1136, HK, HB⟩ := hrel
                          cases gk with
                          | zero => exact absurd HA.out (by simp [impl_closePartition.l3])
                          | succ k4 =>
                            have H := HA.out
                            clear HA
                            simp only [impl_closePartition.l3] at H
                            by_cases c15 : x31_4 < (((rd_T87 l0_1 x18_2).f1).length : Int)
                            · rw [if_pos c15] at H
                              have c15b0 : decide (x31_4 < (((rd_T87 l0_1 x18_2).f1).length : Int)) = true := decide_eq_true c15
                              clear c15
                              by_cases c16 : 0 ≤ x31_4
                              · rw [if_pos c16] at H
                                have c16b0 : decide (0 ≤ x31_4) = true := decide_eq_true c16
                                clear c16
                                by_cases c17 : x31_4 < (((rd_T87 l0_1 x18_2).f1).length : Int)
                                · rw [if_pos c17] at H
                                  have c17b0 : decide (x31_4 < (((rd_T87 l0_1 x18_2).f1).length : Int)) = true := decide_eq_true c17
                                  clear c17
                                  by_cases c18 : x9_3 = 0
                                  · rw [if_pos c18] at H
                                    exact absurd H (by simp)
                                  · rw [if_neg c18] at H
                                    have c18b0 : (x9_3 == 0) = false := beq_eq_false_iff_ne.mpr c18
                                    have c18b1 : (x9_3 != 0) = true := bne_iff_ne.mpr c18
                                    by_cases c19 : a0_0 = 0
                                    · rw [if_pos c19] at H
                                      exact absurd H (by simp)
                                    · rw [if_neg c19] at H
                                      have c19b0 : (a0_0 == 0) = false := beq_eq_false_iff_ne.mpr c19
                                      have c19b1 : (a0_0 != 0) = true := bne_iff_ne.mpr c19
                                      obtain ⟨ji20, hji20⟩ : ∃ j_ : Int, (Int.tmod (wrap64 (Int.tdiv x31_4 x9_3)) a0_0) = j_ := ⟨_, rfl⟩
                                      replace H : (if 0 ≤ (ji20) then (if (ji20) < (x1_4.length : Int) then (if 0 ≤ (wrap64 (x31_4 + (wrap64 ((wrap64 ((rd x1_4 (ji20)) - (ji20))) * x9_3)))) then (if (wrap64 (x31_4 + (wrap64 ((wrap64 ((rd x1_4 (ji20)) - (ji20))) * x9_3)))) < (((rd_T87 l0_1 x18_2).f1).length : Int) then ((impl_unite.f k4 x1_4 (rd ((rd_T87 l0_1 x18_2).f1) x31_4) (rd ((rd_T87 l0_1 x18_2).f1) (wrap64 (x31_4 + (wrap64 ((wrap64 ((rd x1_4 (ji20)) - (ji20))) * x9_3)))))).bind fun bt1140 => (if bt1140.1 = true then (impl_closePartition.l3 k4 bt1140.2 true true x9_3 x10_3 l0_1 (l0_1.length : Int) x18_2 ((rd_T87 l0_1 x18_2).f1) (((rd_T87 l0_1 x18_2).f1).length : Int) (wrap64 (x31_4 + 1)) a0_0 l0_1 ((rd_T87 l0_1 x18_2).f0) ((rd_T87 l0_1 x18_2).f1)) else (impl_closePartition.l3 k4 bt1140.2 x5_4 x6_4 x9_3 x10_3 l0_1 (l0_1.length : Int) x18_2 ((rd_T87 l0_1 x18_2).f1) (((rd_T87 l0_1 x18_2).f1).length : Int) (wrap64 (x31_4 + 1)) a0_0 l0_1 ((rd_T87 l0_1 x18_2).f0) ((rd_T87 l0_1 x18_2).f1)))) else (none)) else (none)) else (none)) else (none)) = some (r1, r2) := by first | (rw [hji20] at H; exact H) | (simp only [hji20] at H ⊢; exact H)
                                      by_cases c21 : 0 ≤ (ji20)
                                      · rw [if_pos c21] at H
                                        have c21b0 : decide (0 ≤ (ji20)) = true := decide_eq_true c21
                                        clear c21
                                        by_cases c22 : (ji20) < (x1_4.length : Int)
                                        · rw [if_pos c22] at H
                                          have c22b0 : decide ((ji20) < (x1_4.length : Int)) = true := decide_eq_true c22
                                          clear c22
                                          obtain ⟨ji23, hji23⟩ : ∃ j_ : Int, (wrap64 (x31_4 + (wrap64 ((wrap64 ((rd x1_4 (ji20)) - (ji20))) * x9_3)))) = j_ := ⟨_, rfl⟩
                                          replace H : (if 0 ≤ (ji23) then (if (ji23) < (((rd_T87 l0_1 x18_2).f1).length : Int) then ((impl_unite.f k4 x1_4 (rd ((rd_T87 l0_1 x18_2).f1) x31_4) (rd ((rd_T87 l0_1 x18_2).f1) (ji23))).bind fun bt1140 => (if bt1140.1 = true then (impl_closePartition.l3 k4 bt1140.2 true true x9_3 x10_3 l0_1 (l0_1.length : Int) x18_2 ((rd_T87 l0_1 x18_2).f1) (((rd_T87 l0_1 x18_2).f1).length : Int) (wrap64 (x31_4 + 1)) a0_0 l0_1 ((rd_T87 l0_1 x18_2).f0) ((rd_T87 l0_1 x18_2).f1)) else (impl_closePartition.l3 k4 bt1140.2 x5_4 x6_4 x9_3 x10_3 l0_1 (l0_1.length : Int) x18_2 ((rd_T87 l0_1 x18_2).f1) (((rd_T87 l0_1 x18_2).f1).length : Int) (wrap64 (x31_4 + 1)) a0_0 l0_1 ((rd_T87 l0_1 x18_2).f0) ((rd_T87 l0_1 x18_2).f1)))) else (none)) else (none)) = some (r1, r2) := by first | (rw [hji23] at H; exact H) | (simp only [hji23] at H ⊢; exact H)
                                          have hji23w : (IntKind.i64.wrap (x31_4 + (wrap64 ((wrap64 ((rd x1_4 (ji20)) - (ji20))) * x9_3)))) = ji23 := (i64_w _).trans hji23
                                          by_cases c24 : 0 ≤ (ji23)
                                          · rw [if_pos c24] at H
                                            have c24b0 : decide (0 ≤ (ji23)) = true := decide_eq_true c24
                                            clear c24
                                            by_cases c25 : (ji23) < (((rd_T87 l0_1 x18_2).f1).length : Int)
                                            · rw [if_pos c25] at H
                                              have c25b0 : decide ((ji23) < (((rd_T87 l0_1 x18_2).f1).length : Int)) = true := decide_eq_true c25
                                              clear c25
                                              replace H := Option.bind_eq_some_iff.mp H
                                              obtain ⟨⟨t1140, t1141⟩, A260, H⟩ := H
                                              replace H : (if t1140 = true then (impl_closePartition.l3 k4 t1141 true true x9_3 x10_3 l0_1 (l0_1.length : Int) x18_2 ((rd_T87 l0_1 x18_2).f1) (((rd_T87 l0_1 x18_2).f1).length : Int) (wrap64 (x31_4 + 1)) a0_0 l0_1 ((rd_T87 l0_1 x18_2).f0) ((rd_T87 l0_1 x18_2).f1)) else (impl_closePartition.l3 k4 t1141 x5_4 x6_4 x9_3 x10_3 l0_1 (l0_1.length : Int) x18_2 ((rd_T87 l0_1 x18_2).f1) (((rd_T87 l0_1 x18_2).f1).length : Int) (wrap64 (x31_4 + 1)) a0_0 l0_1 ((rd_T87 l0_1 x18_2).f0) ((rd_T87 l0_1 x18_2).f1))) = some (r1, r2) := H
                                              have A26 := Aside0.mk A260
                                              clear A260
                                              by_cases c27 : t1140 = true
                                              · subst c27
                                                have H1 : (impl_closePartition.l3 k4 t1141 true true x9_3 x10_3 l0_1 (l0_1.length : Int) x18_2 ((rd_T87 l0_1 x18_2).f1) (((rd_T87 l0_1 x18_2).f1).length : Int) (wrap64 (x31_4 + 1)) a0_0 l0_1 ((rd_T87 l0_1 x18_2).f0) ((rd_T87 l0_1 x18_2).f1)) = some (r1, r2) := by rw [if_pos rfl] at H; exact H
                                                clear H
                                                have H := H1
                                                clear H1
                                                have H' := Aside0.mk H
                                                clear H
                                                have p1137 : 0 ≤ (x31_4 : Int) := of_decide_eq_true (by first | (with_reducible assumption) | assumption)
                                                have q1137 : x31_4 < (((rd_T87 l0_1 x18_2).f1).length : Int) := of_decide_eq_true (by first | (with_reducible assumption) | assumption)
                                                obtain ⟨ad1137, e1137, hx1137_0⟩ := Kd.at_int HR1135_1.out x31_4 p1137 q1137
                                                cases e1137
                                                replace hx1137_0 := (HB.out.cell (World.block_lt_of_cell? w0 _ hx1137_0)).trans hx1137_0
                                                replace p1137 := eq_true p1137
                                                replace q1137 := eq_true q1137
                                                try go_wp2
                                                have n0_ := Aside0.mk (Kd.R_drew HO_1.out)
                                                have n1_ := Aside0.mk (blk_drew BK1134.out)
                                                have n2_ := Aside0.mk (blk_drew BK1136.out)
                                                have n3_ := Aside0.mk (Kept.drew HK.out)
                                                have n4_ := Aside0.mk (below_drew1 HB.out)
                                                clear HO_1
                                                clear BK1134
                                                clear BK1136
                                                clear HK
                                                clear HB
                                                have HO_1 := n0_
                                                have BK1134 := n1_
                                                have BK1136 := n2_
                                                have HK := n3_
                                                have HB := n4_
                                                clear n0_ n1_ n2_ n3_ n4_
                                                refine start_ (n := 7) (S := fun w' => w'.cell? ⟨gb1134, 0, none⟩ = some (.int .i64 a0_0) ∧ w'.cell? ⟨gb1134, 1, none⟩ = some (.slice (some ad1135) l0_1.length c0_1)) (ds := []) #[false, false, false, false, false, false, false] (by kernel_rfl) rfl rfl ⟨(blk_cell BK1134.out 0).trans rfl, (blk_cell BK1134.out 1).trans rfl⟩ (fun hHeld => ?_)
                                                generalize wr.drew = w28 at HO_1 BK1134 BK1136 HK HB hHeld ⊢
                                                refine pure_ (i := 0) (N := some 36) (v := ?_) (a' := ?_) #[true, false, false, false, false, false, false] rfl rfl (by kernel_rfl) (fun _ _ _ h => h) (Or.inl ⟨by rfl, ?_⟩) ?_ ?_
                                                rotate_left
                                                · intro w'
                                                  go_simp
                                                  with_reducible rfl
                                                rotate_left
                                                · simp only [Act.put, List.setIfInBounds_toArray, List.set_cons_zero, List.set_cons_succ, i64_w, i32_w]
                                                  rfl
                                                refine pure_ (i := 1) (N := some 37) (v := ?_) (a' := ?_) #[true, true, false, false, false, false, false] rfl rfl (by kernel_rfl) (fun _ _ _ h => h) (Or.inl ⟨by rfl, ?_⟩) ?_ ?_
                                                rotate_left
                                                · intro w'
                                                  go_simp
                                                  with_reducible rfl
                                                rotate_left
                                                · simp only [Act.put, List.setIfInBounds_toArray, List.set_cons_zero, List.set_cons_succ, i64_w, i32_w]
                                                  rfl
                                                refine pure_ (i := 2) (N := some 38) (v := ?_) (a' := ?_) #[true, true, true, false, false, false, false] rfl rfl (by kernel_rfl) (fun _ _ _ h => h) (Or.inl ⟨by rfl, ?_⟩) ?_ ?_
                                                rotate_left
                                                · intro w'
                                                  go_simp
                                                  with_reducible rfl
                                                rotate_left
                                                · simp only [Act.put, List.setIfInBounds_toArray, List.set_cons_zero, List.set_cons_succ, i64_w, i32_w]
                                                  rfl
                                                refine pure_ (i := 3) (N := some 39) (v := ?_) (a' := ?_) #[true, true, true, true, false, false, false] rfl rfl (by kernel_rfl) (fun _ _ _ h => h) (Or.inl ⟨by rfl, ?_⟩) ?_ ?_
                                                rotate_left
                                                · intro w'
                                                  go_simp
                                                  with_reducible rfl
                                                rotate_left
                                                · simp only [Act.put, List.setIfInBounds_toArray, List.set_cons_zero, List.set_cons_succ, i64_w, i32_w]
                                                  rfl
                                                refine take_ (i := 4) (N := some 40) (v := ?_) (a' := ?_) #[true, true, true, true, true, false, false] rfl rfl (by kernel_rfl) (fun _ _ _ h => h) (Or.inl ⟨by rfl, ?_⟩) hHeld ?_ ?_
                                                rotate_left
                                                · rintro w' ⟨s0, s1⟩
                                                  go_simp
                                                  with_reducible rfl
                                                rotate_left
                                                · simp only [Act.put, List.setIfInBounds_toArray, List.set_cons_zero, List.set_cons_succ, i64_w, i32_w]
                                                  rfl
                                                refine pure_ (i := 5) (N := some 41) (v := ?_) (a' := ?_) #[true, true, true, true, true, true, false] rfl rfl (by kernel_rfl) (fun _ _ _ h => h) (Or.inl ⟨by rfl, ?_⟩) ?_ ?_
                                                rotate_left
                                                · intro w'
                                                  go_simp
                                                  with_reducible rfl
                                                rotate_left
                                                · simp only [Act.put, List.setIfInBounds_toArray, List.set_cons_zero, List.set_cons_succ, i64_w, i32_w]
                                                  rfl
                                                refine pure_ (i := 6) (N := some 13) (v := ?_) (a' := ?_) #[true, true, true, true, true, true, true] rfl rfl (by kernel_rfl) (fun _ _ _ h => h) (Or.inl ⟨by rfl, ?_⟩) ?_ ?_
                                                rotate_left
                                                · intro w'
                                                  go_simp
                                                  with_reducible rfl
                                                rotate_left
                                                · simp only [Act.put, List.setIfInBounds_toArray, List.set_cons_zero, List.set_cons_succ, i64_w, i32_w]
                                                  rfl
                                                refine done_ (by kernel_rfl) ?_
                                                try go_wp2
                                                have n0_ := Aside0.mk (Kd.R_drew HO_1.out)
                                                have n1_ := Aside0.mk (blk_drew BK1134.out)
                                                have n2_ := Aside0.mk (blk_drew BK1136.out)
                                                have n3_ := Aside0.mk (Kept.drew HK.out)
                                                have n4_ := Aside0.mk (below_drew1 HB.out)
                                                clear HO_1
                                                clear BK1134
                                                clear BK1136
                                                clear HK
                                                clear HB
                                                have HO_1 := n0_
                                                have BK1134 := n1_
                                                have BK1136 := n2_
                                                have HK := n3_
                                                have HB := n4_
                                                clear n0_ n1_ n2_ n3_ n4_
                                                obtain ⟨Ao30, co30, eo30⟩ := Kd.R_slice HO_1.out
                                                (first | subst eo30 | (injection eo30 with f1_ f2_ f3_; have f4_ := f1_.symm; have f5_ := f3_.symm; clear f1_ f2_ f3_; subst f4_; subst f5_))
                                                have p1138 : 0 ≤ ((ji20) : Int) := of_decide_eq_true (by first | (with_reducible assumption) | assumption)
                                                have q1138 : (ji20) < (x1_4.length : Int) := of_decide_eq_true (by first | (with_reducible assumption) | assumption)
                                                obtain ⟨ad1138, e1138, hx1138_0⟩ := Kd.at_int (Kd.R_reads' HO_1.out).2.2 (ji20) p1138 q1138
                                                cases e1138
                                                replace p1138 := eq_true p1138
                                                replace q1138 := eq_true q1138
                                                have p1139 : 0 ≤ ((ji23) : Int) := of_decide_eq_true (by first | (with_reducible assumption) | assumption)
                                                have q1139 : (ji23) < (((rd_T87 l0_1 x18_2).f1).length : Int) := of_decide_eq_true (by first | (with_reducible assumption) | assumption)
                                                obtain ⟨ad1139, e1139, hx1139_0⟩ := Kd.at_int HR1135_1.out (ji23) p1139 q1139
                                                have hw1139_0 := hx1139_0
                                                obtain rfl : ad1137 = ad1139 := (by injection e1139)
                                                replace hx1139_0 := (HB.out.cell (World.block_lt_of_cell? w0 _ hx1139_0)).trans hx1139_0
                                                replace p1139 := eq_true p1139
                                                replace q1139 := eq_true q1139
                                                refine start_ (n := 17) (S := fun w' => w'.cell? ⟨gb1136, 0, none⟩ = some (.int .i64 ((rd_T87 l0_1 x18_2).f0)) ∧ w'.cell? ⟨gb1136, 1, none⟩ = some (.slice (some ad1137) ((rd_T87 l0_1 x18_2).f1).length c1135_1) ∧ w'.cell? (ad1138.add ((ji20)).toNat) = some (.int .i64 (rd x1_4 (ji20))) ∧ w'.cell? (ad1137.add ((ji23)).toNat) = some (.int .i64 (rd ((rd_T87 l0_1 x18_2).f1) (ji23)))) (ds := [16]) #[false, false, false, false, false, false, false, false, false, false, false, false, false, false, false, false, false] (by kernel_rfl) rfl rfl ⟨(blk_cell BK1136.out 0).trans rfl, (blk_cell BK1136.out 1).trans rfl, hx1138_0, ((HB.out.cell (World.block_lt_of_cell? w0 _ hw1139_0)).trans hw1139_0)⟩ (fun hHeld => ?_); refine with_tabW impl_closePartition.tab16 impl_closePartition.bits16 (fun HT_ HW_ => ?_)
                                                generalize w28.drew = w29 at HO_1 BK1134 BK1136 HK HB hx1138_0 hx1139_0 hHeld ⊢
                                                refine pure_ (i := 0) (N := some 42) (v := ?_) (a' := ?_) #[true, false, false, false, false, false, false, false, false, false, false, false, false, false, false, false, false] rfl rfl (any_of HT_.out (by kernel_rfl)) (fun _ _ _ h => h) (Or.inl ⟨by rfl, ?_⟩) ?_ ?_
                                                rotate_left
                                                · intro w'
                                                  go_simp
                                                  with_reducible rfl
                                                rotate_left
                                                · simp only [Act.put, List.setIfInBounds_toArray, List.set_cons_zero, List.set_cons_succ, i64_w, i32_w]
                                                  rfl
                                                refine pure_ (i := 1) (N := some 43) (v := ?_) (a' := ?_) #[true, true, false, false, false, false, false, false, false, false, false, false, false, false, false, false, false] rfl rfl (any_of HT_.out (by kernel_rfl)) (fun _ _ _ h => h) (Or.inl ⟨by rfl, ?_⟩) ?_ ?_
                                                rotate_left
                                                · intro w'
                                                  go_simp
                                                  with_reducible rfl
                                                rotate_left
                                                · simp only [Act.put, List.setIfInBounds_toArray, List.set_cons_zero, List.set_cons_succ, i64_w, i32_w]
                                                  rfl
                                                refine pure_ (i := 2) (N := some 44) (v := ?_) (a' := ?_) #[true, true, true, false, false, false, false, false, false, false, false, false, false, false, false, false, false] rfl rfl (any_of HT_.out (by kernel_rfl)) (fun _ _ _ h => h) (Or.inl ⟨by rfl, ?_⟩) ?_ ?_
                                                rotate_left
                                                · intro w'
                                                  go_simp
                                                  with_reducible rfl
                                                rotate_left
                                                · simp only [Act.put, List.setIfInBounds_toArray, List.set_cons_zero, List.set_cons_succ, i64_w, i32_w]
                                                  rfl
                                                refine pure_ (i := 4) (N := some 46) (v := ?_) (a' := ?_) #[true, true, true, false, true, false, false, false, false, false, false, false, false, false, false, false, false] rfl rfl (any_of HT_.out (by kernel_rfl)) (fun _ _ _ h => h) (Or.inl ⟨by rfl, ?_⟩) ?_ ?_
                                                rotate_left
                                                · intro w'
                                                  go_simp
                                                  with_reducible rfl
                                                rotate_left
                                                · simp only [Act.put, List.setIfInBounds_toArray, List.set_cons_zero, List.set_cons_succ, i64_w, i32_w]
                                                  rfl
                                                refine pure_ (i := 5) (N := some 47) (v := ?_) (a' := ?_) #[true, true, true, false, true, true, false, false, false, false, false, false, false, false, false, false, false] rfl rfl (any_of HT_.out (by kernel_rfl)) (fun _ _ _ h => h) (Or.inl ⟨by rfl, ?_⟩) ?_ ?_
                                                rotate_left
                                                · intro w'
                                                  go_simp
                                                  with_reducible rfl
                                                rotate_left
                                                · simp only [Act.put, List.setIfInBounds_toArray, List.set_cons_zero, List.set_cons_succ, i64_w, i32_w]
                                                  rfl
                                                refine pure_ (i := 6) (N := some 48) (v := ?_) (a' := ?_) #[true, true, true, false, true, true, true, false, false, false, false, false, false, false, false, false, false] rfl rfl (any_of HT_.out (by kernel_rfl)) (fun _ _ _ h => h) (Or.inl ⟨by rfl, ?_⟩) ?_ ?_
                                                rotate_left
                                                · intro w'
                                                  go_simp
                                                  with_reducible rfl
                                                rotate_left
                                                · simp only [Act.put, List.setIfInBounds_toArray, List.set_cons_zero, List.set_cons_succ, i64_w, i32_w]
                                                  rfl
                                                refine pure_ (i := 7) (N := some 49) (v := ?_) (a' := ?_) #[true, true, true, false, true, true, true, true, false, false, false, false, false, false, false, false, false] rfl rfl (any_of HT_.out (by kernel_rfl)) (fun _ _ _ h => h) (Or.inl ⟨by rfl, ?_⟩) ?_ ?_
                                                rotate_left
                                                · intro w'
                                                  go_simp
                                                  with_reducible rfl
                                                rotate_left
                                                · simp only [Act.put, List.setIfInBounds_toArray, List.set_cons_zero, List.set_cons_succ, i64_w, i32_w]
                                                  rfl
                                                refine pure_ (i := 9) (N := some 51) (v := ?_) (a' := ?_) #[true, true, true, false, true, true, true, true, false, true, false, false, false, false, false, false, false] rfl rfl (any_of HT_.out (by kernel_rfl)) (fun _ _ _ h => h) (Or.inl ⟨by rfl, ?_⟩) ?_ ?_
                                                rotate_left
                                                · intro w'
                                                  go_simp
                                                  with_reducible rfl
                                                rotate_left
                                                · simp only [Act.put, List.setIfInBounds_toArray, List.set_cons_zero, List.set_cons_succ, i64_w, i32_w]
                                                  rfl
                                                refine pure_ (i := 11) (N := some 53) (v := ?_) (a' := ?_) #[true, true, true, false, true, true, true, true, false, true, false, true, false, false, false, false, false] rfl rfl (any_of HT_.out (by kernel_rfl)) (fun _ _ _ h => h) (Or.inl ⟨by rfl, ?_⟩) ?_ ?_
                                                rotate_left
                                                · intro w'
                                                  go_simp
                                                  with_reducible rfl
                                                rotate_left
                                                · simp only [Act.put, List.setIfInBounds_toArray, List.set_cons_zero, List.set_cons_succ, i64_w, i32_w]
                                                  rfl
                                                refine take_ (i := 3) (N := some 45) (v := ?_) (a' := ?_) #[true, true, true, true, true, true, true, true, false, true, false, true, false, false, false, false, false] rfl rfl (take_ofW HT_.out HW_.out (by kernel_rfl)) (fun _ _ _ h => h) (Or.inl ⟨by rfl, ?_⟩) hHeld ?_ ?_
                                                rotate_left
                                                · rintro w' ⟨s0, s1, s2, s3⟩
                                                  go_simp
                                                  with_reducible rfl
                                                rotate_left
                                                · simp only [Act.put, List.setIfInBounds_toArray, List.set_cons_zero, List.set_cons_succ, i64_w, i32_w]
                                                  rfl
                                                refine take_ (i := 8) (N := some 50) (v := ?_) (a' := ?_) #[true, true, true, true, true, true, true, true, true, true, false, true, false, false, false, false, false] rfl rfl (take_ofW HT_.out HW_.out (by kernel_rfl)) (fun _ _ _ h => h) (Or.inl ⟨by rfl, ?_⟩) hHeld ?_ ?_
                                                rotate_left
                                                · rintro w' ⟨s0, s1, s2, s3⟩
                                                  go_simp
                                                  with_reducible rfl
                                                rotate_left
                                                · simp only [Act.put, List.setIfInBounds_toArray, List.set_cons_zero, List.set_cons_succ, i64_w, i32_w]
                                                  rfl
                                                refine pure_ (i := 10) (N := some 52) (v := ?_) (a' := ?_) #[true, true, true, true, true, true, true, true, true, true, true, true, false, false, false, false, false] rfl rfl (any_of HT_.out (by kernel_rfl)) (fun _ _ _ h => h) (Or.inl ⟨by rfl, ?_⟩) ?_ ?_
                                                rotate_left
                                                · intro w'
                                                  go_simp
                                                  with_reducible rfl
                                                rotate_left
                                                · simp only [Act.put, List.setIfInBounds_toArray, List.set_cons_zero, List.set_cons_succ, i64_w, i32_w]
                                                  rfl
                                                refine pure_ (i := 12) (N := some 54) (v := ?_) (a' := ?_) #[true, true, true, true, true, true, true, true, true, true, true, true, true, false, false, false, false] rfl rfl (any_of HT_.out (by kernel_rfl)) (fun _ _ _ h => h) (Or.inl ⟨by rfl, ?_⟩) ?_ ?_
                                                rotate_left
                                                · intro w'
                                                  go_simp
                                                  with_reducible rfl
                                                rotate_left
                                                · simp only [Act.put, List.setIfInBounds_toArray, List.set_cons_zero, List.set_cons_succ, i64_w, i32_w]
                                                  rfl
                                                refine pure_ (i := 13) (N := some 55) (v := ?_) (a' := ?_) #[true, true, true, true, true, true, true, true, true, true, true, true, true, true, false, false, false] rfl rfl (any_of HT_.out (by kernel_rfl)) (fun _ _ _ h => h) (Or.inl ⟨by rfl, ?_⟩) ?_ ?_
                                                rotate_left
                                                · intro w'
                                                  go_simp
                                                  with_reducible rfl
                                                rotate_left
                                                · simp only [Act.put, List.setIfInBounds_toArray, List.set_cons_zero, List.set_cons_succ, i64_w, i32_w]
                                                  rfl
                                                refine pure_ (i := 14) (N := some 56) (v := ?_) (a' := ?_) #[true, true, true, true, true, true, true, true, true, true, true, true, true, true, true, false, false] rfl rfl (any_of HT_.out (by kernel_rfl)) (fun _ _ _ h => h) (Or.inl ⟨by rfl, ?_⟩) ?_ ?_
                                                rotate_left
                                                · intro w'
                                                  go_simp
                                                  with_reducible rfl
                                                rotate_left
                                                · simp only [Act.put, List.setIfInBounds_toArray, List.set_cons_zero, List.set_cons_succ, i64_w, i32_w]
                                                  rfl
                                                refine take_ (i := 15) (N := some 57) (v := ?_) (a' := ?_) #[true, true, true, true, true, true, true, true, true, true, true, true, true, true, true, true, false] rfl rfl (take_ofW HT_.out HW_.out (by kernel_rfl)) (fun _ _ _ h => h) (Or.inl ⟨by rfl, ?_⟩) hHeld ?_ ?_
                                                rotate_left
                                                · rintro w' ⟨s0, s1, s2, s3⟩
                                                  go_simp
                                                  with_reducible rfl
                                                rotate_left
                                                · simp only [Act.put, List.setIfInBounds_toArray, List.set_cons_zero, List.set_cons_succ, i64_w, i32_w]
                                                  rfl
                                                refine last_ (i := 16) (N := some 58) #[true, true, true, true, true, true, true, true, true, true, true, true, true, true, true, true, true] rfl rfl (one_of HT_.out (by kernel_rfl)) (by decide) (fun K hK => ?_)
                                                refine goes_ Try.func138 (by kernel_rfl) rfl #[.slice (some ad1138) x1_4.length co30, .int .i64 (rd ((rd_T87 l0_1 x18_2).f1) x31_4), .int .i64 (rd ((rd_T87 l0_1 x18_2).f1) (ji23))] (by rfl) rfl rfl (by (try simp only [List.map_toArray, List.map_cons, List.map_nil]); first | done | (simp only [hji23]; rfl) | rfl | (simp only [List.length_drop, List.length_take]; rfl)) ?_
                                                with_reducible refine (impl_unite.calls k4 (fun k_ => some k_ = (.slice (some ad1138) x1_4.length co30 : Value).ownBlock) (.slice (some ad1138) x1_4.length co30) x1_4 (rd ((rd_T87 l0_1 x18_2).f1) x31_4) (rd ((rd_T87 l0_1 x18_2).f1) (ji23)) true t1141 w0 _ ?side1 ?side2 A26.out).mono ?_
                                                (case side1 => repeat (first | (with_reducible first | exact HB.out | apply below_alloc | apply pw_below_drewN | apply below_drew1 | refine below_set ?_ GE1134.out | refine below_set ?_ GE1136.out) | exact HB.out))
                                                (case side2 => exact Kd.R_tight rfl HO_1.out)
                                                rintro e w31 ⟨rfl, hy0, hb, hkp⟩
                                                refine ⟨_, rfl, ?_⟩
                                                have n0_ := Aside0.mk (Kd.R_reok rfl hy0 (fun k_ e_ => HO_1.out.1 k_ e_))
                                                have n1_ := Aside0.mk (blk_kept (by (with_reducible repeat (first | refine blk_drewN ?_ _ | refine blk_drew ?_ | refine blk_alloc ?_ _)); exact BK1134.out) hkp (fun hs_ => (fun e_ => (Kd.R_ne HO_1.out BK1134.out (by decide)) e_) hs_))
                                                have n2_ := Aside0.mk (blk_kept (by (with_reducible repeat (first | refine blk_drewN ?_ _ | refine blk_drew ?_ | refine blk_alloc ?_ _)); exact BK1136.out) hkp (fun hs_ => (fun e_ => (Kd.R_ne HO_1.out BK1136.out (by decide)) e_) hs_))
                                                have n3_ := Aside0.mk (Kept.then_ (S := (fun k_ => P1_ k_)) (by repeat (first | (with_reducible first | exact HK.out | apply Kept.alloc | apply Kept.drewN | apply Kept.drew | refine Kept.setCell ?_ (.inr GW1134.out) _ | refine Kept.setCell ?_ (.inr GW1136.out) _) | exact HK.out)) hkp (fun k_ hs_ => (fun e_ => (HO_1.out.1 k_ e_.symm)) hs_))
                                                have n4_ := Aside0.mk (hb)
                                                clear HO_1
                                                clear BK1134
                                                clear BK1136
                                                clear HK
                                                clear HB
                                                have HO_1 := n0_
                                                have BK1134 := n1_
                                                have BK1136 := n2_
                                                have HK := n3_
                                                have HB := n4_
                                                clear n0_ n1_ n2_ n3_ n4_
                                                (try clear hb)
                                                (try clear hkp)
                                                (try clear hy0)
                                                refine hK.out _ _ ?_
                                                clear hK K
                                                refine norm_ (a' := ?_) ?_ ?_
                                                rotate_left
                                                · show Act.put _ (some 58) _ = _
                                                  simp only [Act.put, List.setIfInBounds_toArray, List.set_cons_zero, List.set_cons_succ, i64_w, i32_w]
                                                  rfl
                                                refine done_ (done_of HT_.out (by kernel_rfl)) ?_
                                                try go_wp2
                                                go_roundg k4
                                                case measure => have := HK1.out; have := HK2.out; have := HK3.out; have := HK4.out; omega
                                                case rel => exact ⟨(t1141), (true), (true), (wrap64 (x31_4 + 1)), (by first | rfl | (simp; done) | (simp [*]; done)), (by first | rfl | (simp; done) | (simp [*]; done)), (by first | rfl | (simp; done) | (simp [*]; done)), H', ⟨by have := HK1.out; have := HK2.out; have := HK3.out; have := HK4.out; omega⟩, ⟨by (with_reducible repeat (first | apply Kd.R_alloc | apply Kd.R_drewN | apply Kd.R_drew)); exact HO_1.out⟩, ⟨by (with_reducible repeat (first | refine blk_drewN ?_ _ | refine blk_drew ?_ | refine blk_alloc ?_ _)); exact BK1134.out⟩, ⟨by (with_reducible repeat (first | refine blk_drewN ?_ _ | refine blk_drew ?_ | refine blk_alloc ?_ _)); exact BK1136.out⟩, ⟨by repeat (first | (with_reducible first | exact HK.out | apply Kept.alloc | apply Kept.drewN | apply Kept.drew | refine Kept.setCell ?_ (.inr GW1134.out) _ | refine Kept.setCell ?_ (.inr GW1136.out) _) | exact HK.out)⟩, ⟨by repeat (first | (with_reducible first | exact HB.out | apply below_alloc | apply pw_below_drewN | apply below_drew1 | refine below_set ?_ GE1134.out | refine below_set ?_ GE1136.out) | exact HB.out)⟩⟩
                                              · replace c27 := Bool.eq_false_iff.mpr c27
                                                subst c27
                                                have H1 : (impl_closePartition.l3 k4 t1141 x5_4 x6_4 x9_3 x10_3 l0_1 (l0_1.length : Int) x18_2 ((rd_T87 l0_1 x18_2).f1) (((rd_T87 l0_1 x18_2).f1).length : Int) (wrap64 (x31_4 + 1)) a0_0 l0_1 ((rd_T87 l0_1 x18_2).f0) ((rd_T87 l0_1 x18_2).f1)) = some (r1, r2) := by rw [if_neg (show ¬ (false = true) by decide)] at H; exact H
                                                clear H
                                                have H := H1
                                                clear H1
                                                have H' := Aside0.mk H
                                                clear H
                                                have p1137 : 0 ≤ (x31_4 : Int) := of_decide_eq_true (by first | (with_reducible assumption) | assumption)
                                                have q1137 : x31_4 < (((rd_T87 l0_1 x18_2).f1).length : Int) := of_decide_eq_true (by first | (with_reducible assumption) | assumption)
                                                obtain ⟨ad1137, e1137, hx1137_0⟩ := Kd.at_int HR1135_1.out x31_4 p1137 q1137
                                                cases e1137
                                                replace hx1137_0 := (HB.out.cell (World.block_lt_of_cell? w0 _ hx1137_0)).trans hx1137_0
                                                replace p1137 := eq_true p1137
                                                replace q1137 := eq_true q1137
                                                try go_wp2
                                                have n0_ := Aside0.mk (Kd.R_drew HO_1.out)
                                                have n1_ := Aside0.mk (blk_drew BK1134.out)
                                                have n2_ := Aside0.mk (blk_drew BK1136.out)
                                                have n3_ := Aside0.mk (Kept.drew HK.out)
                                                have n4_ := Aside0.mk (below_drew1 HB.out)
                                                clear HO_1
                                                clear BK1134
                                                clear BK1136
                                                clear HK
                                                clear HB
                                                have HO_1 := n0_
                                                have BK1134 := n1_
                                                have BK1136 := n2_
                                                have HK := n3_
                                                have HB := n4_
                                                clear n0_ n1_ n2_ n3_ n4_
                                                refine start_ (n := 7) (S := fun w' => w'.cell? ⟨gb1134, 0, none⟩ = some (.int .i64 a0_0) ∧ w'.cell? ⟨gb1134, 1, none⟩ = some (.slice (some ad1135) l0_1.length c0_1)) (ds := []) #[false, false, false, false, false, false, false] (by kernel_rfl) rfl rfl ⟨(blk_cell BK1134.out 0).trans rfl, (blk_cell BK1134.out 1).trans rfl⟩ (fun hHeld => ?_)
                                                generalize wr.drew = w32 at HO_1 BK1134 BK1136 HK HB hHeld ⊢
                                                refine pure_ (i := 0) (N := some 36) (v := ?_) (a' := ?_) #[true, false, false, false, false, false, false] rfl rfl (by kernel_rfl) (fun _ _ _ h => h) (Or.inl ⟨by rfl, ?_⟩) ?_ ?_
                                                rotate_left
                                                · intro w'
                                                  go_simp
                                                  with_reducible rfl
                                                rotate_left
                                                · simp only [Act.put, List.setIfInBounds_toArray, List.set_cons_zero, List.set_cons_succ, i64_w, i32_w]
                                                  rfl
                                                refine pure_ (i := 1) (N := some 37) (v := ?_) (a' := ?_) #[true, true, false, false, false, false, false] rfl rfl (by kernel_rfl) (fun _ _ _ h => h) (Or.inl ⟨by rfl, ?_⟩) ?_ ?_
                                                rotate_left
                                                · intro w'
                                                  go_simp
                                                  with_reducible rfl
                                                rotate_left
                                                · simp only [Act.put, List.setIfInBounds_toArray, List.set_cons_zero, List.set_cons_succ, i64_w, i32_w]
                                                  rfl
                                                refine pure_ (i := 2) (N := some 38) (v := ?_) (a' := ?_) #[true, true, true, false, false, false, false] rfl rfl (by kernel_rfl) (fun _ _ _ h => h) (Or.inl ⟨by rfl, ?_⟩) ?_ ?_
                                                rotate_left
                                                · intro w'
                                                  go_simp
                                                  with_reducible rfl
                                                rotate_left
                                                · simp only [Act.put, List.setIfInBounds_toArray, List.set_cons_zero, List.set_cons_succ, i64_w, i32_w]
                                                  rfl
                                                refine pure_ (i := 3) (N := some 39) (v := ?_) (a' := ?_) #[true, true, true, true, false, false, false] rfl rfl (by kernel_rfl) (fun _ _ _ h => h) (Or.inl ⟨by rfl, ?_⟩) ?_ ?_
                                                rotate_left
                                                · intro w'
                                                  go_simp
                                                  with_reducible rfl
                                                rotate_left
                                                · simp only [Act.put, List.setIfInBounds_toArray, List.set_cons_zero, List.set_cons_succ, i64_w, i32_w]
                                                  rfl
                                                refine take_ (i := 4) (N := some 40) (v := ?_) (a' := ?_) #[true, true, true, true, true, false, false] rfl rfl (by kernel_rfl) (fun _ _ _ h => h) (Or.inl ⟨by rfl, ?_⟩) hHeld ?_ ?_
                                                rotate_left
                                                · rintro w' ⟨s0, s1⟩
                                                  go_simp
                                                  with_reducible rfl
                                                rotate_left
                                                · simp only [Act.put, List.setIfInBounds_toArray, List.set_cons_zero, List.set_cons_succ, i64_w, i32_w]
                                                  rfl
                                                refine pure_ (i := 5) (N := some 41) (v := ?_) (a' := ?_) #[true, true, true, true, true, true, false] rfl rfl (by kernel_rfl) (fun _ _ _ h => h) (Or.inl ⟨by rfl, ?_⟩) ?_ ?_
                                                rotate_left
                                                · intro w'
                                                  go_simp
                                                  with_reducible rfl
                                                rotate_left
                                                · simp only [Act.put, List.setIfInBounds_toArray, List.set_cons_zero, List.set_cons_succ, i64_w, i32_w]
                                                  rfl
                                                refine pure_ (i := 6) (N := some 13) (v := ?_) (a' := ?_) #[true, true, true, true, true, true, true] rfl rfl (by kernel_rfl) (fun _ _ _ h => h) (Or.inl ⟨by rfl, ?_⟩) ?_ ?_
                                                rotate_left
                                                · intro w'
                                                  go_simp
                                                  with_reducible rfl
                                                rotate_left
                                                · simp only [Act.put, List.setIfInBounds_toArray, List.set_cons_zero, List.set_cons_succ, i64_w, i32_w]
                                                  rfl
                                                refine done_ (by kernel_rfl) ?_
                                                try go_wp2
                                                have n0_ := Aside0.mk (Kd.R_drew HO_1.out)
                                                have n1_ := Aside0.mk (blk_drew BK1134.out)
                                                have n2_ := Aside0.mk (blk_drew BK1136.out)
                                                have n3_ := Aside0.mk (Kept.drew HK.out)
                                                have n4_ := Aside0.mk (below_drew1 HB.out)
                                                clear HO_1
                                                clear BK1134
                                                clear BK1136
                                                clear HK
                                                clear HB
                                                have HO_1 := n0_
                                                have BK1134 := n1_
                                                have BK1136 := n2_
                                                have HK := n3_
                                                have HB := n4_
                                                clear n0_ n1_ n2_ n3_ n4_
                                                obtain ⟨Ao34, co34, eo34⟩ := Kd.R_slice HO_1.out
                                                (first | subst eo34 | (injection eo34 with f1_ f2_ f3_; have f4_ := f1_.symm; have f5_ := f3_.symm; clear f1_ f2_ f3_; subst f4_; subst f5_))
                                                have p1138 : 0 ≤ ((ji20) : Int) := of_decide_eq_true (by first | (with_reducible assumption) | assumption)
                                                have q1138 : (ji20) < (x1_4.length : Int) := of_decide_eq_true (by first | (with_reducible assumption) | assumption)
                                                obtain ⟨ad1138, e1138, hx1138_0⟩ := Kd.at_int (Kd.R_reads' HO_1.out).2.2 (ji20) p1138 q1138
                                                cases e1138
                                                replace p1138 := eq_true p1138
                                                replace q1138 := eq_true q1138
                                                have p1139 : 0 ≤ ((ji23) : Int) := of_decide_eq_true (by first | (with_reducible assumption) | assumption)
                                                have q1139 : (ji23) < (((rd_T87 l0_1 x18_2).f1).length : Int) := of_decide_eq_true (by first | (with_reducible assumption) | assumption)
                                                obtain ⟨ad1139, e1139, hx1139_0⟩ := Kd.at_int HR1135_1.out (ji23) p1139 q1139
                                                have hw1139_0 := hx1139_0
                                                obtain rfl : ad1137 = ad1139 := (by injection e1139)
                                                replace hx1139_0 := (HB.out.cell (World.block_lt_of_cell? w0 _ hx1139_0)).trans hx1139_0
                                                replace p1139 := eq_true p1139
                                                replace q1139 := eq_true q1139
                                                refine start_ (n := 17) (S := fun w' => w'.cell? ⟨gb1136, 0, none⟩ = some (.int .i64 ((rd_T87 l0_1 x18_2).f0)) ∧ w'.cell? ⟨gb1136, 1, none⟩ = some (.slice (some ad1137) ((rd_T87 l0_1 x18_2).f1).length c1135_1) ∧ w'.cell? (ad1138.add ((ji20)).toNat) = some (.int .i64 (rd x1_4 (ji20))) ∧ w'.cell? (ad1137.add ((ji23)).toNat) = some (.int .i64 (rd ((rd_T87 l0_1 x18_2).f1) (ji23)))) (ds := [16]) #[false, false, false, false, false, false, false, false, false, false, false, false, false, false, false, false, false] (by kernel_rfl) rfl rfl ⟨(blk_cell BK1136.out 0).trans rfl, (blk_cell BK1136.out 1).trans rfl, hx1138_0, ((HB.out.cell (World.block_lt_of_cell? w0 _ hw1139_0)).trans hw1139_0)⟩ (fun hHeld => ?_); refine with_tabW impl_closePartition.tab16 impl_closePartition.bits16 (fun HT_ HW_ => ?_)
                                                generalize w32.drew = w33 at HO_1 BK1134 BK1136 HK HB hx1138_0 hx1139_0 hHeld ⊢
                                                refine pure_ (i := 0) (N := some 42) (v := ?_) (a' := ?_) #[true, false, false, false, false, false, false, false, false, false, false, false, false, false, false, false, false] rfl rfl (any_of HT_.out (by kernel_rfl)) (fun _ _ _ h => h) (Or.inl ⟨by rfl, ?_⟩) ?_ ?_
                                                rotate_left
                                                · intro w'
                                                  go_simp
                                                  with_reducible rfl
                                                rotate_left
                                                · simp only [Act.put, List.setIfInBounds_toArray, List.set_cons_zero, List.set_cons_succ, i64_w, i32_w]
                                                  rfl
                                                refine pure_ (i := 1) (N := some 43) (v := ?_) (a' := ?_) #[true, true, false, false, false, false, false, false, false, false, false, false, false, false, false, false, false] rfl rfl (any_of HT_.out (by kernel_rfl)) (fun _ _ _ h => h) (Or.inl ⟨by rfl, ?_⟩) ?_ ?_
                                                rotate_left
                                                · intro w'
                                                  go_simp
                                                  with_reducible rfl
                                                rotate_left
                                                · simp only [Act.put, List.setIfInBounds_toArray, List.set_cons_zero, List.set_cons_succ, i64_w, i32_w]
                                                  rfl
                                                refine pure_ (i := 2) (N := some 44) (v := ?_) (a' := ?_) #[true, true, true, false, false, false, false, false, false, false, false, false, false, false, false, false, false] rfl rfl (any_of HT_.out (by kernel_rfl)) (fun _ _ _ h => h) (Or.inl ⟨by rfl, ?_⟩) ?_ ?_
                                                rotate_left
                                                · intro w'
                                                  go_simp
                                                  with_reducible rfl
                                                rotate_left
                                                · simp only [Act.put, List.setIfInBounds_toArray, List.set_cons_zero, List.set_cons_succ, i64_w, i32_w]
                                                  rfl
                                                refine pure_ (i := 4) (N := some 46) (v := ?_) (a' := ?_) #[true, true, true, false, true, false, false, false, false, false, false, false, false, false, false, false, false] rfl rfl (any_of HT_.out (by kernel_rfl)) (fun _ _ _ h => h) (Or.inl ⟨by rfl, ?_⟩) ?_ ?_
                                                rotate_left
                                                · intro w'
                                                  go_simp
                                                  with_reducible rfl
                                                rotate_left
                                                · simp only [Act.put, List.setIfInBounds_toArray, List.set_cons_zero, List.set_cons_succ, i64_w, i32_w]
                                                  rfl
                                                refine pure_ (i := 5) (N := some 47) (v := ?_) (a' := ?_) #[true, true, true, false, true, true, false, false, false, false, false, false, false, false, false, false, false] rfl rfl (any_of HT_.out (by kernel_rfl)) (fun _ _ _ h => h) (Or.inl ⟨by rfl, ?_⟩) ?_ ?_
                                                rotate_left
                                                · intro w'
                                                  go_simp
                                                  with_reducible rfl
                                                rotate_left
                                                · simp only [Act.put, List.setIfInBounds_toArray, List.set_cons_zero, List.set_cons_succ, i64_w, i32_w]
                                                  rfl
                                                refine pure_ (i := 6) (N := some 48) (v := ?_) (a' := ?_) #[true, true, true, false, true, true, true, false, false, false, false, false, false, false, false, false, false] rfl rfl (any_of HT_.out (by kernel_rfl)) (fun _ _ _ h => h) (Or.inl ⟨by rfl, ?_⟩) ?_ ?_
                                                rotate_left
                                                · intro w'
                                                  go_simp
                                                  with_reducible rfl
                                                rotate_left
                                                · simp only [Act.put, List.setIfInBounds_toArray, List.set_cons_zero, List.set_cons_succ, i64_w, i32_w]
                                                  rfl
                                                refine pure_ (i := 7) (N := some 49) (v := ?_) (a' := ?_) #[true, true, true, false, true, true, true, true, false, false, false, false, false, false, false, false, false] rfl rfl (any_of HT_.out (by kernel_rfl)) (fun _ _ _ h => h) (Or.inl ⟨by rfl, ?_⟩) ?_ ?_
                                                rotate_left
                                                · intro w'
                                                  go_simp
                                                  with_reducible rfl
                                                rotate_left
                                                · simp only [Act.put, List.setIfInBounds_toArray, List.set_cons_zero, List.set_cons_succ, i64_w, i32_w]
                                                  rfl
                                                refine pure_ (i := 9) (N := some 51) (v := ?_) (a' := ?_) #[true, true, true, false, true, true, true, true, false, true, false, false, false, false, false, false, false] rfl rfl (any_of HT_.out (by kernel_rfl)) (fun _ _ _ h => h) (Or.inl ⟨by rfl, ?_⟩) ?_ ?_
                                                rotate_left
                                                · intro w'
                                                  go_simp
                                                  with_reducible rfl
                                                rotate_left
                                                · simp only [Act.put, List.setIfInBounds_toArray, List.set_cons_zero, List.set_cons_succ, i64_w, i32_w]
                                                  rfl
                                                refine pure_ (i := 11) (N := some 53) (v := ?_) (a' := ?_) #[true, true, true, false, true, true, true, true, false, true, false, true, false, false, false, false, false] rfl rfl (any_of HT_.out (by kernel_rfl)) (fun _ _ _ h => h) (Or.inl ⟨by rfl, ?_⟩) ?_ ?_
                                                rotate_left
                                                · intro w'
                                                  go_simp
                                                  with_reducible rfl
                                                rotate_left
                                                · simp only [Act.put, List.setIfInBounds_toArray, List.set_cons_zero, List.set_cons_succ, i64_w, i32_w]
                                                  rfl
                                                refine take_ (i := 3) (N := some 45) (v := ?_) (a' := ?_) #[true, true, true, true, true, true, true, true, false, true, false, true, false, false, false, false, false] rfl rfl (take_ofW HT_.out HW_.out (by kernel_rfl)) (fun _ _ _ h => h) (Or.inl ⟨by rfl, ?_⟩) hHeld ?_ ?_
                                                rotate_left
                                                · rintro w' ⟨s0, s1, s2, s3⟩
                                                  go_simp
                                                  with_reducible rfl
                                                rotate_left
                                                · simp only [Act.put, List.setIfInBounds_toArray, List.set_cons_zero, List.set_cons_succ, i64_w, i32_w]
                                                  rfl
                                                refine take_ (i := 8) (N := some 50) (v := ?_) (a' := ?_) #[true, true, true, true, true, true, true, true, true, true, false, true, false, false, false, false, false] rfl rfl (take_ofW HT_.out HW_.out (by kernel_rfl)) (fun _ _ _ h => h) (Or.inl ⟨by rfl, ?_⟩) hHeld ?_ ?_
                                                rotate_left
                                                · rintro w' ⟨s0, s1, s2, s3⟩
                                                  go_simp
                                                  with_reducible rfl
                                                rotate_left
                                                · simp only [Act.put, List.setIfInBounds_toArray, List.set_cons_zero, List.set_cons_succ, i64_w, i32_w]
                                                  rfl
                                                refine pure_ (i := 10) (N := some 52) (v := ?_) (a' := ?_) #[true, true, true, true, true, true, true, true, true, true, true, true, false, false, false, false, false] rfl rfl (any_of HT_.out (by kernel_rfl)) (fun _ _ _ h => h) (Or.inl ⟨by rfl, ?_⟩) ?_ ?_
                                                rotate_left
                                                · intro w'
                                                  go_simp
                                                  with_reducible rfl
                                                rotate_left
                                                · simp only [Act.put, List.setIfInBounds_toArray, List.set_cons_zero, List.set_cons_succ, i64_w, i32_w]
                                                  rfl
                                                refine pure_ (i := 12) (N := some 54) (v := ?_) (a' := ?_) #[true, true, true, true, true, true, true, true, true, true, true, true, true, false, false, false, false] rfl rfl (any_of HT_.out (by kernel_rfl)) (fun _ _ _ h => h) (Or.inl ⟨by rfl, ?_⟩) ?_ ?_
                                                rotate_left
                                                · intro w'
                                                  go_simp
                                                  with_reducible rfl
                                                rotate_left
                                                · simp only [Act.put, List.setIfInBounds_toArray, List.set_cons_zero, List.set_cons_succ, i64_w, i32_w]
                                                  rfl
                                                refine pure_ (i := 13) (N := some 55) (v := ?_) (a' := ?_) #[true, true, true, true, true, true, true, true, true, true, true, true, true, true, false, false, false] rfl rfl (any_of HT_.out (by kernel_rfl)) (fun _ _ _ h => h) (Or.inl ⟨by rfl, ?_⟩) ?_ ?_
                                                rotate_left
                                                · intro w'
                                                  go_simp
                                                  with_reducible rfl
                                                rotate_left
                                                · simp only [Act.put, List.setIfInBounds_toArray, List.set_cons_zero, List.set_cons_succ, i64_w, i32_w]
                                                  rfl
                                                refine pure_ (i := 14) (N := some 56) (v := ?_) (a' := ?_) #[true, true, true, true, true, true, true, true, true, true, true, true, true, true, true, false, false] rfl rfl (any_of HT_.out (by kernel_rfl)) (fun _ _ _ h => h) (Or.inl ⟨by rfl, ?_⟩) ?_ ?_
                                                rotate_left
                                                · intro w'
                                                  go_simp
                                                  with_reducible rfl
                                                rotate_left
                                                · simp only [Act.put, List.setIfInBounds_toArray, List.set_cons_zero, List.set_cons_succ, i64_w, i32_w]
                                                  rfl
                                                refine take_ (i := 15) (N := some 57) (v := ?_) (a' := ?_) #[true, true, true, true, true, true, true, true, true, true, true, true, true, true, true, true, false] rfl rfl (take_ofW HT_.out HW_.out (by kernel_rfl)) (fun _ _ _ h => h) (Or.inl ⟨by rfl, ?_⟩) hHeld ?_ ?_
                                                rotate_left
                                                · rintro w' ⟨s0, s1, s2, s3⟩
                                                  go_simp
                                                  with_reducible rfl
                                                rotate_left
                                                · simp only [Act.put, List.setIfInBounds_toArray, List.set_cons_zero, List.set_cons_succ, i64_w, i32_w]
                                                  rfl
                                                refine last_ (i := 16) (N := some 58) #[true, true, true, true, true, true, true, true, true, true, true, true, true, true, true, true, true] rfl rfl (one_of HT_.out (by kernel_rfl)) (by decide) (fun K hK => ?_)
                                                refine goes_ Try.func138 (by kernel_rfl) rfl #[.slice (some ad1138) x1_4.length co34, .int .i64 (rd ((rd_T87 l0_1 x18_2).f1) x31_4), .int .i64 (rd ((rd_T87 l0_1 x18_2).f1) (ji23))] (by rfl) rfl rfl (by (try simp only [List.map_toArray, List.map_cons, List.map_nil]); first | done | (simp only [hji23]; rfl) | rfl | (simp only [List.length_drop, List.length_take]; rfl)) ?_
                                                with_reducible refine (impl_unite.calls k4 (fun k_ => some k_ = (.slice (some ad1138) x1_4.length co34 : Value).ownBlock) (.slice (some ad1138) x1_4.length co34) x1_4 (rd ((rd_T87 l0_1 x18_2).f1) x31_4) (rd ((rd_T87 l0_1 x18_2).f1) (ji23)) false t1141 w0 _ ?side1 ?side2 A26.out).mono ?_
                                                (case side1 => repeat (first | (with_reducible first | exact HB.out | apply below_alloc | apply pw_below_drewN | apply below_drew1 | refine below_set ?_ GE1134.out | refine below_set ?_ GE1136.out) | exact HB.out))
                                                (case side2 => exact Kd.R_tight rfl HO_1.out)
                                                rintro e w35 ⟨rfl, hy0, hb, hkp⟩
                                                refine ⟨_, rfl, ?_⟩
                                                have n0_ := Aside0.mk (Kd.R_reok rfl hy0 (fun k_ e_ => HO_1.out.1 k_ e_))
                                                have n1_ := Aside0.mk (blk_kept (by (with_reducible repeat (first | refine blk_drewN ?_ _ | refine blk_drew ?_ | refine blk_alloc ?_ _)); exact BK1134.out) hkp (fun hs_ => (fun e_ => (Kd.R_ne HO_1.out BK1134.out (by decide)) e_) hs_))
                                                have n2_ := Aside0.mk (blk_kept (by (with_reducible repeat (first | refine blk_drewN ?_ _ | refine blk_drew ?_ | refine blk_alloc ?_ _)); exact BK1136.out) hkp (fun hs_ => (fun e_ => (Kd.R_ne HO_1.out BK1136.out (by decide)) e_) hs_))
                                                have n3_ := Aside0.mk (Kept.then_ (S := (fun k_ => P1_ k_)) (by repeat (first | (with_reducible first | exact HK.out | apply Kept.alloc | apply Kept.drewN | apply Kept.drew | refine Kept.setCell ?_ (.inr GW1134.out) _ | refine Kept.setCell ?_ (.inr GW1136.out) _) | exact HK.out)) hkp (fun k_ hs_ => (fun e_ => (HO_1.out.1 k_ e_.symm)) hs_))
                                                have n4_ := Aside0.mk (hb)
                                                clear HO_1
                                                clear BK1134
                                                clear BK1136
                                                clear HK
                                                clear HB
                                                have HO_1 := n0_
                                                have BK1134 := n1_
                                                have BK1136 := n2_
                                                have HK := n3_
                                                have HB := n4_
                                                clear n0_ n1_ n2_ n3_ n4_
                                                (try clear hb)
                                                (try clear hkp)
                                                (try clear hy0)
                                                refine hK.out _ _ ?_
                                                clear hK K
                                                refine norm_ (a' := ?_) ?_ ?_
                                                rotate_left
                                                · show Act.put _ (some 58) _ = _
                                                  simp only [Act.put, List.setIfInBounds_toArray, List.set_cons_zero, List.set_cons_succ, i64_w, i32_w]
                                                  rfl
                                                refine done_ (done_of HT_.out (by kernel_rfl)) ?_
                                                try go_wp2
                                                go_roundg k4
                                                case measure => have := HK1.out; have := HK2.out; have := HK3.out; have := HK4.out; omega
                                                case rel => exact ⟨(t1141), (x5_4), (x6_4), (wrap64 (x31_4 + 1)), (by first | rfl | (simp; done) | (simp [*]; done)), (by first | rfl | (simp; done) | (simp [*]; done)), (by first | rfl | (simp; done) | (simp [*]; done)), H', ⟨by have := HK1.out; have := HK2.out; have := HK3.out; have := HK4.out; omega⟩, ⟨by (with_reducible repeat (first | apply Kd.R_alloc | apply Kd.R_drewN | apply Kd.R_drew)); exact HO_1.out⟩, ⟨by (with_reducible repeat (first | refine blk_drewN ?_ _ | refine blk_drew ?_ | refine blk_alloc ?_ _)); exact BK1134.out⟩, ⟨by (with_reducible repeat (first | refine blk_drewN ?_ _ | refine blk_drew ?_ | refine blk_alloc ?_ _)); exact BK1136.out⟩, ⟨by repeat (first | (with_reducible first | exact HK.out | apply Kept.alloc | apply Kept.drewN | apply Kept.drew | refine Kept.setCell ?_ (.inr GW1134.out) _ | refine Kept.setCell ?_ (.inr GW1136.out) _) | exact HK.out)⟩, ⟨by repeat (first | (with_reducible first | exact HB.out | apply below_alloc | apply pw_below_drewN | apply below_drew1 | refine below_set ?_ GE1134.out | refine below_set ?_ GE1136.out) | exact HB.out)⟩⟩
                                            · rw [if_neg c25] at H
                                              exact absurd H (by simp)
                                          · rw [if_neg c24] at H
                                            exact absurd H (by simp)
                                        · rw [if_neg c22] at H
                                          exact absurd H (by simp)
                                      · rw [if_neg c21] at H
                                        exact absurd H (by simp)
                                · rw [if_neg c17] at H
                                  exact absurd H (by simp)
                              · rw [if_neg c16] at H
                                exact absurd H (by simp)
                            · rw [if_neg c15] at H
                              have c15b0 : decide (x31_4 < (((rd_T87 l0_1 x18_2).f1).length : Int)) = false := decide_eq_false c15
                              clear c15
                              have H' := Aside0.mk H
                              clear H
                              have hnb36 := NB1134_1136.out
                              have hnc36 := NB1136_1134.out
                              have hcz37_0 : wr.cell? ⟨gb1134, 0, none⟩ = some (.int .i64 a0_0) := (blk_cell BK1134.out 0).trans rfl
                              have hcz37_1 : wr.cell? ⟨gb1134, 1, none⟩ = some (.slice (some ad1135) l0_1.length c0_1) := (blk_cell BK1134.out 1).trans rfl
                              have hfz37_0 := blk_frozen BK1134.out 0
                              have hfz37_1 := blk_frozen BK1134.out 1
                              go_wp2
                              go_roundg k4
                              case measure => have := HK1.out; have := HK2.out; have := HK3.out; have := HK4.out; omega
                              case rel => exact ⟨(x1_4), (x5_4), (x6_4), (wrap64 (x9_3 * a0_0)), (wrap64 (x10_3 + 1)), (by first | rfl | (simp; done) | (simp [*]; done)), (by first | rfl | (simp; done) | (simp [*]; done)), (by first | rfl | (simp; done) | (simp [*]; done)), (by first | rfl | (simp; done) | (simp [*]; done)), H', ⟨by have := HK1.out; have := HK2.out; have := HK3.out; have := HK4.out; omega⟩, ⟨by (with_reducible repeat (first | apply Kd.R_alloc | apply Kd.R_drewN | apply Kd.R_drew)); exact HO_1.out⟩, ⟨by (with_reducible repeat (first | refine blk_drewN ?_ _ | refine blk_drew ?_ | refine blk_alloc ?_ _)); exact BK1134.out⟩, ⟨by (with_reducible repeat (first | refine blk_drewN ?_ _ | refine blk_drew ?_ | refine blk_alloc ?_ _)); exact BK1136.out⟩, ⟨by repeat (first | (with_reducible first | exact HK.out | apply Kept.alloc | apply Kept.drewN | apply Kept.drew | refine Kept.setCell ?_ (.inr GW1134.out) _ | refine Kept.setCell ?_ (.inr GW1136.out) _) | exact HK.out)⟩, ⟨by repeat (first | (with_reducible first | exact HB.out | apply below_alloc | apply pw_below_drewN | apply below_drew1 | refine below_set ?_ GE1134.out | refine below_set ?_ GE1136.out) | exact HB.out)⟩⟩
                      · rw [if_neg c12] at H
                        have c12b0 : decide (x10_3 < ((rd_T87 l0_1 x18_2).f0)) = false := decide_eq_false c12
                        clear c12
                        have H' := Aside0.mk H
                        clear H
                        have hnb38 := NB1136_1134.out
                        have hnc38 := NB1134_1136.out
                        have hcz39_0 : wr.cell? ⟨gb1136, 0, none⟩ = some (.int .i64 ((rd_T87 l0_1 x18_2).f0)) := (blk_cell BK1136.out 0).trans rfl
                        have hcz39_1 : wr.cell? ⟨gb1136, 1, none⟩ = some (.slice A1135_1 ((rd_T87 l0_1 x18_2).f1).length c1135_1) := (blk_cell BK1136.out 1).trans rfl
                        have hfz39_0 := blk_frozen BK1136.out 0
                        have hfz39_1 := blk_frozen BK1136.out 1
                        go_wp2
                        go_roundg k3
                        case measure => have := HK1.out; have := HK2.out; have := HK3.out; omega
                        case rel => exact ⟨(x1_3), (x5_3), (x6_3), (wrap64 (x18_2 + 1)), (by first | rfl | (simp; done) | (simp [*]; done)), (by first | rfl | (simp; done) | (simp [*]; done)), (by first | rfl | (simp; done) | (simp [*]; done)), H', ⟨by have := HK1.out; have := HK2.out; have := HK3.out; omega⟩, ⟨by (with_reducible repeat (first | apply Kd.R_alloc | apply Kd.R_drewN | apply Kd.R_drew)); exact HO_1.out⟩, ⟨by (with_reducible repeat (first | refine blk_drewN ?_ _ | refine blk_drew ?_ | refine blk_alloc ?_ _)); exact BK1134.out⟩, ⟨by repeat (first | (with_reducible first | exact HK.out | apply Kept.alloc | apply Kept.drewN | apply Kept.drew | refine Kept.setCell ?_ (.inr GW1134.out) _ | refine Kept.setCell ?_ (.inr GW1136.out) _) | exact HK.out)⟩, ⟨by repeat (first | (with_reducible first | exact HB.out | apply below_alloc | apply pw_below_drewN | apply below_drew1 | refine below_set ?_ GE1134.out | refine below_set ?_ GE1136.out) | exact HB.out)⟩⟩
                · rw [if_neg c8] at H
                  exact absurd H (by simp)
              · rw [if_neg c7] at H
                exact absurd H (by simp)
            · rw [if_neg c6] at H
              have c6b0 : decide (x18_2 < (l0_1.length : Int)) = false := decide_eq_false c6
              clear c6
              have H' := Aside0.mk H
              clear H
              go_wp2
              go_roundg k2
              case measure => have := HK1.out; have := HK2.out; omega
              case rel => exact ⟨(x1_2), (x5_2), (x6_2), (by first | rfl | (simp; done) | (simp [*]; done)), (by first | rfl | (simp; done) | (simp [*]; done)), H', ⟨by have := HK1.out; have := HK2.out; omega⟩, ⟨by (with_reducible repeat (first | apply Kd.R_alloc | apply Kd.R_drewN | apply Kd.R_drew)); exact HO_1.out⟩, ⟨by (with_reducible repeat (first | refine blk_drewN ?_ _ | refine blk_drew ?_ | refine blk_alloc ?_ _)); exact BK1134.out⟩, ⟨by repeat (first | (with_reducible first | exact HK.out | apply Kept.alloc | apply Kept.drewN | apply Kept.drew | refine Kept.setCell ?_ (.inr GW1134.out) _) | exact HK.out)⟩, ⟨by repeat (first | (with_reducible first | exact HB.out | apply below_alloc | apply pw_below_drewN | apply below_drew1 | refine below_set ?_ GE1134.out) | exact HB.out)⟩⟩
      · replace c4 := Bool.eq_false_iff.mpr c4
        subst c4
        have H1 : (some (x5_1, x1_1)) = some (r1, r2) := by rw [if_neg (show ¬ (false = true) by decide)] at H; exact H
        clear H
        have H := H1
        clear H1
        simp only [Option.some.injEq, Prod.mk.injEq] at H
        obtain ⟨rfl, rfl⟩ := H
        go_wp2
        go_ret
        exact ⟨by first | rfl | (simp [errW_none, errW_some] <;> rfl) | (simp [*, errW_none, errW_some] <;> rfl), by (with_reducible repeat (first | apply Kd.R_alloc | apply Kd.R_drewN | apply Kd.R_drew)); exact HO_1.out, by repeat (first | (with_reducible first | exact HB.out | apply below_alloc | apply pw_below_drewN | apply below_drew1 | refine below_set ?_ GE1134.out) | exact HB.out), by repeat (first | (with_reducible first | exact HK.out | apply Kept.alloc | apply Kept.drewN | apply Kept.drew | refine Kept.setCell ?_ (.inr GW1134.out) _) | exact HK.out)⟩
end Go.Proofs.Ytijnfpfijgmopaa.Q

namespace Go.Proofs.Ytijnfpfijgmopaa.Q
open Go.RowKit Go.Proofs.YtijnfpfijgmopaaW.PrintWords Go.Proofs.YtijnfpfijgmopaaW.PrintLast Go.Proofs.YtijnfpfijgmopaaW.PrintMore
attribute [local go_sem] max2_int min2_int max_two min_two max_three min_three max_four min_four
set_option linter.unusedVariables false
set_option linter.unusedSimpArgs false
def impl_isCongruence.f (k : Nat) (a0_0 : Int) (l0_1 : List (S87)) (l1 : List Int) : Option (Bool) := (impl_isPartition.f k a0_0 l1).bind fun t1143 => (if t1143 = true then ((impl_clone.f l1).bind fun t1144 => ((impl_closePartition.f k a0_0 l0_1 t1144).bind fun bt1147 => (some (!bt1147.1)))) else (some false))
theorem impl_isCongruence.mono : ∀ a0 a1 a2 k, LeO (impl_isCongruence.f k a0 a1 a2) (impl_isCongruence.f (k + 1) a0 a1 a2) := by
  intro a0 a1 a2 k
  unfold impl_isCongruence.f
  repeat' first
      | (with_reducible exact impl_closePartition.mono _ _ _ _)
      | (with_reducible exact impl_isPartition.mono _ _ _)
      | (with_reducible exact LeO.refl _)
      | (with_reducible exact LeO.none _)
      | (with_reducible refine LeO.ite ?_ ?_)
      | (with_reducible refine LeO.bind ?_ (fun _ => ?_))
      | exact impl_closePartition.mono _ _ _ _
      | exact impl_isPartition.mono _ _ _
      | exact LeO.none _
      | refine LeO.ite ?_ ?_
      | refine LeO.bind ?_ (fun _ => ?_)
def impl_isCongruence.T1 : Bool × List (List Nat × List Nat) := (true, [([], []), ([0], [0]), ([], []), ([1, 2], [1, 2]), ([3, 3], [3]), ([4], [4]), ([4], [4]), ([6, 4, 4], [4, 6]), ([5, 7, 7, 4], [4, 5, 7]), ([8, 4], [4, 8]), ([4, 9], [4, 9]), ([10, 8, 0, 1, 2, 3, 4, 5, 6, 7, 8, 9, 10], [10])])
def impl_isCongruence.B1 : List Nat := [0, 1, 0, 7, 15, 31, 31, 95, 255, 511, 1023, 2047]
theorem impl_isCongruence.tab1 : rtab .any (opsOf Try.f110 1) = impl_isCongruence.T1 := by kernel_rfl
theorem impl_isCongruence.bits1 : waitsOk impl_isCongruence.T1.2 impl_isCongruence.B1 = true := by kernel_rfl
set_option maxHeartbeats 8000000 in
set_option maxRecDepth 100000 in
theorem impl_isCongruence.calls (k : Nat) (a0_0 : Int) (A0_1 : Option Addr) (c0_1 : Nat) (l0_1 : List (S87)) (A1 : Option Addr) (c1 : Nat) (l1 : List Int) (r : Bool) (w : World) (hr0_1 : Kd.C k87 w A0_1 l0_1.length l0_1) (hc0_1 : l0_1.length ≤ c0_1) (hr1 : Kd.C (Kd.int .i64) w A1 l1.length l1) (hc1 : l1.length ≤ c1) (h : impl_isCongruence.f k a0_0 l0_1 l1 = some r) :
    Calls Try.prog 110 #[.agg #[.int .i64 a0_0, .slice A0_1 l0_1.length c0_1], .slice A1 l1.length c1] w fun e w' => e = .returned (.bool r) ∧ Below w.heap.size w w' := by
  have hu30 := Try.underlying30
  have HR0_1 := Aside0.mk hr0_1
  have HC0_1 := Aside0.mk hc0_1
  clear hr0_1 hc0_1
  have HR1 := Aside0.mk hr1
  have HC1 := Aside0.mk hc1
  clear hr1 hc1
  have HB := Aside0.mk (Below.refl w.heap.size w)
  have H : ((impl_isPartition.f k a0_0 l1).bind fun t1143 => (if t1143 = true then ((impl_clone.f l1).bind fun t1144 => ((impl_closePartition.f k a0_0 l0_1 t1144).bind fun bt1147 => (some (!bt1147.1)))) else (some false))) = some r := h
  clear h
  replace H := Option.bind_eq_some_iff.mp H
  obtain ⟨t1143, A30, H⟩ := H
  replace H : (if t1143 = true then ((impl_clone.f l1).bind fun t1144 => ((impl_closePartition.f k a0_0 l0_1 t1144).bind fun bt1147 => (some (!bt1147.1)))) else (some false)) = some r := H
  have A3 := Aside0.mk A30
  clear A30
  by_cases c4 : t1143 = true
  · subst c4
    have H1 : ((impl_clone.f l1).bind fun t1144 => ((impl_closePartition.f k a0_0 l0_1 t1144).bind fun bt1147 => (some (!bt1147.1)))) = some r := by rw [if_pos rfl] at H; exact H
    clear H
    have H := H1
    clear H1
    replace H := Option.bind_eq_some_iff.mp H
    obtain ⟨t1144, A50, H⟩ := H
    replace H : ((impl_closePartition.f k a0_0 l0_1 t1144).bind fun bt1147 => (some (!bt1147.1))) = some r := H
    have A5 := Aside0.mk A50
    clear A50
    replace H := Option.bind_eq_some_iff.mp H
    obtain ⟨⟨t1147, t1148⟩, A60, H⟩ := H
    replace H : (some (!t1147)) = some r := H
    have A6 := Aside0.mk A60
    clear A60
    obtain rfl := Option.some.inj H
    go_enter Try.func110, Try.ntmps110
    try go_wp2_with (first | ((with_reducible refine gate_dst (N := 2) rfl ?_); refine box_event ?hg (N := 2) ?hd (cs := #[.int .i64 a0_0, .slice A0_1 l0_1.length c0_1]) (t := 30) ?hr ?_; (case hd => rfl); (case hg => rfl); (case hr => first | (go_simp; done) | (go_simp; rfl)); intro gb1142 hg w7 hbox hb; have n0_ := Aside0.mk (below_step (by repeat (first | (with_reducible first | exact HB.out | apply below_alloc | apply pw_below_drewN | apply below_drew1) | exact HB.out)) hb); have n1_ := Aside0.mk (hbox); have n2_ := Aside0.mk ((by rw [hg]; exact (below_size (by repeat (first | (with_reducible first | exact HB.out | apply below_alloc | apply pw_below_drewN | apply below_drew1) | exact HB.out))) : w.heap.size ≤ gb1142)); have n3_ := Aside0.mk ((by rw [hg]; exact (below_size (by repeat (first | (with_reducible first | exact HB.out | apply below_alloc | apply pw_below_drewN | apply below_drew1) | exact HB.out))) : w.heap.size ≤ gb1142)); clear HB; have HB := n0_; have BK1142 := n1_; have GW1142 := n2_; have GE1142 := n3_; clear n0_ n1_ n2_ n3_; clear hb hbox hg))
    have n0_ := Aside0.mk (blk_drew BK1142.out)
    have n1_ := Aside0.mk (below_drew1 HB.out)
    clear BK1142
    clear HB
    have BK1142 := n0_
    have HB := n1_
    clear n0_ n1_
    refine start_ (n := 12) (S := fun w' => w'.cell? ⟨gb1142, 0, none⟩ = some (.int .i64 a0_0) ∧ w'.cell? ⟨gb1142, 1, none⟩ = some (.slice A0_1 l0_1.length c0_1)) (ds := []) #[false, false, false, false, false, false, false, false, false, false, false, false] (by kernel_rfl) rfl rfl ⟨(blk_cell BK1142.out 0).trans rfl, (blk_cell BK1142.out 1).trans rfl⟩ (fun hHeld => ?_); refine with_tabW impl_isCongruence.tab1 impl_isCongruence.bits1 (fun HT_ HW_ => ?_)
    generalize w7.drew = w8 at BK1142 HB hHeld ⊢
    refine pure_ (i := 0) (N := some 5) (v := ?_) (a' := ?_) #[true, false, false, false, false, false, false, false, false, false, false, false] rfl rfl (any_of HT_.out (by kernel_rfl)) (fun _ _ _ h => h) (Or.inl ⟨by rfl, ?_⟩) ?_ ?_
    rotate_left
    · intro w'
      go_simp
      with_reducible rfl
    rotate_left
    · simp only [Act.put, List.setIfInBounds_toArray, List.set_cons_zero, List.set_cons_succ, i64_w, i32_w]
      rfl
    refine pure_ (i := 2) (N := some 7) (v := ?_) (a' := ?_) #[true, false, true, false, false, false, false, false, false, false, false, false] rfl rfl (any_of HT_.out (by kernel_rfl)) (fun _ _ _ h => h) (Or.inl ⟨by rfl, ?_⟩) ?_ ?_
    rotate_left
    · intro w'
      go_simp
      with_reducible rfl
    rotate_left
    · simp only [Act.put, List.setIfInBounds_toArray, List.set_cons_zero, List.set_cons_succ, i64_w, i32_w]
      rfl
    refine take_ (i := 1) (N := some 6) (v := ?_) (a' := ?_) #[true, true, true, false, false, false, false, false, false, false, false, false] rfl rfl (take_ofW HT_.out HW_.out (by kernel_rfl)) (fun _ _ _ h => h) (Or.inl ⟨by rfl, ?_⟩) hHeld ?_ ?_
    rotate_left
    · rintro w' ⟨s0, s1⟩
      go_simp
      with_reducible rfl
    rotate_left
    · simp only [Act.put, List.setIfInBounds_toArray, List.set_cons_zero, List.set_cons_succ, i64_w, i32_w]
      rfl
    refine one_ (i := 3) (N := some 8) #[true, true, true, true, false, false, false, false, false, false, false, false] rfl rfl (one_of HT_.out (by kernel_rfl)) (by decide) (fun K hK => ?_)
    refine goes_ Try.func90 (by kernel_rfl) rfl #[.int .i64 a0_0, .slice A1 l1.length c1] (by rfl) rfl rfl (by (try simp only [List.map_toArray, List.map_cons, List.map_nil]); first | done | rfl | (simp only [List.length_drop, List.length_take]; rfl)) ?_
    with_reducible refine (impl_isPartition.calls k a0_0 _ _ l1 true _ ?side1 ?side2 A3.out).mono ?_
    (case side1 => repeat (first | exact (Kd.C_below HR1.out HB.out) | (with_reducible refine Kd.C_alloc ?_ _) | (with_reducible refine Kd.C_drewN ?_ _) | (with_reducible refine Kd.C_drew ?_)))
    (case side2 => exact HC1.out)
    rintro e w' ⟨rfl, ⟨nd, rfl⟩⟩
    refine ⟨_, rfl, ?_⟩
    refine hK.out _ _ ⟨(blk_cell BK1142.out 0).trans rfl, (blk_cell BK1142.out 1).trans rfl⟩ (fun hHeld => ?_)
    clear hK K
    refine norm_ (a' := ?_) ?_ ?_
    rotate_left
    · show Act.put _ (some 8) _ = _
      simp only [Act.put, List.setIfInBounds_toArray, List.set_cons_zero, List.set_cons_succ, i64_w, i32_w]
      rfl
    refine pure_ (i := 4) (N := some 9) (v := ?_) (a' := ?_) #[true, true, true, true, true, false, false, false, false, false, false, false] rfl rfl (any_of HT_.out (by kernel_rfl)) (fun _ _ _ h => h) (Or.inl ⟨by rfl, ?_⟩) ?_ ?_
    rotate_left
    · intro w'
      go_simp
      with_reducible rfl
    rotate_left
    · simp only [Act.put, List.setIfInBounds_toArray, List.set_cons_zero, List.set_cons_succ, i64_w, i32_w]
      rfl
    refine pure_ (i := 6) (N := some 11) (v := ?_) (a' := ?_) #[true, true, true, true, true, false, true, false, false, false, false, false] rfl rfl (any_of HT_.out (by kernel_rfl)) (fun _ _ _ h => h) (Or.inl ⟨by rfl, ?_⟩) ?_ ?_
    rotate_left
    · intro w'
      go_simp
      with_reducible rfl
    rotate_left
    · simp only [Act.put, List.setIfInBounds_toArray, List.set_cons_zero, List.set_cons_succ, i64_w, i32_w]
      rfl
    refine take_ (i := 5) (N := some 10) (v := ?_) (a' := ?_) #[true, true, true, true, true, true, true, false, false, false, false, false] rfl rfl (take_ofW HT_.out HW_.out (by kernel_rfl)) (fun _ _ _ h => h) (Or.inl ⟨by rfl, ?_⟩) hHeld ?_ ?_
    rotate_left
    · rintro w' ⟨s0, s1⟩
      go_simp
      with_reducible rfl
    rotate_left
    · simp only [Act.put, List.setIfInBounds_toArray, List.set_cons_zero, List.set_cons_succ, i64_w, i32_w]
      rfl
    refine one_ (i := 7) (N := some 12) #[true, true, true, true, true, true, true, true, false, false, false, false] rfl rfl (one_of HT_.out (by kernel_rfl)) (by decide) (fun K hK => ?_)
    refine goes_ Try.func137 (by kernel_rfl) rfl #[.slice A1 l1.length c1] (by rfl) rfl rfl (by (try simp only [List.map_toArray, List.map_cons, List.map_nil]); first | done | rfl | (simp only [List.length_drop, List.length_take]; rfl)) ?_
    with_reducible refine (impl_clone.calls _ _ l1 t1144 _ ?side1 ?side2 A5.out).mono ?_
    (case side1 => repeat (first | exact (Kd.C_below HR1.out (by repeat (first | (with_reducible first | exact HB.out | apply below_alloc | apply pw_below_drewN | apply below_drew1 | refine below_set ?_ GE1142.out) | exact HB.out))) | (with_reducible refine Kd.C_alloc ?_ _) | (with_reducible refine Kd.C_drewN ?_ _) | (with_reducible refine Kd.C_drew ?_)))
    (case side2 => exact HC1.out)
    rintro e w9 ⟨v1145, rfl, ho0, hb⟩
    refine ⟨_, rfl, ?_⟩
    have n0_ := Aside0.mk (Kd.R_lower ho0 (below_size (by repeat (first | (with_reducible first | exact HB.out | apply below_alloc | apply pw_below_drewN | apply below_drew1 | refine below_set ?_ GE1142.out) | exact HB.out))))
    have n1_ := Aside0.mk (blk_below (g := gb1142) (o := .cells #[.int .i64 a0_0, .slice A0_1 l0_1.length c0_1] 30 (0, 0)) (by (with_reducible repeat (first | refine blk_drewN ?_ _ | refine blk_drew ?_ | refine blk_alloc ?_ _)); exact BK1142.out) hb)
    have n2_ := Aside0.mk (below_step (by repeat (first | (with_reducible first | exact HB.out | apply below_alloc | apply pw_below_drewN | apply below_drew1 | refine below_set ?_ GE1142.out) | exact HB.out)) hb)
    clear BK1142
    clear HB
    have HO1146 := n0_
    have BK1142 := n1_
    have HB := n2_
    clear n0_ n1_ n2_
    (try clear hb)
    (try clear hb2)
    (try clear hk)
    (try clear hi)
    (try clear ho0)
    obtain ⟨Ao10, co10, eo10⟩ := Kd.R_slice HO1146.out
    (first | subst eo10 | (injection eo10 with f1_ f2_ f3_; have f4_ := f1_.symm; have f5_ := f3_.symm; clear f1_ f2_ f3_; subst f4_; subst f5_))
    refine hK.out _ _ ⟨(blk_cell BK1142.out 0).trans rfl, (blk_cell BK1142.out 1).trans rfl⟩ (fun hHeld => ?_)
    clear hK K
    refine norm_ (a' := ?_) ?_ ?_
    rotate_left
    · show Act.put _ (some 12) _ = _
      simp only [Act.put, List.setIfInBounds_toArray, List.set_cons_zero, List.set_cons_succ, i64_w, i32_w]
      rfl
    refine one_ (i := 8) (N := some 13) #[true, true, true, true, true, true, true, true, true, false, false, false] rfl rfl (one_of HT_.out (by kernel_rfl)) (by decide) (fun K hK => ?_)
    refine goes_ Try.func154 (by kernel_rfl) rfl #[.agg #[.int .i64 a0_0, .slice A0_1 l0_1.length c0_1], .slice Ao10 t1144.length co10] (by rfl) rfl rfl (by (try simp only [List.map_toArray, List.map_cons, List.map_nil]); first | done | rfl | (simp only [List.length_drop, List.length_take]; rfl)) ?_
    with_reducible refine (impl_closePartition.calls k a0_0 _ _ l0_1 (fun k_ => some k_ = (.slice Ao10 t1144.length co10 : Value).ownBlock) (.slice Ao10 t1144.length co10) t1144 t1147 t1148 w _ ?side1 ?side2 ?side3 ?side4 A6.out).mono ?_
    (case side1 => repeat (first | (with_reducible first | exact HB.out | apply below_alloc | apply pw_below_drewN | apply below_drew1 | refine below_set ?_ GE1142.out) | exact HB.out))
    (case side2 => exact HR0_1.out)
    (case side3 => exact HC0_1.out)
    (case side4 => exact Kd.R_tight rfl HO1146.out)
    rintro e w11 ⟨rfl, hy0, hb, hkp⟩
    refine ⟨_, rfl, ?_⟩
    have n0_ := Aside0.mk (blk_kept (by (with_reducible repeat (first | refine blk_drewN ?_ _ | refine blk_drew ?_ | refine blk_alloc ?_ _)); exact BK1142.out) hkp (fun hs_ => (fun e_ => (Kd.R_ne HO1146.out BK1142.out (by decide)) e_) hs_))
    have n1_ := Aside0.mk (Kd.R_reok rfl hy0 (fun k_ e_ => HO1146.out.1 k_ e_))
    have n2_ := Aside0.mk (hb)
    clear BK1142
    clear HO1146
    clear HB
    have BK1142 := n0_
    have HO1146 := n1_
    have HB := n2_
    clear n0_ n1_ n2_
    (try clear hb)
    (try clear hkp)
    (try clear hy0)
    refine hK.out _ _ ⟨(blk_cell BK1142.out 0).trans rfl, (blk_cell BK1142.out 1).trans rfl⟩ (fun hHeld => ?_)
    clear hK K
    refine norm_ (a' := ?_) ?_ ?_
    rotate_left
    · show Act.put _ (some 13) _ = _
      simp only [Act.put, List.setIfInBounds_toArray, List.set_cons_zero, List.set_cons_succ, i64_w, i32_w]
      rfl
    refine pure_ (i := 9) (N := some 14) (v := ?_) (a' := ?_) #[true, true, true, true, true, true, true, true, true, true, false, false] rfl rfl (any_of HT_.out (by kernel_rfl)) (fun _ _ _ h => h) (Or.inl ⟨by rfl, ?_⟩) ?_ ?_
    rotate_left
    · intro w'
      go_simp
      with_reducible rfl
    rotate_left
    · simp only [Act.put, List.setIfInBounds_toArray, List.set_cons_zero, List.set_cons_succ, i64_w, i32_w]
      rfl
    refine pure_ (i := 10) (N := some 15) (v := ?_) (a' := ?_) #[true, true, true, true, true, true, true, true, true, true, true, false] rfl rfl (any_of HT_.out (by kernel_rfl)) (fun _ _ _ h => h) (Or.inl ⟨by rfl, ?_⟩) ?_ ?_
    rotate_left
    · intro w'
      go_simp
      with_reducible rfl
    rotate_left
    · simp only [Act.put, List.setIfInBounds_toArray, List.set_cons_zero, List.set_cons_succ, i64_w, i32_w]
      rfl
    refine pure_ (i := 11) (N := some 4) (v := ?_) (a' := ?_) #[true, true, true, true, true, true, true, true, true, true, true, true] rfl rfl (any_of HT_.out (by kernel_rfl)) (fun _ _ _ h => h) (Or.inl ⟨by rfl, ?_⟩) ?_ ?_
    rotate_left
    · intro w'
      go_simp
      with_reducible rfl
    rotate_left
    · simp only [Act.put, List.setIfInBounds_toArray, List.set_cons_zero, List.set_cons_succ, i64_w, i32_w]
      rfl
    refine done_ (done_of HT_.out (by kernel_rfl)) ?_
    try go_wp2
    go_ret
    exact ⟨by first | rfl | (simp [errW_none, errW_some] <;> rfl) | (simp [*, errW_none, errW_some] <;> rfl), by repeat (first | (with_reducible first | exact HB.out | apply below_alloc | apply pw_below_drewN | apply below_drew1 | refine below_set ?_ GE1142.out) | exact HB.out)⟩
  · replace c4 := Bool.eq_false_iff.mpr c4
    subst c4
    have H1 : (some false) = some r := by rw [if_neg (show ¬ (false = true) by decide)] at H; exact H
    clear H
    have H := H1
    clear H1
    obtain rfl := Option.some.inj H
    go_enter Try.func110, Try.ntmps110
    try go_wp2_with (first | ((with_reducible refine gate_dst (N := 2) rfl ?_); refine box_event ?hg (N := 2) ?hd (cs := #[.int .i64 a0_0, .slice A0_1 l0_1.length c0_1]) (t := 30) ?hr ?_; (case hd => rfl); (case hg => rfl); (case hr => first | (go_simp; done) | (go_simp; rfl)); intro gb1142 hg w12 hbox hb; have n0_ := Aside0.mk (below_step (by repeat (first | (with_reducible first | exact HB.out | apply below_alloc | apply pw_below_drewN | apply below_drew1) | exact HB.out)) hb); have n1_ := Aside0.mk (hbox); have n2_ := Aside0.mk ((by rw [hg]; exact (below_size (by repeat (first | (with_reducible first | exact HB.out | apply below_alloc | apply pw_below_drewN | apply below_drew1) | exact HB.out))) : w.heap.size ≤ gb1142)); have n3_ := Aside0.mk ((by rw [hg]; exact (below_size (by repeat (first | (with_reducible first | exact HB.out | apply below_alloc | apply pw_below_drewN | apply below_drew1) | exact HB.out))) : w.heap.size ≤ gb1142)); clear HB; have HB := n0_; have BK1142 := n1_; have GW1142 := n2_; have GE1142 := n3_; clear n0_ n1_ n2_ n3_; clear hb hbox hg))
    have n0_ := Aside0.mk (blk_drew BK1142.out)
    have n1_ := Aside0.mk (below_drew1 HB.out)
    clear BK1142
    clear HB
    have BK1142 := n0_
    have HB := n1_
    clear n0_ n1_
    refine start_ (n := 12) (S := fun w' => w'.cell? ⟨gb1142, 0, none⟩ = some (.int .i64 a0_0) ∧ w'.cell? ⟨gb1142, 1, none⟩ = some (.slice A0_1 l0_1.length c0_1)) (ds := []) #[false, false, false, false, false, false, false, false, false, false, false, false] (by kernel_rfl) rfl rfl ⟨(blk_cell BK1142.out 0).trans rfl, (blk_cell BK1142.out 1).trans rfl⟩ (fun hHeld => ?_); refine with_tabW impl_isCongruence.tab1 impl_isCongruence.bits1 (fun HT_ HW_ => ?_)
    generalize w12.drew = w13 at BK1142 HB hHeld ⊢
    refine pure_ (i := 0) (N := some 5) (v := ?_) (a' := ?_) #[true, false, false, false, false, false, false, false, false, false, false, false] rfl rfl (any_of HT_.out (by kernel_rfl)) (fun _ _ _ h => h) (Or.inl ⟨by rfl, ?_⟩) ?_ ?_
    rotate_left
    · intro w'
      go_simp
      with_reducible rfl
    rotate_left
    · simp only [Act.put, List.setIfInBounds_toArray, List.set_cons_zero, List.set_cons_succ, i64_w, i32_w]
      rfl
    refine pure_ (i := 2) (N := some 7) (v := ?_) (a' := ?_) #[true, false, true, false, false, false, false, false, false, false, false, false] rfl rfl (any_of HT_.out (by kernel_rfl)) (fun _ _ _ h => h) (Or.inl ⟨by rfl, ?_⟩) ?_ ?_
    rotate_left
    · intro w'
      go_simp
      with_reducible rfl
    rotate_left
    · simp only [Act.put, List.setIfInBounds_toArray, List.set_cons_zero, List.set_cons_succ, i64_w, i32_w]
      rfl
    refine take_ (i := 1) (N := some 6) (v := ?_) (a' := ?_) #[true, true, true, false, false, false, false, false, false, false, false, false] rfl rfl (take_ofW HT_.out HW_.out (by kernel_rfl)) (fun _ _ _ h => h) (Or.inl ⟨by rfl, ?_⟩) hHeld ?_ ?_
    rotate_left
    · rintro w' ⟨s0, s1⟩
      go_simp
      with_reducible rfl
    rotate_left
    · simp only [Act.put, List.setIfInBounds_toArray, List.set_cons_zero, List.set_cons_succ, i64_w, i32_w]
      rfl
    refine one_ (i := 3) (N := some 8) #[true, true, true, true, false, false, false, false, false, false, false, false] rfl rfl (one_of HT_.out (by kernel_rfl)) (by decide) (fun K hK => ?_)
    refine goes_ Try.func90 (by kernel_rfl) rfl #[.int .i64 a0_0, .slice A1 l1.length c1] (by rfl) rfl rfl (by (try simp only [List.map_toArray, List.map_cons, List.map_nil]); first | done | rfl | (simp only [List.length_drop, List.length_take]; rfl)) ?_
    with_reducible refine (impl_isPartition.calls k a0_0 _ _ l1 false _ ?side1 ?side2 A3.out).mono ?_
    (case side1 => repeat (first | exact (Kd.C_below HR1.out HB.out) | (with_reducible refine Kd.C_alloc ?_ _) | (with_reducible refine Kd.C_drewN ?_ _) | (with_reducible refine Kd.C_drew ?_)))
    (case side2 => exact HC1.out)
    rintro e w' ⟨rfl, ⟨nd, rfl⟩⟩
    refine ⟨_, rfl, ?_⟩
    refine hK.out _ _ ⟨(blk_cell BK1142.out 0).trans rfl, (blk_cell BK1142.out 1).trans rfl⟩ (fun hHeld => ?_)
    clear hK K
    refine norm_ (a' := ?_) ?_ ?_
    rotate_left
    · show Act.put _ (some 8) _ = _
      simp only [Act.put, List.setIfInBounds_toArray, List.set_cons_zero, List.set_cons_succ, i64_w, i32_w]
      rfl
    refine pure_ (i := 4) (N := some 9) (v := ?_) (a' := ?_) #[true, true, true, true, true, false, false, false, false, false, false, false] rfl rfl (any_of HT_.out (by kernel_rfl)) (fun _ _ _ h => h) (Or.inl ⟨by rfl, ?_⟩) ?_ ?_
    rotate_left
    · intro w'
      go_simp
      with_reducible rfl
    rotate_left
    · simp only [Act.put, List.setIfInBounds_toArray, List.set_cons_zero, List.set_cons_succ, i64_w, i32_w]
      rfl
    refine pure_ (i := 5) (N := some 10) (v := undef) (a' := ?_) #[true, true, true, true, true, true, false, false, false, false, false, false] rfl rfl (any_of HT_.out (by kernel_rfl)) (fun _ _ _ h => h) (Or.inr ⟨by rfl, rfl⟩) ?_ ?_
    rotate_left
    · simp only [Act.put, List.setIfInBounds_toArray, List.set_cons_zero, List.set_cons_succ, i64_w, i32_w]
      rfl
    refine pure_ (i := 6) (N := some 11) (v := undef) (a' := ?_) #[true, true, true, true, true, true, true, false, false, false, false, false] rfl rfl (any_of HT_.out (by kernel_rfl)) (fun _ _ _ h => h) (Or.inr ⟨by rfl, rfl⟩) ?_ ?_
    rotate_left
    · simp only [Act.put, List.setIfInBounds_toArray, List.set_cons_zero, List.set_cons_succ, i64_w, i32_w]
      rfl
    refine pure_ (i := 7) (N := some 12) (v := undef) (a' := ?_) #[true, true, true, true, true, true, true, true, false, false, false, false] rfl rfl (any_of HT_.out (by kernel_rfl)) (fun _ _ _ h => h) (Or.inr ⟨by rfl, rfl⟩) ?_ ?_
    rotate_left
    · simp only [Act.put, List.setIfInBounds_toArray, List.set_cons_zero, List.set_cons_succ, i64_w, i32_w]
      rfl
    refine pure_ (i := 8) (N := some 13) (v := undef) (a' := ?_) #[true, true, true, true, true, true, true, true, true, false, false, false] rfl rfl (any_of HT_.out (by kernel_rfl)) (fun _ _ _ h => h) (Or.inr ⟨by rfl, rfl⟩) ?_ ?_
    rotate_left
    · simp only [Act.put, List.setIfInBounds_toArray, List.set_cons_zero, List.set_cons_succ, i64_w, i32_w]
      rfl
    refine pure_ (i := 9) (N := some 14) (v := undef) (a' := ?_) #[true, true, true, true, true, true, true, true, true, true, false, false] rfl rfl (any_of HT_.out (by kernel_rfl)) (fun _ _ _ h => h) (Or.inr ⟨by rfl, rfl⟩) ?_ ?_
    rotate_left
    · simp only [Act.put, List.setIfInBounds_toArray, List.set_cons_zero, List.set_cons_succ, i64_w, i32_w]
      rfl
    refine pure_ (i := 10) (N := some 15) (v := ?_) (a' := ?_) #[true, true, true, true, true, true, true, true, true, true, true, false] rfl rfl (any_of HT_.out (by kernel_rfl)) (fun _ _ _ h => h) (Or.inl ⟨by rfl, ?_⟩) ?_ ?_
    rotate_left
    · intro w'
      go_simp
      with_reducible rfl
    rotate_left
    · simp only [Act.put, List.setIfInBounds_toArray, List.set_cons_zero, List.set_cons_succ, i64_w, i32_w]
      rfl
    refine pure_ (i := 11) (N := some 4) (v := ?_) (a' := ?_) #[true, true, true, true, true, true, true, true, true, true, true, true] rfl rfl (any_of HT_.out (by kernel_rfl)) (fun _ _ _ h => h) (Or.inl ⟨by rfl, ?_⟩) ?_ ?_
    rotate_left
    · intro w'
      go_simp
      with_reducible rfl
    rotate_left
    · simp only [Act.put, List.setIfInBounds_toArray, List.set_cons_zero, List.set_cons_succ, i64_w, i32_w]
      rfl
    refine done_ (done_of HT_.out (by kernel_rfl)) ?_
    try go_wp2
    go_ret
    exact ⟨by first | rfl | (simp [errW_none, errW_some] <;> rfl) | (simp [*, errW_none, errW_some] <;> rfl), by repeat (first | (with_reducible first | exact HB.out | apply below_alloc | apply pw_below_drewN | apply below_drew1 | refine below_set ?_ GE1142.out) | exact HB.out)⟩
end Go.Proofs.Ytijnfpfijgmopaa.Q

namespace Go.Proofs.Ytijnfpfijgmopaa.Q
open Go.RowKit Go.Proofs.YtijnfpfijgmopaaW.PrintWords Go.Proofs.YtijnfpfijgmopaaW.PrintLast Go.Proofs.YtijnfpfijgmopaaW.PrintMore
attribute [local go_sem] max2_int min2_int max_two min_two max_three min_three max_four min_four
set_option linter.unusedVariables false
set_option linter.unusedSimpArgs false
def impl_IsCongruence.f (k : Nat) (a0_0 : Int) (l0_1 : List (S87)) (l1 : List Int) : Option (Bool × Bool) := (impl_IsAlgebra.f k a0_0 l0_1).bind fun t1150 => (if t1150 = true then ((impl_isCongruence.f k a0_0 l0_1 l1).bind fun t1151 => (some (t1151, true))) else (some (false, false)))
theorem impl_IsCongruence.mono : ∀ a0 a1 a2 k, LeO (impl_IsCongruence.f k a0 a1 a2) (impl_IsCongruence.f (k + 1) a0 a1 a2) := by
  intro a0 a1 a2 k
  unfold impl_IsCongruence.f
  repeat' first
      | (with_reducible exact impl_IsAlgebra.mono _ _ _)
      | (with_reducible exact impl_isCongruence.mono _ _ _ _)
      | (with_reducible exact LeO.refl _)
      | (with_reducible exact LeO.none _)
      | (with_reducible refine LeO.ite ?_ ?_)
      | (with_reducible refine LeO.bind ?_ (fun _ => ?_))
      | exact impl_IsAlgebra.mono _ _ _
      | exact impl_isCongruence.mono _ _ _ _
      | exact LeO.none _
      | refine LeO.ite ?_ ?_
      | refine LeO.bind ?_ (fun _ => ?_)
set_option maxHeartbeats 8000000 in
set_option maxRecDepth 100000 in
theorem impl_IsCongruence.calls (k : Nat) (a0_0 : Int) (A0_1 : Option Addr) (c0_1 : Nat) (l0_1 : List (S87)) (A1 : Option Addr) (c1 : Nat) (l1 : List Int) (r1 : Bool) (r2 : Bool) (w : World) (hr0_1 : Kd.C k87 w A0_1 l0_1.length l0_1) (hc0_1 : l0_1.length ≤ c0_1) (hr1 : Kd.C (Kd.int .i64) w A1 l1.length l1) (hc1 : l1.length ≤ c1) (h : impl_IsCongruence.f k a0_0 l0_1 l1 = some (r1, r2)) :
    Calls Try.prog 54 #[.agg #[.int .i64 a0_0, .slice A0_1 l0_1.length c0_1], .slice A1 l1.length c1] w fun e w' => e = .returned (.tuple #[.bool r1, .bool r2]) ∧ Below w.heap.size w w' := by
  have hu30 := Try.underlying30
  have HR0_1 := Aside0.mk hr0_1
  have HC0_1 := Aside0.mk hc0_1
  clear hr0_1 hc0_1
  have HR1 := Aside0.mk hr1
  have HC1 := Aside0.mk hc1
  clear hr1 hc1
  have HB := Aside0.mk (Below.refl w.heap.size w)
  have H : ((impl_IsAlgebra.f k a0_0 l0_1).bind fun t1150 => (if t1150 = true then ((impl_isCongruence.f k a0_0 l0_1 l1).bind fun t1151 => (some (t1151, true))) else (some (false, false)))) = some (r1, r2) := h
  clear h
  replace H := Option.bind_eq_some_iff.mp H
  obtain ⟨t1150, A30, H⟩ := H
  replace H : (if t1150 = true then ((impl_isCongruence.f k a0_0 l0_1 l1).bind fun t1151 => (some (t1151, true))) else (some (false, false))) = some (r1, r2) := H
  have A3 := Aside0.mk A30
  clear A30
  by_cases c4 : t1150 = true
  · subst c4
    have H1 : ((impl_isCongruence.f k a0_0 l0_1 l1).bind fun t1151 => (some (t1151, true))) = some (r1, r2) := by rw [if_pos rfl] at H; exact H
    clear H
    have H := H1
    clear H1
    replace H := Option.bind_eq_some_iff.mp H
    obtain ⟨t1151, A50, H⟩ := H
    replace H : (some (t1151, true)) = some (r1, r2) := H
    have A5 := Aside0.mk A50
    clear A50
    simp only [Option.some.injEq, Prod.mk.injEq] at H
    obtain ⟨rfl, rfl⟩ := H
    go_enter Try.func54, Try.ntmps54
    go_wp2_with (first | ((with_reducible refine gate_dst (N := 2) rfl ?_); refine box_event ?hg (N := 2) ?hd (cs := #[.int .i64 a0_0, .slice A0_1 l0_1.length c0_1]) (t := 30) ?hr ?_; (case hd => rfl); (case hg => rfl); (case hr => first | (go_simp; done) | (go_simp; rfl)); intro gb1149 hg w6 hbox hb; have n0_ := Aside0.mk (below_step (by repeat (first | (with_reducible first | exact HB.out | apply below_alloc | apply pw_below_drewN | apply below_drew1) | exact HB.out)) hb); have n1_ := Aside0.mk (hbox); have n2_ := Aside0.mk ((by rw [hg]; exact (below_size (by repeat (first | (with_reducible first | exact HB.out | apply below_alloc | apply pw_below_drewN | apply below_drew1) | exact HB.out))) : w.heap.size ≤ gb1149)); have n3_ := Aside0.mk ((by rw [hg]; exact (below_size (by repeat (first | (with_reducible first | exact HB.out | apply below_alloc | apply pw_below_drewN | apply below_drew1) | exact HB.out))) : w.heap.size ≤ gb1149)); clear HB; have HB := n0_; have BK1149 := n1_; have GW1149 := n2_; have GE1149 := n3_; clear n0_ n1_ n2_ n3_; clear hb hbox hg; have hcz7_0 : w6.cell? ⟨gb1149, 0, none⟩ = some (.int .i64 a0_0) := (blk_cell BK1149.out 0).trans rfl; have hcz7_1 : w6.cell? ⟨gb1149, 1, none⟩ = some (.slice A0_1 l0_1.length c0_1) := (blk_cell BK1149.out 1).trans rfl; have hfz7_0 := blk_frozen BK1149.out 0; have hfz7_1 := blk_frozen BK1149.out 1) | ((with_reducible refine gate_callee (f := 71) rfl ?_); refine goesL_ (some 7) rfl rfl Try.func71 (by kernel_rfl) rfl #[.agg #[.int .i64 a0_0, .slice A0_1 l0_1.length c0_1]] rfl (by (try simp only [List.map_toArray, List.map_cons, List.map_nil]); first | done | rfl | (simp only [List.length_drop, List.length_take]; rfl)) ?_; (with_reducible refine (impl_IsAlgebra.calls k a0_0 _ _ l0_1 true _ ?side1 ?side2 A3.out).mono ?_); (case side1 => repeat (first | exact (Kd.C_below HR0_1.out HB.out) | (with_reducible refine Kd.C_alloc ?_ _) | (with_reducible refine Kd.C_drewN ?_ _) | (with_reducible refine Kd.C_drew ?_))); (case side2 => exact HC0_1.out); rintro e w8 ⟨rfl, hb⟩; refine ⟨_, rfl, ?_⟩; have n0_ := Aside0.mk (blk_below (g := gb1149) (o := .cells #[.int .i64 a0_0, .slice A0_1 l0_1.length c0_1] 30 (0, 0)) (by (with_reducible repeat (first | refine blk_drewN ?_ _ | refine blk_drew ?_ | refine blk_alloc ?_ _)); exact BK1149.out) hb); have n1_ := Aside0.mk (below_step (by repeat (first | (with_reducible first | exact HB.out | apply below_alloc | apply pw_below_drewN | apply below_drew1 | refine below_set ?_ GE1149.out) | exact HB.out)) hb); clear BK1149; clear HB; have BK1149 := n0_; have HB := n1_; clear n0_ n1_; (try clear hb); (try clear hb2); (try clear hk); (try clear hi); have hcz9_0 : w8.cell? ⟨gb1149, 0, none⟩ = some (.int .i64 a0_0) := (blk_cell BK1149.out 0).trans rfl; have hcz9_1 : w8.cell? ⟨gb1149, 1, none⟩ = some (.slice A0_1 l0_1.length c0_1) := (blk_cell BK1149.out 1).trans rfl; have hfz9_0 := blk_frozen BK1149.out 0; have hfz9_1 := blk_frozen BK1149.out 1) | ((with_reducible refine gate_callee (f := 110) rfl ?_); refine goesL_ (some 11) rfl rfl Try.func110 (by kernel_rfl) rfl #[.agg #[.int .i64 a0_0, .slice A0_1 l0_1.length c0_1], .slice A1 l1.length c1] rfl (by (try simp only [List.map_toArray, List.map_cons, List.map_nil]); first | done | rfl | (simp only [List.length_drop, List.length_take]; rfl)) ?_; (with_reducible refine (impl_isCongruence.calls k a0_0 _ _ l0_1 _ _ l1 t1151 _ ?side1 ?side2 ?side3 ?side4 A5.out).mono ?_); (case side1 => repeat (first | exact (Kd.C_below HR0_1.out HB.out) | (with_reducible refine Kd.C_alloc ?_ _) | (with_reducible refine Kd.C_drewN ?_ _) | (with_reducible refine Kd.C_drew ?_))); (case side2 => exact HC0_1.out); (case side3 => repeat (first | exact (Kd.C_below HR1.out HB.out) | (with_reducible refine Kd.C_alloc ?_ _) | (with_reducible refine Kd.C_drewN ?_ _) | (with_reducible refine Kd.C_drew ?_))); (case side4 => exact HC1.out); rintro e w10 ⟨rfl, hb⟩; refine ⟨_, rfl, ?_⟩; have n0_ := Aside0.mk (blk_below (g := gb1149) (o := .cells #[.int .i64 a0_0, .slice A0_1 l0_1.length c0_1] 30 (0, 0)) (by (with_reducible repeat (first | refine blk_drewN ?_ _ | refine blk_drew ?_ | refine blk_alloc ?_ _)); exact BK1149.out) hb); have n1_ := Aside0.mk (below_step (by repeat (first | (with_reducible first | exact HB.out | apply below_alloc | apply pw_below_drewN | apply below_drew1 | refine below_set ?_ GE1149.out) | exact HB.out)) hb); clear BK1149; clear HB; have BK1149 := n0_; have HB := n1_; clear n0_ n1_; (try clear hb); (try clear hb2); (try clear hk); (try clear hi)))
    go_ret2
    exact ⟨by first | rfl | (simp [errW_none, errW_some] <;> rfl) | (simp [*, errW_none, errW_some] <;> rfl), by repeat (first | (with_reducible first | exact HB.out | apply below_alloc | apply pw_below_drewN | apply below_drew1 | refine below_set ?_ GE1149.out) | exact HB.out)⟩
  · replace c4 := Bool.eq_false_iff.mpr c4
    subst c4
    have H1 : (some (false, false)) = some (r1, r2) := by rw [if_neg (show ¬ (false = true) by decide)] at H; exact H
    clear H
    have H := H1
    clear H1
    simp only [Option.some.injEq, Prod.mk.injEq] at H
    obtain ⟨rfl, rfl⟩ := H
    go_enter Try.func54, Try.ntmps54
    go_wp2_with (first | ((with_reducible refine gate_dst (N := 2) rfl ?_); refine box_event ?hg (N := 2) ?hd (cs := #[.int .i64 a0_0, .slice A0_1 l0_1.length c0_1]) (t := 30) ?hr ?_; (case hd => rfl); (case hg => rfl); (case hr => first | (go_simp; done) | (go_simp; rfl)); intro gb1149 hg w11 hbox hb; have n0_ := Aside0.mk (below_step (by repeat (first | (with_reducible first | exact HB.out | apply below_alloc | apply pw_below_drewN | apply below_drew1) | exact HB.out)) hb); have n1_ := Aside0.mk (hbox); have n2_ := Aside0.mk ((by rw [hg]; exact (below_size (by repeat (first | (with_reducible first | exact HB.out | apply below_alloc | apply pw_below_drewN | apply below_drew1) | exact HB.out))) : w.heap.size ≤ gb1149)); have n3_ := Aside0.mk ((by rw [hg]; exact (below_size (by repeat (first | (with_reducible first | exact HB.out | apply below_alloc | apply pw_below_drewN | apply below_drew1) | exact HB.out))) : w.heap.size ≤ gb1149)); clear HB; have HB := n0_; have BK1149 := n1_; have GW1149 := n2_; have GE1149 := n3_; clear n0_ n1_ n2_ n3_; clear hb hbox hg; have hcz12_0 : w11.cell? ⟨gb1149, 0, none⟩ = some (.int .i64 a0_0) := (blk_cell BK1149.out 0).trans rfl; have hcz12_1 : w11.cell? ⟨gb1149, 1, none⟩ = some (.slice A0_1 l0_1.length c0_1) := (blk_cell BK1149.out 1).trans rfl; have hfz12_0 := blk_frozen BK1149.out 0; have hfz12_1 := blk_frozen BK1149.out 1) | ((with_reducible refine gate_callee (f := 71) rfl ?_); refine goesL_ (some 7) rfl rfl Try.func71 (by kernel_rfl) rfl #[.agg #[.int .i64 a0_0, .slice A0_1 l0_1.length c0_1]] rfl (by (try simp only [List.map_toArray, List.map_cons, List.map_nil]); first | done | rfl | (simp only [List.length_drop, List.length_take]; rfl)) ?_; (with_reducible refine (impl_IsAlgebra.calls k a0_0 _ _ l0_1 false _ ?side1 ?side2 A3.out).mono ?_); (case side1 => repeat (first | exact (Kd.C_below HR0_1.out HB.out) | (with_reducible refine Kd.C_alloc ?_ _) | (with_reducible refine Kd.C_drewN ?_ _) | (with_reducible refine Kd.C_drew ?_))); (case side2 => exact HC0_1.out); rintro e w13 ⟨rfl, hb⟩; refine ⟨_, rfl, ?_⟩; have n0_ := Aside0.mk (blk_below (g := gb1149) (o := .cells #[.int .i64 a0_0, .slice A0_1 l0_1.length c0_1] 30 (0, 0)) (by (with_reducible repeat (first | refine blk_drewN ?_ _ | refine blk_drew ?_ | refine blk_alloc ?_ _)); exact BK1149.out) hb); have n1_ := Aside0.mk (below_step (by repeat (first | (with_reducible first | exact HB.out | apply below_alloc | apply pw_below_drewN | apply below_drew1 | refine below_set ?_ GE1149.out) | exact HB.out)) hb); clear BK1149; clear HB; have BK1149 := n0_; have HB := n1_; clear n0_ n1_; (try clear hb); (try clear hb2); (try clear hk); (try clear hi)))
    go_ret2
    exact ⟨by first | rfl | (simp [errW_none, errW_some] <;> rfl) | (simp [*, errW_none, errW_some] <;> rfl), by repeat (first | (with_reducible first | exact HB.out | apply below_alloc | apply pw_below_drewN | apply below_drew1 | refine below_set ?_ GE1149.out) | exact HB.out)⟩
end Go.Proofs.Ytijnfpfijgmopaa.Q

namespace Go.Proofs.Ytijnfpfijgmopaa.Q
open Go.RowKit Go.Proofs.YtijnfpfijgmopaaW.PrintWords Go.Proofs.YtijnfpfijgmopaaW.PrintLast Go.Proofs.YtijnfpfijgmopaaW.PrintMore
attribute [local go_sem] max2_int min2_int max_two min_two max_three min_three max_four min_four
set_option linter.unusedVariables false
set_option linter.unusedSimpArgs false
def laws_FnExactIsCongruence.j0 : Nat → List Int → List Int → Bool → Int → List (S109) → Int → List (S87) → Option (Bool)
  | 0, _, _, _, _, _, _, _ => none
  | k + 1, x1, x9, x45, x1153000, x1153001, x1168000, x1168001 => if x45 = true then (some false) else ((laws_toAlgebra.f k x1153000 x1153001).bind fun bt1173 => ((laws_eqAlgebra.f k x1168000 x1168001 bt1173.1 bt1173.2).bind fun t1177 => (if t1177 = true then ((laws_toIntS.f k x1).bind fun t1178 => ((laws_eqIntS.f k x9 t1178).bind fun t1181 => (if t1181 = true then (some true) else (some false)))) else (some false))))
def laws_FnExactIsCongruence.f (k : Nat) (a0_0 : Int) (l0_1 : List (S109)) (l1 : List Int) : Option (Bool) := if (l1.length : Int) > 1048576 then (some true) else ((laws_szAlgebra.f k a0_0 l0_1 1048576).bind fun t1153 => (if t1153 < 0 then (some true) else ((laws_toAlgebra.f k a0_0 l0_1).bind fun bt1154 => ((laws_toIntS.f k l1).bind fun t1158 => ((spec_IsCongruence.f k bt1154.1 bt1154.2 t1158).bind fun bt1161 => ((laws_toAlgebra.f k a0_0 l0_1).bind fun bt1163 => ((laws_toIntS.f k l1).bind fun t1168 => ((impl_IsCongruence.f k bt1163.1 bt1163.2 t1168).bind fun bt1171 => (if (bt1171.1 != bt1161.1) = true then (laws_FnExactIsCongruence.j0 k l1 t1168 true a0_0 l0_1 bt1163.1 bt1163.2) else (laws_FnExactIsCongruence.j0 k l1 t1168 (bt1171.2 != bt1161.2) a0_0 l0_1 bt1163.1 bt1163.2))))))))))
theorem laws_FnExactIsCongruence.mono_l : ∀ k, (∀ y0 y1 y2 y3 y4 y5 y6, LeO (laws_FnExactIsCongruence.j0 k y0 y1 y2 y3 y4 y5 y6) (laws_FnExactIsCongruence.j0 (k + 1) y0 y1 y2 y3 y4 y5 y6))
  | 0 => fun _ _ _ _ _ _ _ r h => by simp [laws_FnExactIsCongruence.j0] at h
  | k + 1 => by
    have ih0 := laws_FnExactIsCongruence.mono_l k
    · intro y0 y1 y2 y3 y4 y5 y6
      unfold laws_FnExactIsCongruence.j0
      repeat' first
      | (with_reducible exact ih0 _ _ _ _ _ _ _)
      | (with_reducible exact impl_IsCongruence.mono _ _ _ _)
      | (with_reducible exact laws_eqAlgebra.mono _ _ _ _ _)
      | (with_reducible exact laws_eqIntS.mono _ _ _)
      | (with_reducible exact laws_szAlgebra.mono _ _ _ _)
      | (with_reducible exact laws_toAlgebra.mono _ _ _)
      | (with_reducible exact laws_toIntS.mono _ _)
      | (with_reducible exact spec_IsCongruence.mono _ _ _ _)
      | (with_reducible exact LeO.refl _)
      | (with_reducible exact LeO.none _)
      | (with_reducible refine LeO.ite ?_ ?_)
      | (with_reducible refine LeO.bind ?_ (fun _ => ?_))
      | exact ih0 _ _ _ _ _ _ _
      | exact impl_IsCongruence.mono _ _ _ _
      | exact laws_eqAlgebra.mono _ _ _ _ _
      | exact laws_eqIntS.mono _ _ _
      | exact laws_szAlgebra.mono _ _ _ _
      | exact laws_toAlgebra.mono _ _ _
      | exact laws_toIntS.mono _ _
      | exact spec_IsCongruence.mono _ _ _ _
      | exact LeO.none _
      | refine LeO.ite ?_ ?_
      | refine LeO.bind ?_ (fun _ => ?_)
theorem laws_FnExactIsCongruence.mono : ∀ a0 a1 a2 k, LeO (laws_FnExactIsCongruence.f k a0 a1 a2) (laws_FnExactIsCongruence.f (k + 1) a0 a1 a2) := by
  intro a0 a1 a2 k
  have ih0 := laws_FnExactIsCongruence.mono_l k
  unfold laws_FnExactIsCongruence.f
  repeat' first
      | (with_reducible exact ih0 _ _ _ _ _ _ _)
      | (with_reducible exact impl_IsCongruence.mono _ _ _ _)
      | (with_reducible exact laws_eqAlgebra.mono _ _ _ _ _)
      | (with_reducible exact laws_eqIntS.mono _ _ _)
      | (with_reducible exact laws_szAlgebra.mono _ _ _ _)
      | (with_reducible exact laws_toAlgebra.mono _ _ _)
      | (with_reducible exact laws_toIntS.mono _ _)
      | (with_reducible exact spec_IsCongruence.mono _ _ _ _)
      | (with_reducible exact LeO.refl _)
      | (with_reducible exact LeO.none _)
      | (with_reducible refine LeO.ite ?_ ?_)
      | (with_reducible refine LeO.bind ?_ (fun _ => ?_))
      | exact ih0 _ _ _ _ _ _ _
      | exact impl_IsCongruence.mono _ _ _ _
      | exact laws_eqAlgebra.mono _ _ _ _ _
      | exact laws_eqIntS.mono _ _ _
      | exact laws_szAlgebra.mono _ _ _ _
      | exact laws_toAlgebra.mono _ _ _
      | exact laws_toIntS.mono _ _
      | exact spec_IsCongruence.mono _ _ _ _
      | exact LeO.none _
      | refine LeO.ite ?_ ?_
      | refine LeO.bind ?_ (fun _ => ?_)
set_option maxHeartbeats 8000000 in
set_option maxRecDepth 100000 in
theorem laws_FnExactIsCongruence.calls (k : Nat) (a0_0 : Int) (A0_1 : Option Addr) (c0_1 : Nat) (l0_1 : List (S109)) (A1 : Option Addr) (c1 : Nat) (l1 : List Int) (r : Bool) (w : World) (hr0_1 : Kd.C k109 w A0_1 l0_1.length l0_1) (hc0_1 : l0_1.length ≤ c0_1) (hr1 : Kd.C (Kd.int .i64) w A1 l1.length l1) (hc1 : l1.length ≤ c1) (h : laws_FnExactIsCongruence.f k a0_0 l0_1 l1 = some r) :
    Calls Try.prog 10 #[.agg #[.int .i64 a0_0, .slice A0_1 l0_1.length c0_1], .slice A1 l1.length c1] w fun e w' => e = .returned (.bool r) ∧ Below w.heap.size w w' := by
  have hu24 := Try.underlying24
  have hu30 := Try.underlying30
  have HR0_1 := Aside0.mk hr0_1
  have HC0_1 := Aside0.mk hc0_1
  clear hr0_1 hc0_1
  have HR1 := Aside0.mk hr1
  have HC1 := Aside0.mk hc1
  clear hr1 hc1
  have HB := Aside0.mk (Below.refl w.heap.size w)
  have H : (if (l1.length : Int) > 1048576 then (some true) else ((laws_szAlgebra.f k a0_0 l0_1 1048576).bind fun t1153 => (if t1153 < 0 then (some true) else ((laws_toAlgebra.f k a0_0 l0_1).bind fun bt1154 => ((laws_toIntS.f k l1).bind fun t1158 => ((spec_IsCongruence.f k bt1154.1 bt1154.2 t1158).bind fun bt1161 => ((laws_toAlgebra.f k a0_0 l0_1).bind fun bt1163 => ((laws_toIntS.f k l1).bind fun t1168 => ((impl_IsCongruence.f k bt1163.1 bt1163.2 t1168).bind fun bt1171 => (if (bt1171.1 != bt1161.1) = true then (laws_FnExactIsCongruence.j0 k l1 t1168 true a0_0 l0_1 bt1163.1 bt1163.2) else (laws_FnExactIsCongruence.j0 k l1 t1168 (bt1171.2 != bt1161.2) a0_0 l0_1 bt1163.1 bt1163.2))))))))))) = some r := h
  clear h
  by_cases c3 : (l1.length : Int) > 1048576
  · rw [if_pos c3] at H
    have c3b0 : decide (1048576 < (l1.length : Int)) = true := decide_eq_true c3
    have c3b1 : decide (1048576 < l1.length) = true := decide_eq_true (by omega)
    clear c3
    obtain rfl := Option.some.inj H
    go_enter Try.func10, Try.ntmps10
    go_wp2_with (first | ((with_reducible refine gate_dst (N := 2) rfl ?_); refine box_event ?hg (N := 2) ?hd (cs := #[.int .i64 a0_0, .slice A0_1 l0_1.length c0_1]) (t := 24) ?hr ?_; (case hd => rfl); (case hg => rfl); (case hr => first | (go_simp; done) | (go_simp; rfl)); intro gb1152 hg w4 hbox hb; have n0_ := Aside0.mk (below_step (by repeat (first | (with_reducible first | exact HB.out | apply below_alloc | apply pw_below_drewN | apply below_drew1) | exact HB.out)) hb); have n1_ := Aside0.mk (hbox); have n2_ := Aside0.mk ((by rw [hg]; exact (below_size (by repeat (first | (with_reducible first | exact HB.out | apply below_alloc | apply pw_below_drewN | apply below_drew1) | exact HB.out))) : w.heap.size ≤ gb1152)); have n3_ := Aside0.mk ((by rw [hg]; exact (below_size (by repeat (first | (with_reducible first | exact HB.out | apply below_alloc | apply pw_below_drewN | apply below_drew1) | exact HB.out))) : w.heap.size ≤ gb1152)); clear HB; have HB := n0_; have BK1152 := n1_; have GW1152 := n2_; have GE1152 := n3_; clear n0_ n1_ n2_ n3_; clear hb hbox hg))
    go_ret
    exact ⟨by first | rfl | (simp [errW_none, errW_some] <;> rfl) | (simp [*, errW_none, errW_some] <;> rfl), by repeat (first | (with_reducible first | exact HB.out | apply below_alloc | apply pw_below_drewN | apply below_drew1 | refine below_set ?_ GE1152.out) | exact HB.out)⟩
  · rw [if_neg c3] at H
    have c3b0 : decide (1048576 < (l1.length : Int)) = false := decide_eq_false c3
    have c3b1 : decide (1048576 < l1.length) = false := decide_eq_false (by omega)
    clear c3
    replace H := Option.bind_eq_some_iff.mp H
    obtain ⟨t1153, A50, H⟩ := H
    replace H : (if t1153 < 0 then (some true) else ((laws_toAlgebra.f k a0_0 l0_1).bind fun bt1154 => ((laws_toIntS.f k l1).bind fun t1158 => ((spec_IsCongruence.f k bt1154.1 bt1154.2 t1158).bind fun bt1161 => ((laws_toAlgebra.f k a0_0 l0_1).bind fun bt1163 => ((laws_toIntS.f k l1).bind fun t1168 => ((impl_IsCongruence.f k bt1163.1 bt1163.2 t1168).bind fun bt1171 => (if (bt1171.1 != bt1161.1) = true then (laws_FnExactIsCongruence.j0 k l1 t1168 true a0_0 l0_1 bt1163.1 bt1163.2) else (laws_FnExactIsCongruence.j0 k l1 t1168 (bt1171.2 != bt1161.2) a0_0 l0_1 bt1163.1 bt1163.2))))))))) = some r := H
    have A5 := Aside0.mk A50
    clear A50
    by_cases c6 : t1153 < 0
    · rw [if_pos c6] at H
      have c6b0 : decide (t1153 < 0) = true := decide_eq_true c6
      clear c6
      obtain rfl := Option.some.inj H
      go_enter Try.func10, Try.ntmps10
      go_wp2_with (first | ((with_reducible refine gate_dst (N := 2) rfl ?_); refine box_event ?hg (N := 2) ?hd (cs := #[.int .i64 a0_0, .slice A0_1 l0_1.length c0_1]) (t := 24) ?hr ?_; (case hd => rfl); (case hg => rfl); (case hr => first | (go_simp; done) | (go_simp; rfl)); intro gb1152 hg w7 hbox hb; have n0_ := Aside0.mk (below_step (by repeat (first | (with_reducible first | exact HB.out | apply below_alloc | apply pw_below_drewN | apply below_drew1) | exact HB.out)) hb); have n1_ := Aside0.mk (hbox); have n2_ := Aside0.mk ((by rw [hg]; exact (below_size (by repeat (first | (with_reducible first | exact HB.out | apply below_alloc | apply pw_below_drewN | apply below_drew1) | exact HB.out))) : w.heap.size ≤ gb1152)); have n3_ := Aside0.mk ((by rw [hg]; exact (below_size (by repeat (first | (with_reducible first | exact HB.out | apply below_alloc | apply pw_below_drewN | apply below_drew1) | exact HB.out))) : w.heap.size ≤ gb1152)); clear HB; have HB := n0_; have BK1152 := n1_; have GW1152 := n2_; have GE1152 := n3_; clear n0_ n1_ n2_ n3_; clear hb hbox hg; have hcz8_0 : w7.cell? ⟨gb1152, 0, none⟩ = some (.int .i64 a0_0) := (blk_cell BK1152.out 0).trans rfl; have hcz8_1 : w7.cell? ⟨gb1152, 1, none⟩ = some (.slice A0_1 l0_1.length c0_1) := (blk_cell BK1152.out 1).trans rfl; have hfz8_0 := blk_frozen BK1152.out 0; have hfz8_1 := blk_frozen BK1152.out 1) | ((with_reducible refine gate_callee (f := 15) rfl ?_); refine goesL_ (some 17) rfl rfl Try.func15 (by kernel_rfl) rfl #[.agg #[.int .i64 a0_0, .slice A0_1 l0_1.length c0_1], .int .i64 1048576] rfl (by (try simp only [List.map_toArray, List.map_cons, List.map_nil]); first | done | rfl | (simp only [List.length_drop, List.length_take]; rfl)) ?_; (with_reducible refine (laws_szAlgebra.calls k a0_0 _ _ l0_1 1048576 t1153 _ ?side1 ?side2 A5.out).mono ?_); (case side1 => repeat (first | exact (Kd.C_below HR0_1.out HB.out) | (with_reducible refine Kd.C_alloc ?_ _) | (with_reducible refine Kd.C_drewN ?_ _) | (with_reducible refine Kd.C_drew ?_))); (case side2 => exact HC0_1.out); rintro e w9 ⟨rfl, hb⟩; refine ⟨_, rfl, ?_⟩; have n0_ := Aside0.mk (blk_below (g := gb1152) (o := .cells #[.int .i64 a0_0, .slice A0_1 l0_1.length c0_1] 24 (0, 0)) (by (with_reducible repeat (first | refine blk_drewN ?_ _ | refine blk_drew ?_ | refine blk_alloc ?_ _)); exact BK1152.out) hb); have n1_ := Aside0.mk (below_step (by repeat (first | (with_reducible first | exact HB.out | apply below_alloc | apply pw_below_drewN | apply below_drew1 | refine below_set ?_ GE1152.out) | exact HB.out)) hb); clear BK1152; clear HB; have BK1152 := n0_; have HB := n1_; clear n0_ n1_; (try clear hb); (try clear hb2); (try clear hk); (try clear hi)))
      go_ret
      exact ⟨by first | rfl | (simp [errW_none, errW_some] <;> rfl) | (simp [*, errW_none, errW_some] <;> rfl), by repeat (first | (with_reducible first | exact HB.out | apply below_alloc | apply pw_below_drewN | apply below_drew1 | refine below_set ?_ GE1152.out) | exact HB.out)⟩
    · rw [if_neg c6] at H
      have c6b0 : decide (t1153 < 0) = false := decide_eq_false c6
      clear c6
      replace H := Option.bind_eq_some_iff.mp H
      obtain ⟨⟨t1154, t1155⟩, A100, H⟩ := H
      replace H : ((laws_toIntS.f k l1).bind fun t1158 => ((spec_IsCongruence.f k t1154 t1155 t1158).bind fun bt1161 => ((laws_toAlgebra.f k a0_0 l0_1).bind fun bt1163 => ((laws_toIntS.f k l1).bind fun t1168 => ((impl_IsCongruence.f k bt1163.1 bt1163.2 t1168).bind fun bt1171 => (if (bt1171.1 != bt1161.1) = true then (laws_FnExactIsCongruence.j0 k l1 t1168 true a0_0 l0_1 bt1163.1 bt1163.2) else (laws_FnExactIsCongruence.j0 k l1 t1168 (bt1171.2 != bt1161.2) a0_0 l0_1 bt1163.1 bt1163.2))))))) = some r := H
      have A10 := Aside0.mk A100
      clear A100
      replace H := Option.bind_eq_some_iff.mp H
      obtain ⟨t1158, A110, H⟩ := H
      replace H : ((spec_IsCongruence.f k t1154 t1155 t1158).bind fun bt1161 => ((laws_toAlgebra.f k a0_0 l0_1).bind fun bt1163 => ((laws_toIntS.f k l1).bind fun t1168 => ((impl_IsCongruence.f k bt1163.1 bt1163.2 t1168).bind fun bt1171 => (if (bt1171.1 != bt1161.1) = true then (laws_FnExactIsCongruence.j0 k l1 t1168 true a0_0 l0_1 bt1163.1 bt1163.2) else (laws_FnExactIsCongruence.j0 k l1 t1168 (bt1171.2 != bt1161.2) a0_0 l0_1 bt1163.1 bt1163.2)))))) = some r := H
      have A11 := Aside0.mk A110
      clear A110
      replace H := Option.bind_eq_some_iff.mp H
      obtain ⟨⟨t1161, t1162⟩, A120, H⟩ := H
      replace H : ((laws_toAlgebra.f k a0_0 l0_1).bind fun bt1163 => ((laws_toIntS.f k l1).bind fun t1168 => ((impl_IsCongruence.f k bt1163.1 bt1163.2 t1168).bind fun bt1171 => (if (bt1171.1 != t1161) = true then (laws_FnExactIsCongruence.j0 k l1 t1168 true a0_0 l0_1 bt1163.1 bt1163.2) else (laws_FnExactIsCongruence.j0 k l1 t1168 (bt1171.2 != t1162) a0_0 l0_1 bt1163.1 bt1163.2))))) = some r := H
      have A12 := Aside0.mk A120
      clear A120
      replace H := Option.bind_eq_some_iff.mp H
      obtain ⟨⟨t1163, t1164⟩, A130, H⟩ := H
      replace H : ((laws_toIntS.f k l1).bind fun t1168 => ((impl_IsCongruence.f k t1163 t1164 t1168).bind fun bt1171 => (if (bt1171.1 != t1161) = true then (laws_FnExactIsCongruence.j0 k l1 t1168 true a0_0 l0_1 t1163 t1164) else (laws_FnExactIsCongruence.j0 k l1 t1168 (bt1171.2 != t1162) a0_0 l0_1 t1163 t1164)))) = some r := H
      have A13 := Aside0.mk A130
      clear A130
      replace H := Option.bind_eq_some_iff.mp H
      obtain ⟨t1168, A140, H⟩ := H
      replace H : ((impl_IsCongruence.f k t1163 t1164 t1168).bind fun bt1171 => (if (bt1171.1 != t1161) = true then (laws_FnExactIsCongruence.j0 k l1 t1168 true a0_0 l0_1 t1163 t1164) else (laws_FnExactIsCongruence.j0 k l1 t1168 (bt1171.2 != t1162) a0_0 l0_1 t1163 t1164))) = some r := H
      have A14 := Aside0.mk A140
      clear A140
      replace H := Option.bind_eq_some_iff.mp H
      obtain ⟨⟨t1171, t1172⟩, A150, H⟩ := H
      replace H : (if (t1171 != t1161) = true then (laws_FnExactIsCongruence.j0 k l1 t1168 true a0_0 l0_1 t1163 t1164) else (laws_FnExactIsCongruence.j0 k l1 t1168 (t1172 != t1162) a0_0 l0_1 t1163 t1164)) = some r := H
      have A15 := Aside0.mk A150
      clear A150
      have HC16 := Aside0.mk H
      clear H
      go_enter Try.func10, Try.ntmps10
      go_upto_region 11 with (first | ((with_reducible refine gate_dst (N := 2) rfl ?_); refine box_event ?hg (N := 2) ?hd (cs := #[.int .i64 a0_0, .slice A0_1 l0_1.length c0_1]) (t := 24) ?hr ?_; (case hd => rfl); (case hg => rfl); (case hr => first | (go_simp; done) | (go_simp; rfl)); intro gb1152 hg w17 hbox hb; have n0_ := Aside0.mk (below_step (by repeat (first | (with_reducible first | exact HB.out | apply below_alloc | apply pw_below_drewN | apply below_drew1) | exact HB.out)) hb); have n1_ := Aside0.mk (hbox); have n2_ := Aside0.mk ((by rw [hg]; exact (below_size (by repeat (first | (with_reducible first | exact HB.out | apply below_alloc | apply pw_below_drewN | apply below_drew1) | exact HB.out))) : w.heap.size ≤ gb1152)); have n3_ := Aside0.mk ((by rw [hg]; exact (below_size (by repeat (first | (with_reducible first | exact HB.out | apply below_alloc | apply pw_below_drewN | apply below_drew1) | exact HB.out))) : w.heap.size ≤ gb1152)); clear HB; have HB := n0_; have BK1152 := n1_; have GW1152 := n2_; have GE1152 := n3_; clear n0_ n1_ n2_ n3_; clear hb hbox hg; have hcz18_0 : w17.cell? ⟨gb1152, 0, none⟩ = some (.int .i64 a0_0) := (blk_cell BK1152.out 0).trans rfl; have hcz18_1 : w17.cell? ⟨gb1152, 1, none⟩ = some (.slice A0_1 l0_1.length c0_1) := (blk_cell BK1152.out 1).trans rfl; have hfz18_0 := blk_frozen BK1152.out 0; have hfz18_1 := blk_frozen BK1152.out 1) | ((with_reducible refine gate_callee (f := 15) rfl ?_); refine goesL_ (some 17) rfl rfl Try.func15 (by kernel_rfl) rfl #[.agg #[.int .i64 a0_0, .slice A0_1 l0_1.length c0_1], .int .i64 1048576] rfl (by (try simp only [List.map_toArray, List.map_cons, List.map_nil]); first | done | rfl | (simp only [List.length_drop, List.length_take]; rfl)) ?_; (with_reducible refine (laws_szAlgebra.calls k a0_0 _ _ l0_1 1048576 t1153 _ ?side1 ?side2 A5.out).mono ?_); (case side1 => repeat (first | exact (Kd.C_below HR0_1.out HB.out) | (with_reducible refine Kd.C_alloc ?_ _) | (with_reducible refine Kd.C_drewN ?_ _) | (with_reducible refine Kd.C_drew ?_))); (case side2 => exact HC0_1.out); rintro e w19 ⟨rfl, hb⟩; refine ⟨_, rfl, ?_⟩; have n0_ := Aside0.mk (blk_below (g := gb1152) (o := .cells #[.int .i64 a0_0, .slice A0_1 l0_1.length c0_1] 24 (0, 0)) (by (with_reducible repeat (first | refine blk_drewN ?_ _ | refine blk_drew ?_ | refine blk_alloc ?_ _)); exact BK1152.out) hb); have n1_ := Aside0.mk (below_step (by repeat (first | (with_reducible first | exact HB.out | apply below_alloc | apply pw_below_drewN | apply below_drew1 | refine below_set ?_ GE1152.out) | exact HB.out)) hb); clear BK1152; clear HB; have BK1152 := n0_; have HB := n1_; clear n0_ n1_; (try clear hb); (try clear hb2); (try clear hk); (try clear hi); have hcz20_0 : w19.cell? ⟨gb1152, 0, none⟩ = some (.int .i64 a0_0) := (blk_cell BK1152.out 0).trans rfl; have hcz20_1 : w19.cell? ⟨gb1152, 1, none⟩ = some (.slice A0_1 l0_1.length c0_1) := (blk_cell BK1152.out 1).trans rfl; have hfz20_0 := blk_frozen BK1152.out 0; have hfz20_1 := blk_frozen BK1152.out 1) | ((with_reducible refine gate_callee (f := 17) rfl ?_); refine goesL_ (some 22) rfl rfl Try.func17 (by kernel_rfl) rfl #[.agg #[.int .i64 a0_0, .slice A0_1 l0_1.length c0_1]] rfl (by (try simp only [List.map_toArray, List.map_cons, List.map_nil]); first | done | rfl | (simp only [List.length_drop, List.length_take]; rfl)) ?_; (with_reducible refine (laws_toAlgebra.calls k a0_0 _ _ l0_1 t1154 t1155 _ ?side1 ?side2 A10.out).mono ?_); (case side1 => repeat (first | exact (Kd.C_below HR0_1.out HB.out) | (with_reducible refine Kd.C_alloc ?_ _) | (with_reducible refine Kd.C_drewN ?_ _) | (with_reducible refine Kd.C_drew ?_))); (case side2 => exact HC0_1.out); rintro e w21 ⟨v1156, rfl, ho0, hb⟩; refine ⟨_, rfl, ?_⟩; have n0_ := Aside0.mk (Kd.S_lower ho0 (below_size (by repeat (first | (with_reducible first | exact HB.out | apply below_alloc | apply pw_below_drewN | apply below_drew1 | refine below_set ?_ GE1152.out) | exact HB.out)))); have n1_ := Aside0.mk (blk_below (g := gb1152) (o := .cells #[.int .i64 a0_0, .slice A0_1 l0_1.length c0_1] 24 (0, 0)) (by (with_reducible repeat (first | refine blk_drewN ?_ _ | refine blk_drew ?_ | refine blk_alloc ?_ _)); exact BK1152.out) hb); have n2_ := Aside0.mk (below_step (by repeat (first | (with_reducible first | exact HB.out | apply below_alloc | apply pw_below_drewN | apply below_drew1 | refine below_set ?_ GE1152.out) | exact HB.out)) hb); clear BK1152; clear HB; have HO1157 := n0_; have BK1152 := n1_; have HB := n2_; clear n0_ n1_ n2_; (try clear hb); (try clear hb2); (try clear hk); (try clear hi); (try clear ho0)) | ((with_reducible refine gate_callee (f := 51) rfl ?_); refine goesL_ (some 24) rfl rfl Try.func51 (by kernel_rfl) rfl #[.slice A1 l1.length c1] rfl (by (try simp only [List.map_toArray, List.map_cons, List.map_nil]); first | done | rfl | (simp only [List.length_drop, List.length_take]; rfl)) ?_; (with_reducible refine (laws_toIntS.calls k _ _ l1 t1158 _ ?side1 ?side2 A11.out).mono ?_); (case side1 => repeat (first | exact (Kd.C_below HR1.out HB.out) | (with_reducible refine Kd.C_alloc ?_ _) | (with_reducible refine Kd.C_drewN ?_ _) | (with_reducible refine Kd.C_drew ?_))); (case side2 => exact HC1.out); rintro e w22 ⟨v1159, rfl, ho0, hb⟩; refine ⟨_, rfl, ?_⟩; have n0_ := Aside0.mk (Kd.S_elder' (by (with_reducible repeat (first | apply Kd.S_alloc | apply Kd.S_drewN | apply Kd.S_drew)); exact HO1157.out) (Kd.R_base ho0) hb); have n1_ := Aside0.mk (Kd.R_lower ho0 (below_size (by repeat (first | (with_reducible first | exact HB.out | apply below_alloc | apply pw_below_drewN | apply below_drew1 | refine below_set ?_ GE1152.out) | exact HB.out)))); have n2_ := Aside0.mk (blk_below (g := gb1152) (o := .cells #[.int .i64 a0_0, .slice A0_1 l0_1.length c0_1] 24 (0, 0)) (by (with_reducible repeat (first | refine blk_drewN ?_ _ | refine blk_drew ?_ | refine blk_alloc ?_ _)); exact BK1152.out) hb); have n3_ := Aside0.mk (below_step (by repeat (first | (with_reducible first | exact HB.out | apply below_alloc | apply pw_below_drewN | apply below_drew1 | refine below_set ?_ GE1152.out) | exact HB.out)) hb); clear HO1157; clear BK1152; clear HB; have HO1157 := n0_; have HO1160 := n1_; have BK1152 := n2_; have HB := n3_; clear n0_ n1_ n2_ n3_; (try clear hb); (try clear hb2); (try clear hk); (try clear hi); (try clear ho0); obtain ⟨Ao23, co23, eo23⟩ := Kd.S_slice HO1157.out; subst eo23; obtain ⟨Ao24, co24, eo24⟩ := Kd.R_slice HO1160.out; subst eo24) | ((with_reducible refine gate_callee (f := 53) rfl ?_); refine goesL_ (some 25) rfl rfl Try.func53 (by kernel_rfl) rfl #[.agg #[.int .i64 t1154, .slice Ao23 t1155.length co23], .slice Ao24 t1158.length co24] rfl (by (try simp only [List.map_toArray, List.map_cons, List.map_nil]); first | done | rfl | (simp only [List.length_drop, List.length_take]; rfl)) ?_; (with_reducible refine (spec_IsCongruence.calls k t1154 _ _ t1155 _ _ t1158 t1161 t1162 _ ?side1 ?side2 ?side3 ?side4 A12.out).mono ?_); (case side1 => repeat (first | exact (Kd.S_reads' HO1157.out).2.2 | (with_reducible refine Kd.C_alloc ?_ _) | (with_reducible refine Kd.C_drewN ?_ _) | (with_reducible refine Kd.C_drew ?_))); (case side2 => exact (Kd.S_reads' HO1157.out).2.1); (case side3 => repeat (first | exact (Kd.R_reads' HO1160.out).2.2 | (with_reducible refine Kd.C_alloc ?_ _) | (with_reducible refine Kd.C_drewN ?_ _) | (with_reducible refine Kd.C_drew ?_))); (case side4 => exact (Kd.R_reads' HO1160.out).2.1); rintro e w25 ⟨rfl, hb⟩; refine ⟨_, rfl, ?_⟩; have n0_ := Aside0.mk (Kd.S_below (by (with_reducible repeat (first | apply Kd.S_alloc | apply Kd.S_drewN | apply Kd.S_drew)); exact HO1157.out) hb); have n1_ := Aside0.mk (Kd.R_below (by (with_reducible repeat (first | apply Kd.R_alloc | apply Kd.R_drewN | apply Kd.R_drew)); exact HO1160.out) hb); have n2_ := Aside0.mk (blk_below (g := gb1152) (o := .cells #[.int .i64 a0_0, .slice A0_1 l0_1.length c0_1] 24 (0, 0)) (by (with_reducible repeat (first | refine blk_drewN ?_ _ | refine blk_drew ?_ | refine blk_alloc ?_ _)); exact BK1152.out) hb); have n3_ := Aside0.mk (below_step (by repeat (first | (with_reducible first | exact HB.out | apply below_alloc | apply pw_below_drewN | apply below_drew1 | refine below_set ?_ GE1152.out) | exact HB.out)) hb); clear HO1157; clear HO1160; clear BK1152; clear HB; have HO1157 := n0_; have HO1160 := n1_; have BK1152 := n2_; have HB := n3_; clear n0_ n1_ n2_ n3_; (try clear hb); (try clear hb2); (try clear hk); (try clear hi); have hcz26_0 : w25.cell? ⟨gb1152, 0, none⟩ = some (.int .i64 a0_0) := (blk_cell BK1152.out 0).trans rfl; have hcz26_1 : w25.cell? ⟨gb1152, 1, none⟩ = some (.slice A0_1 l0_1.length c0_1) := (blk_cell BK1152.out 1).trans rfl; have hfz26_0 := blk_frozen BK1152.out 0; have hfz26_1 := blk_frozen BK1152.out 1) | ((with_reducible refine gate_callee (f := 17) rfl ?_); refine goesL_ (some 29) rfl rfl Try.func17 (by kernel_rfl) rfl #[.agg #[.int .i64 a0_0, .slice A0_1 l0_1.length c0_1]] rfl (by (try simp only [List.map_toArray, List.map_cons, List.map_nil]); first | done | rfl | (simp only [List.length_drop, List.length_take]; rfl)) ?_; (with_reducible refine (laws_toAlgebra.calls k a0_0 _ _ l0_1 t1163 t1164 _ ?side1 ?side2 A13.out).mono ?_); (case side1 => repeat (first | exact (Kd.C_below HR0_1.out HB.out) | (with_reducible refine Kd.C_alloc ?_ _) | (with_reducible refine Kd.C_drewN ?_ _) | (with_reducible refine Kd.C_drew ?_))); (case side2 => exact HC0_1.out); rintro e w27 ⟨v1165, rfl, ho0, hb⟩; refine ⟨_, rfl, ?_⟩; have n0_ := Aside0.mk (Kd.S_elder' (by (with_reducible repeat (first | apply Kd.S_alloc | apply Kd.S_drewN | apply Kd.S_drew)); exact HO1157.out) (Kd.S_base ho0) hb); have n1_ := Aside0.mk (Kd.R_below (by (with_reducible repeat (first | apply Kd.R_alloc | apply Kd.R_drewN | apply Kd.R_drew)); exact HO1160.out) hb); have n2_ := Aside0.mk (Kd.S_lower (Kd.S_new' (Kd.S_new' ho0 (Kd.S_lt (by (with_reducible repeat (first | apply Kd.S_alloc | apply Kd.S_drewN | apply Kd.S_drew)); exact HO1157.out))) (Kd.R_lt (by (with_reducible repeat (first | apply Kd.R_alloc | apply Kd.R_drewN | apply Kd.R_drew)); exact HO1160.out))) (below_size (by repeat (first | (with_reducible first | exact HB.out | apply below_alloc | apply pw_below_drewN | apply below_drew1 | refine below_set ?_ GE1152.out) | exact HB.out)))); have n3_ := Aside0.mk (blk_below (g := gb1152) (o := .cells #[.int .i64 a0_0, .slice A0_1 l0_1.length c0_1] 24 (0, 0)) (by (with_reducible repeat (first | refine blk_drewN ?_ _ | refine blk_drew ?_ | refine blk_alloc ?_ _)); exact BK1152.out) hb); have n4_ := Aside0.mk (below_step (by repeat (first | (with_reducible first | exact HB.out | apply below_alloc | apply pw_below_drewN | apply below_drew1 | refine below_set ?_ GE1152.out) | exact HB.out)) hb); clear HO1157; clear HO1160; clear BK1152; clear HB; have HO1157 := n0_; have HO1160 := n1_; have HO1166 := n2_; have BK1152 := n3_; have HB := n4_; clear n0_ n1_ n2_ n3_ n4_; (try clear hb); (try clear hb2); (try clear hk); (try clear hi); (try clear ho0)) | ((with_reducible refine gate_dst (N := 8) rfl ?_); refine box_event ?hg (N := 8) ?hd (cs := #[.int .i64 0, .slice none 0 0]) (t := 30) ?hr ?_; (case hd => rfl); (case hg => rfl); (case hr => first | (go_simp; done) | (go_simp; rfl)); intro gb1167 hg w28 hbox hb; have n0_ := Aside0.mk (Kd.S_below (by (with_reducible repeat (first | apply Kd.S_alloc | apply Kd.S_drewN | apply Kd.S_drew)); exact HO1157.out) hb); have n1_ := Aside0.mk (Kd.R_below (by (with_reducible repeat (first | apply Kd.R_alloc | apply Kd.R_drewN | apply Kd.R_drew)); exact HO1160.out) hb); have n2_ := Aside0.mk (Kd.S_below (by (with_reducible repeat (first | apply Kd.S_alloc | apply Kd.S_drewN | apply Kd.S_drew)); exact HO1166.out) hb); have n3_ := Aside0.mk (blk_below (g := gb1152) (o := .cells #[.int .i64 a0_0, .slice A0_1 l0_1.length c0_1] 24 (0, 0)) (by (with_reducible repeat (first | refine blk_drewN ?_ _ | refine blk_drew ?_ | refine blk_alloc ?_ _)); exact BK1152.out) hb); have n4_ := Aside0.mk (below_step (by repeat (first | (with_reducible first | exact HB.out | apply below_alloc | apply pw_below_drewN | apply below_drew1 | refine below_set ?_ GE1152.out) | exact HB.out)) hb); have n5_ := Aside0.mk (hbox); have n6_ := Aside0.mk ((by rw [hg]; exact (below_size (by repeat (first | (with_reducible first | exact HB.out | apply below_alloc | apply pw_below_drewN | apply below_drew1 | refine below_set ?_ GE1152.out) | exact HB.out))) : w.heap.size ≤ gb1167)); have n7_ := Aside0.mk ((by rw [hg]; exact (below_size (by repeat (first | (with_reducible first | exact HB.out | apply below_alloc | apply pw_below_drewN | apply below_drew1 | refine below_set ?_ GE1152.out) | exact HB.out))) : w.heap.size ≤ gb1167)); have n8_ := Aside0.mk ((by rw [hg]; exact Nat.ne_of_lt (blk_lt (g := gb1152) (o := .cells #[.int .i64 a0_0, .slice A0_1 l0_1.length c0_1] 24 (0, 0)) (by (with_reducible repeat (first | refine blk_drewN ?_ _ | refine blk_drew ?_ | refine blk_alloc ?_ _)); exact BK1152.out)) : gb1152 ≠ gb1167)); have n9_ := Aside0.mk ((by rw [hg]; exact Nat.ne_of_gt (blk_lt (g := gb1152) (o := .cells #[.int .i64 a0_0, .slice A0_1 l0_1.length c0_1] 24 (0, 0)) (by (with_reducible repeat (first | refine blk_drewN ?_ _ | refine blk_drew ?_ | refine blk_alloc ?_ _)); exact BK1152.out)) : gb1167 ≠ gb1152)); clear HO1157; clear HO1160; clear HO1166; clear BK1152; clear HB; have HO1157 := n0_; have HO1160 := n1_; have HO1166 := n2_; have BK1152 := n3_; have HB := n4_; have BK1167 := n5_; have GW1167 := n6_; have GE1167 := n7_; have NB1152_1167 := n8_; have NB1167_1152 := n9_; clear n0_ n1_ n2_ n3_ n4_ n5_ n6_ n7_ n8_ n9_; clear hb hbox hg; have hnb29 := NB1167_1152.out; have hnc29 := NB1152_1167.out; have hcz30_0 : w28.cell? ⟨gb1167, 0, none⟩ = some (.int .i64 0) := (blk_cell BK1167.out 0).trans rfl; have hcz30_1 : w28.cell? ⟨gb1167, 1, none⟩ = some (.slice none 0 0) := (blk_cell BK1167.out 1).trans rfl; have hfz30_0 := blk_frozen BK1167.out 0; have hfz30_1 := blk_frozen BK1167.out 1; obtain ⟨Ao31, co31, eo31⟩ := Kd.S_slice HO1166.out; subst eo31) | ((with_reducible refine gate_callee (f := 51) rfl ?_); refine goesL_ (some 31) rfl rfl Try.func51 (by kernel_rfl) rfl #[.slice A1 l1.length c1] rfl (by (try simp only [List.map_toArray, List.map_cons, List.map_nil]); first | done | rfl | (simp only [List.length_drop, List.length_take]; rfl)) ?_; (with_reducible refine (laws_toIntS.calls k _ _ l1 t1168 _ ?side1 ?side2 A14.out).mono ?_); (case side1 => exact Kd.C_below HR1.out (by repeat (first | (with_reducible first | exact HB.out | apply below_alloc | apply pw_below_drewN | apply below_drew1 | refine below_set ?_ GE1152.out | refine below_set ?_ GE1167.out) | exact HB.out))); (case side2 => exact HC1.out); rintro e w32 ⟨v1169, rfl, ho0, hb⟩; refine ⟨_, rfl, ?_⟩; have n0_ := Aside0.mk (Kd.S_elder' (by (with_reducible repeat (first | apply Kd.S_alloc | apply Kd.S_drewN | apply Kd.S_drew)); exact (Kd.S_mono (Kd.S_far (p := ⟨gb1167, 1, none⟩) (Kd.S_far (p := ⟨gb1167, 0, none⟩) (Kd.S_types HO1157.out BK1167.out (by decide)) (fun _ hk => hk.2) (.int .i64 t1163)) (fun _ hk => hk.2) (.slice Ao31 t1164.length co31)) (fun _ h_ => h_.1))) (Kd.R_base ho0) hb); have n1_ := Aside0.mk (Kd.R_elder' (by (with_reducible repeat (first | apply Kd.R_alloc | apply Kd.R_drewN | apply Kd.R_drew)); exact (Kd.R_mono (Kd.R_far (p := ⟨gb1167, 1, none⟩) (Kd.R_far (p := ⟨gb1167, 0, none⟩) (Kd.R_types HO1160.out BK1167.out (by decide)) (fun _ hk => hk.2) (.int .i64 t1163)) (fun _ hk => hk.2) (.slice Ao31 t1164.length co31)) (fun _ h_ => h_.1))) (Kd.R_base ho0) hb); have n2_ := Aside0.mk (Kd.S_elder' (by (with_reducible repeat (first | apply Kd.S_alloc | apply Kd.S_drewN | apply Kd.S_drew)); exact (Kd.S_mono (Kd.S_far (p := ⟨gb1167, 1, none⟩) (Kd.S_far (p := ⟨gb1167, 0, none⟩) (Kd.S_types HO1166.out BK1167.out (by decide)) (fun _ hk => hk.2) (.int .i64 t1163)) (fun _ hk => hk.2) (.slice Ao31 t1164.length co31)) (fun _ h_ => h_.1))) (Kd.R_base ho0) hb); have n3_ := Aside0.mk (Kd.R_lower (Kd.R_new' ho0 (Kd.R_lt (by (with_reducible repeat (first | apply Kd.R_alloc | apply Kd.R_drewN | apply Kd.R_drew)); exact (Kd.R_mono (Kd.R_far (p := ⟨gb1167, 1, none⟩) (Kd.R_far (p := ⟨gb1167, 0, none⟩) (Kd.R_types HO1160.out BK1167.out (by decide)) (fun _ hk => hk.2) (.int .i64 t1163)) (fun _ hk => hk.2) (.slice Ao31 t1164.length co31)) (fun _ h_ => h_.1))))) (below_size (by repeat (first | (with_reducible first | exact HB.out | apply below_alloc | apply pw_below_drewN | apply below_drew1 | refine below_set ?_ GE1152.out | refine below_set ?_ GE1167.out) | exact HB.out)))); have n4_ := Aside0.mk (blk_below (g := gb1152) (o := .cells #[.int .i64 a0_0, .slice A0_1 l0_1.length c0_1] 24 (0, 0)) (by (with_reducible repeat (first | refine blk_drewN ?_ _ | refine blk_drew ?_ | refine blk_alloc ?_ _)); refine blk_far ?_ NB1152_1167.out _; (with_reducible repeat (first | refine blk_drewN ?_ _ | refine blk_drew ?_ | refine blk_alloc ?_ _)); refine blk_far ?_ NB1152_1167.out _; (with_reducible repeat (first | refine blk_drewN ?_ _ | refine blk_drew ?_ | refine blk_alloc ?_ _)); exact BK1152.out) hb); have n5_ := Aside0.mk (blk_below (g := gb1167) (o := .cells #[.int .i64 t1163, .slice Ao31 t1164.length co31] 30 (0, 0)) (by (with_reducible repeat (first | refine blk_drewN ?_ _ | refine blk_drew ?_ | refine blk_alloc ?_ _)); refine blk_put (cs := #[.int .i64 t1163, .slice none 0 0]) ?_ 1 _ rfl; (with_reducible repeat (first | refine blk_drewN ?_ _ | refine blk_drew ?_ | refine blk_alloc ?_ _)); refine blk_put (cs := #[.int .i64 0, .slice none 0 0]) ?_ 0 _ rfl; (with_reducible repeat (first | refine blk_drewN ?_ _ | refine blk_drew ?_ | refine blk_alloc ?_ _)); exact BK1167.out) hb); have n6_ := Aside0.mk (below_step (by repeat (first | (with_reducible first | exact HB.out | apply below_alloc | apply pw_below_drewN | apply below_drew1 | refine below_set ?_ GE1152.out | refine below_set ?_ GE1167.out) | exact HB.out)) hb); clear HO1157; clear HO1160; clear HO1166; clear BK1152; clear BK1167; clear HB; have HO1157 := n0_; have HO1160 := n1_; have HO1166 := n2_; have HO1170 := n3_; have BK1152 := n4_; have BK1167 := n5_; have HB := n6_; clear n0_ n1_ n2_ n3_ n4_ n5_ n6_; (try clear hb); (try clear hb2); (try clear hk); (try clear hi); (try clear ho0); have hcz33_0 : w32.cell? ⟨gb1167, 0, none⟩ = some (.int .i64 t1163) := (blk_cell BK1167.out 0).trans rfl; have hcz33_1 : w32.cell? ⟨gb1167, 1, none⟩ = some (.slice Ao31 t1164.length co31) := (blk_cell BK1167.out 1).trans rfl; have hfz33_0 := blk_frozen BK1167.out 0; have hfz33_1 := blk_frozen BK1167.out 1; obtain ⟨Ao34, co34, eo34⟩ := Kd.R_slice HO1170.out; subst eo34) | ((with_reducible refine gate_callee (f := 54) rfl ?_); refine goesL_ (some 35) rfl rfl Try.func54 (by kernel_rfl) rfl #[.agg #[.int .i64 t1163, .slice Ao31 t1164.length co31], .slice Ao34 t1168.length co34] rfl (by (try simp only [List.map_toArray, List.map_cons, List.map_nil]); first | done | rfl | (simp only [List.length_drop, List.length_take]; rfl)) ?_; (with_reducible refine (impl_IsCongruence.calls k t1163 _ _ t1164 _ _ t1168 t1171 t1172 _ ?side1 ?side2 ?side3 ?side4 A15.out).mono ?_); (case side1 => repeat (first | exact (Kd.S_reads' HO1166.out).2.2 | (with_reducible refine Kd.C_alloc ?_ _) | (with_reducible refine Kd.C_drewN ?_ _) | (with_reducible refine Kd.C_drew ?_))); (case side2 => exact (Kd.S_reads' HO1166.out).2.1); (case side3 => repeat (first | exact (Kd.R_reads' HO1170.out).2.2 | (with_reducible refine Kd.C_alloc ?_ _) | (with_reducible refine Kd.C_drewN ?_ _) | (with_reducible refine Kd.C_drew ?_))); (case side4 => exact (Kd.R_reads' HO1170.out).2.1); rintro e w35 ⟨rfl, hb⟩; refine ⟨_, rfl, ?_⟩; have n0_ := Aside0.mk (Kd.S_below (by (with_reducible repeat (first | apply Kd.S_alloc | apply Kd.S_drewN | apply Kd.S_drew)); exact HO1157.out) hb); have n1_ := Aside0.mk (Kd.R_below (by (with_reducible repeat (first | apply Kd.R_alloc | apply Kd.R_drewN | apply Kd.R_drew)); exact HO1160.out) hb); have n2_ := Aside0.mk (Kd.S_below (by (with_reducible repeat (first | apply Kd.S_alloc | apply Kd.S_drewN | apply Kd.S_drew)); exact HO1166.out) hb); have n3_ := Aside0.mk (Kd.R_below (by (with_reducible repeat (first | apply Kd.R_alloc | apply Kd.R_drewN | apply Kd.R_drew)); exact HO1170.out) hb); have n4_ := Aside0.mk (blk_below (g := gb1152) (o := .cells #[.int .i64 a0_0, .slice A0_1 l0_1.length c0_1] 24 (0, 0)) (by (with_reducible repeat (first | refine blk_drewN ?_ _ | refine blk_drew ?_ | refine blk_alloc ?_ _)); exact BK1152.out) hb); have n5_ := Aside0.mk (blk_below (g := gb1167) (o := .cells #[.int .i64 t1163, .slice Ao31 t1164.length co31] 30 (0, 0)) (by (with_reducible repeat (first | refine blk_drewN ?_ _ | refine blk_drew ?_ | refine blk_alloc ?_ _)); exact BK1167.out) hb); have n6_ := Aside0.mk (below_step (by repeat (first | (with_reducible first | exact HB.out | apply below_alloc | apply pw_below_drewN | apply below_drew1 | refine below_set ?_ GE1152.out | refine below_set ?_ GE1167.out) | exact HB.out)) hb); clear HO1157; clear HO1160; clear HO1166; clear HO1170; clear BK1152; clear BK1167; clear HB; have HO1157 := n0_; have HO1160 := n1_; have HO1166 := n2_; have HO1170 := n3_; have BK1152 := n4_; have BK1167 := n5_; have HB := n6_; clear n0_ n1_ n2_ n3_ n4_ n5_ n6_; (try clear hb); (try clear hb2); (try clear hk); (try clear hi)))
      (try simp only [Act.put, List.setIfInBounds_toArray, List.set_cons_zero, List.set_cons_succ])
      go_cut [45] (fun v45 wc => ∃ (kq : Nat) (x45_15 : Bool), v45 = .bool x45_15 ∧ Aside0 (laws_FnExactIsCongruence.j0 kq l1 t1168 x45_15 a0_0 l0_1 t1163 t1164 = some r) ∧ Aside0 (kq ≤ k) ∧ Aside0 (Kd.R (Kd.int .i64) 3 wc w.heap.size (fun _ => True) (.slice Ao34 t1168.length co34) t1168) ∧ Aside0 (Kd.S k87 87 wc w.heap.size (fun k_ => some k_ ≠ ((.slice Ao34 t1168.length co34) : Value).ownBlock) (.slice Ao31 t1164.length co31) t1164) ∧ Aside0 (wc.heap[gb1152]? = some (.cells #[.int .i64 a0_0, (.slice A0_1 l0_1.length c0_1)] 24 (0, 0))) ∧ Aside0 (wc.heap[gb1167]? = some (.cells #[.int .i64 t1163, (.slice Ao31 t1164.length co31)] 30 (0, 0))) ∧ Aside0 (Below w.heap.size w wc))
      case first =>
        have H := HC16.out
        clear HC16
        by_cases c36 : (t1171 != t1161) = true
        · rw [if_pos c36] at H
          have c36b0 : (t1171 != t1161) = true := c36
          (try (have c36b1 : decide (t1171 = t1161) = false := by simpa using c36))
          (try (have c36b2 : (t1171 == t1161) = false := by simpa using c36))
          (try (have c36b3 : ¬ (t1171 = t1161) := by simpa using c36))
          clear c36
          (first | rw [c36b0] | (simp only [i64_w, i32_w]; rw [c36b0]) | skip)
          have H' := Aside0.mk H
          clear H
          go_wp2
          go_meet
          case rel => exact ⟨_, (true), (by first | rfl | (simp; done) | (simp [*]; done)), H', ⟨by first | omega | exact Nat.le_refl _⟩, ⟨by (with_reducible repeat (first | apply Kd.R_alloc | apply Kd.R_drewN | apply Kd.R_drew)); exact Kd.R_mono HO1170.out (fun _ hk => trivial)⟩, ⟨by (with_reducible repeat (first | apply Kd.S_alloc | apply Kd.S_drewN | apply Kd.S_drew)); exact Kd.S_mono HO1166.out (fun _ hk => hk.2)⟩, ⟨by (with_reducible repeat (first | refine blk_drewN ?_ _ | refine blk_drew ?_ | refine blk_alloc ?_ _)); exact BK1152.out⟩, ⟨by (with_reducible repeat (first | refine blk_drewN ?_ _ | refine blk_drew ?_ | refine blk_alloc ?_ _)); exact BK1167.out⟩, ⟨by repeat (first | (with_reducible first | exact HB.out | apply below_alloc | apply pw_below_drewN | apply below_drew1 | refine below_set ?_ GE1152.out | refine below_set ?_ GE1167.out) | exact HB.out)⟩⟩
        · rw [if_neg c36] at H
          have c36b0 : (t1171 != t1161) = false := by simpa using c36
          (try (have c36b1 : decide (t1171 = t1161) = true := by simpa using c36))
          (try (have c36b2 : (t1171 == t1161) = true := by simpa using c36))
          clear c36
          (first | rw [c36b0] | (simp only [i64_w, i32_w]; rw [c36b0]) | skip)
          have H' := Aside0.mk H
          clear H
          go_wp2
          go_meet
          case rel => exact ⟨_, ((t1172 != t1162)), (by first | rfl | (simp; done) | (simp [*]; done)), H', ⟨by first | omega | exact Nat.le_refl _⟩, ⟨by (with_reducible repeat (first | apply Kd.R_alloc | apply Kd.R_drewN | apply Kd.R_drew)); exact Kd.R_mono HO1170.out (fun _ hk => trivial)⟩, ⟨by (with_reducible repeat (first | apply Kd.S_alloc | apply Kd.S_drewN | apply Kd.S_drew)); exact Kd.S_mono HO1166.out (fun _ hk => hk.2)⟩, ⟨by (with_reducible repeat (first | refine blk_drewN ?_ _ | refine blk_drew ?_ | refine blk_alloc ?_ _)); exact BK1152.out⟩, ⟨by (with_reducible repeat (first | refine blk_drewN ?_ _ | refine blk_drew ?_ | refine blk_alloc ?_ _)); exact BK1167.out⟩, ⟨by repeat (first | (with_reducible first | exact HB.out | apply below_alloc | apply pw_below_drewN | apply below_drew1 | refine below_set ?_ GE1152.out | refine below_set ?_ GE1167.out) | exact HB.out)⟩⟩
      case rest =>
        clear HC16
        try clear c1
        try clear c2
        try clear p2
        try clear c3
        try clear c3b0
        try clear c3b1
        try clear c5
        try clear c6
        try clear c6b0
        try clear c10
        try clear c15
        try clear c17
        try clear c29
        try clear c36
        try clear c36b0
        try clear c36b1
        try clear c36b2
        try clear hcz18_0
        try clear hcz18_1
        try clear hcz20_0
        try clear hcz20_1
        try clear hcz26_0
        try clear hcz26_1
        try clear hcz30_0
        try clear hcz30_1
        try clear hcz33_0
        try clear hcz33_1
        try clear hcz8_0
        try clear hcz8_1
        try clear hfz18_0
        try clear hfz18_1
        try clear hfz20_0
        try clear hfz20_1
        try clear hfz26_0
        try clear hfz26_1
        try clear hfz30_0
        try clear hfz30_1
        try clear hfz33_0
        try clear hfz33_1
        try clear hfz8_0
        try clear hfz8_1
        obtain ⟨kq, x45_15, rfl, HA, HJ15, HO_9, HO_1168001, BK1152, BK1167, HB⟩ := hcut
        cases kq with
        | zero => exact absurd HA.out (by simp [laws_FnExactIsCongruence.j0])
        | succ kj15 =>
          have H := HA.out
          clear HA
          simp only [laws_FnExactIsCongruence.j0] at H
          by_cases c37 : x45_15 = true
          · subst c37
            have H1 : (some false) = some r := by rw [if_pos rfl] at H; exact H
            clear H
            have H := H1
            clear H1
            obtain rfl := Option.some.inj H
            go_wp2
            go_ret
            exact ⟨by first | rfl | (simp [errW_none, errW_some] <;> rfl) | (simp [*, errW_none, errW_some] <;> rfl), by repeat (first | (with_reducible first | exact HB.out | apply below_alloc | apply pw_below_drewN | apply below_drew1 | refine below_set ?_ GE1152.out | refine below_set ?_ GE1167.out) | exact HB.out)⟩
          · replace c37 := Bool.eq_false_iff.mpr c37
            subst c37
            have H1 : ((laws_toAlgebra.f kj15 a0_0 l0_1).bind fun bt1173 => ((laws_eqAlgebra.f kj15 t1163 t1164 bt1173.1 bt1173.2).bind fun t1177 => (if t1177 = true then ((laws_toIntS.f kj15 l1).bind fun t1178 => ((laws_eqIntS.f kj15 t1168 t1178).bind fun t1181 => (if t1181 = true then (some true) else (some false)))) else (some false)))) = some r := by rw [if_neg (show ¬ (false = true) by decide)] at H; exact H
            clear H
            have H := H1
            clear H1
            replace H := Option.bind_eq_some_iff.mp H
            obtain ⟨⟨t1173, t1174⟩, A380, H⟩ := H
            replace H : ((laws_eqAlgebra.f kj15 t1163 t1164 t1173 t1174).bind fun t1177 => (if t1177 = true then ((laws_toIntS.f kj15 l1).bind fun t1178 => ((laws_eqIntS.f kj15 t1168 t1178).bind fun t1181 => (if t1181 = true then (some true) else (some false)))) else (some false))) = some r := H
            have A38 := Aside0.mk A380
            clear A380
            replace H := Option.bind_eq_some_iff.mp H
            obtain ⟨t1177, A390, H⟩ := H
            replace H : (if t1177 = true then ((laws_toIntS.f kj15 l1).bind fun t1178 => ((laws_eqIntS.f kj15 t1168 t1178).bind fun t1181 => (if t1181 = true then (some true) else (some false)))) else (some false)) = some r := H
            have A39 := Aside0.mk A390
            clear A390
            by_cases c40 : t1177 = true
            · subst c40
              have H1 : ((laws_toIntS.f kj15 l1).bind fun t1178 => ((laws_eqIntS.f kj15 t1168 t1178).bind fun t1181 => (if t1181 = true then (some true) else (some false)))) = some r := by rw [if_pos rfl] at H; exact H
              clear H
              have H := H1
              clear H1
              replace H := Option.bind_eq_some_iff.mp H
              obtain ⟨t1178, A410, H⟩ := H
              replace H : ((laws_eqIntS.f kj15 t1168 t1178).bind fun t1181 => (if t1181 = true then (some true) else (some false))) = some r := H
              have A41 := Aside0.mk A410
              clear A410
              replace H := Option.bind_eq_some_iff.mp H
              obtain ⟨t1181, A420, H⟩ := H
              replace H : (if t1181 = true then (some true) else (some false)) = some r := H
              have A42 := Aside0.mk A420
              clear A420
              by_cases c43 : t1181 = true
              · subst c43
                have H1 : (some true) = some r := by rw [if_pos rfl] at H; exact H
                clear H
                have H := H1
                clear H1
                obtain rfl := Option.some.inj H
                try go_wp2
                have n0_ := Aside0.mk (Kd.R_drew HO_9.out)
                have n1_ := Aside0.mk (Kd.S_drew HO_1168001.out)
                have n2_ := Aside0.mk (blk_drew BK1152.out)
                have n3_ := Aside0.mk (blk_drew BK1167.out)
                have n4_ := Aside0.mk (below_drew1 HB.out)
                clear HO_9
                clear HO_1168001
                clear BK1152
                clear BK1167
                clear HB
                have HO_9 := n0_
                have HO_1168001 := n1_
                have BK1152 := n2_
                have BK1167 := n3_
                have HB := n4_
                clear n0_ n1_ n2_ n3_ n4_
                refine start_ (n := 5) (S := fun w' => w'.cell? ⟨gb1167, 0, none⟩ = some (.int .i64 t1163) ∧ w'.cell? ⟨gb1167, 1, none⟩ = some (.slice Ao31 t1164.length co31) ∧ w'.cell? ⟨gb1152, 0, none⟩ = some (.int .i64 a0_0) ∧ w'.cell? ⟨gb1152, 1, none⟩ = some (.slice A0_1 l0_1.length c0_1)) (ds := []) #[false, false, false, false, false] (by kernel_rfl) rfl rfl ⟨(blk_cell BK1167.out 0).trans rfl, (blk_cell BK1167.out 1).trans rfl, (blk_cell BK1152.out 0).trans rfl, (blk_cell BK1152.out 1).trans rfl⟩ (fun hHeld => ?_)
                generalize wc.drew = w44 at HO_9 HO_1168001 BK1152 BK1167 HB hHeld ⊢
                refine take_ (i := 0) (N := some 46) (v := ?_) (a' := ?_) #[true, false, false, false, false] rfl rfl (by kernel_rfl) (fun _ _ _ h => h) (Or.inl ⟨by rfl, ?_⟩) hHeld ?_ ?_
                rotate_left
                · rintro w' ⟨s0, s1, s2, s3⟩
                  go_simp
                  with_reducible rfl
                rotate_left
                · simp only [Act.put, List.setIfInBounds_toArray, List.set_cons_zero, List.set_cons_succ, i64_w, i32_w]
                  rfl
                refine take_ (i := 1) (N := some 47) (v := ?_) (a' := ?_) #[true, true, false, false, false] rfl rfl (by kernel_rfl) (fun _ _ _ h => h) (Or.inl ⟨by rfl, ?_⟩) hHeld ?_ ?_
                rotate_left
                · rintro w' ⟨s0, s1, s2, s3⟩
                  go_simp
                  with_reducible rfl
                rotate_left
                · simp only [Act.put, List.setIfInBounds_toArray, List.set_cons_zero, List.set_cons_succ, i64_w, i32_w]
                  rfl
                refine one_ (i := 2) (N := some 48) #[true, true, true, false, false] rfl rfl (by kernel_rfl) (by decide) (fun K hK => ?_)
                refine goes_ Try.func17 (by kernel_rfl) rfl #[.agg #[.int .i64 a0_0, .slice A0_1 l0_1.length c0_1]] (by rfl) rfl rfl (by (try simp only [List.map_toArray, List.map_cons, List.map_nil]); first | done | rfl | (simp only [List.length_drop, List.length_take]; rfl)) ?_
                with_reducible refine (laws_toAlgebra.calls kj15 a0_0 _ _ l0_1 t1173 t1174 _ ?side1 ?side2 A38.out).mono ?_
                (case side1 => repeat (first | exact (Kd.C_below HR0_1.out HB.out) | (with_reducible refine Kd.C_alloc ?_ _) | (with_reducible refine Kd.C_drewN ?_ _) | (with_reducible refine Kd.C_drew ?_)))
                (case side2 => exact HC0_1.out)
                rintro e w45 ⟨v1175, rfl, ho0, hb⟩
                refine ⟨_, rfl, ?_⟩
                have n0_ := Aside0.mk (Kd.R_below (by (with_reducible repeat (first | apply Kd.R_alloc | apply Kd.R_drewN | apply Kd.R_drew)); exact HO_9.out) hb)
                have n1_ := Aside0.mk (Kd.S_elder' (by (with_reducible repeat (first | apply Kd.S_alloc | apply Kd.S_drewN | apply Kd.S_drew)); exact HO_1168001.out) (Kd.S_base ho0) hb)
                have n2_ := Aside0.mk (Kd.S_lower (Kd.S_new' (Kd.S_new' ho0 (Kd.R_lt (by (with_reducible repeat (first | apply Kd.R_alloc | apply Kd.R_drewN | apply Kd.R_drew)); exact HO_9.out))) (Kd.S_lt (by (with_reducible repeat (first | apply Kd.S_alloc | apply Kd.S_drewN | apply Kd.S_drew)); exact HO_1168001.out))) (below_size (by repeat (first | (with_reducible first | exact HB.out | apply below_alloc | apply pw_below_drewN | apply below_drew1 | refine below_set ?_ GE1152.out | refine below_set ?_ GE1167.out) | exact HB.out))))
                have n3_ := Aside0.mk (blk_below (g := gb1152) (o := .cells #[.int .i64 a0_0, .slice A0_1 l0_1.length c0_1] 24 (0, 0)) (by (with_reducible repeat (first | refine blk_drewN ?_ _ | refine blk_drew ?_ | refine blk_alloc ?_ _)); exact BK1152.out) hb)
                have n4_ := Aside0.mk (blk_below (g := gb1167) (o := .cells #[.int .i64 t1163, .slice Ao31 t1164.length co31] 30 (0, 0)) (by (with_reducible repeat (first | refine blk_drewN ?_ _ | refine blk_drew ?_ | refine blk_alloc ?_ _)); exact BK1167.out) hb)
                have n5_ := Aside0.mk (below_step (by repeat (first | (with_reducible first | exact HB.out | apply below_alloc | apply pw_below_drewN | apply below_drew1 | refine below_set ?_ GE1152.out | refine below_set ?_ GE1167.out) | exact HB.out)) hb)
                clear HO_9
                clear HO_1168001
                clear BK1152
                clear BK1167
                clear HB
                have HO_9 := n0_
                have HO_1168001 := n1_
                have HO1176 := n2_
                have BK1152 := n3_
                have BK1167 := n4_
                have HB := n5_
                clear n0_ n1_ n2_ n3_ n4_ n5_
                (try clear hb)
                (try clear hb2)
                (try clear hk)
                (try clear hi)
                (try clear ho0)
                obtain ⟨Ao46, co46, eo46⟩ := Kd.S_slice HO1176.out
                (first | subst eo46 | (injection eo46 with f1_ f2_ f3_; have f4_ := f1_.symm; have f5_ := f3_.symm; clear f1_ f2_ f3_; subst f4_; subst f5_))
                refine hK.out _ _ ⟨(blk_cell BK1167.out 0).trans rfl, (blk_cell BK1167.out 1).trans rfl, (blk_cell BK1152.out 0).trans rfl, (blk_cell BK1152.out 1).trans rfl⟩ (fun hHeld => ?_)
                clear hK K
                refine norm_ (a' := ?_) ?_ ?_
                rotate_left
                · show Act.put _ (some 48) _ = _
                  simp only [Act.put, List.setIfInBounds_toArray, List.set_cons_zero, List.set_cons_succ, i64_w, i32_w]
                  rfl
                refine one_ (i := 3) (N := some 49) #[true, true, true, true, false] rfl rfl (by kernel_rfl) (by decide) (fun K hK => ?_)
                refine goes_ Try.func19 (by kernel_rfl) rfl #[.agg #[.int .i64 t1163, .slice Ao31 t1164.length co31], .agg #[.int .i64 t1173, .slice Ao46 t1174.length co46]] (by rfl) rfl rfl (by (try simp only [List.map_toArray, List.map_cons, List.map_nil]); first | done | rfl | (simp only [List.length_drop, List.length_take]; rfl)) ?_
                with_reducible refine (laws_eqAlgebra.calls kj15 t1163 _ _ t1164 t1173 _ _ t1174 true _ ?side1 ?side2 ?side3 ?side4 A39.out).mono ?_
                (case side1 => repeat (first | exact (Kd.S_reads' HO_1168001.out).2.2 | (with_reducible refine Kd.C_alloc ?_ _) | (with_reducible refine Kd.C_drewN ?_ _) | (with_reducible refine Kd.C_drew ?_)))
                (case side2 => exact (Kd.S_reads' HO_1168001.out).2.1)
                (case side3 => repeat (first | exact (Kd.S_reads' HO1176.out).2.2 | (with_reducible refine Kd.C_alloc ?_ _) | (with_reducible refine Kd.C_drewN ?_ _) | (with_reducible refine Kd.C_drew ?_)))
                (case side4 => exact (Kd.S_reads' HO1176.out).2.1)
                rintro e w47 ⟨rfl, hb⟩
                refine ⟨_, rfl, ?_⟩
                have n0_ := Aside0.mk (Kd.R_below (by (with_reducible repeat (first | apply Kd.R_alloc | apply Kd.R_drewN | apply Kd.R_drew)); exact HO_9.out) hb)
                have n1_ := Aside0.mk (Kd.S_below (by (with_reducible repeat (first | apply Kd.S_alloc | apply Kd.S_drewN | apply Kd.S_drew)); exact HO_1168001.out) hb)
                have n2_ := Aside0.mk (Kd.S_below (by (with_reducible repeat (first | apply Kd.S_alloc | apply Kd.S_drewN | apply Kd.S_drew)); exact HO1176.out) hb)
                have n3_ := Aside0.mk (blk_below (g := gb1152) (o := .cells #[.int .i64 a0_0, .slice A0_1 l0_1.length c0_1] 24 (0, 0)) (by (with_reducible repeat (first | refine blk_drewN ?_ _ | refine blk_drew ?_ | refine blk_alloc ?_ _)); exact BK1152.out) hb)
                have n4_ := Aside0.mk (blk_below (g := gb1167) (o := .cells #[.int .i64 t1163, .slice Ao31 t1164.length co31] 30 (0, 0)) (by (with_reducible repeat (first | refine blk_drewN ?_ _ | refine blk_drew ?_ | refine blk_alloc ?_ _)); exact BK1167.out) hb)
                have n5_ := Aside0.mk (below_step (by repeat (first | (with_reducible first | exact HB.out | apply below_alloc | apply pw_below_drewN | apply below_drew1 | refine below_set ?_ GE1152.out | refine below_set ?_ GE1167.out) | exact HB.out)) hb)
                clear HO_9
                clear HO_1168001
                clear HO1176
                clear BK1152
                clear BK1167
                clear HB
                have HO_9 := n0_
                have HO_1168001 := n1_
                have HO1176 := n2_
                have BK1152 := n3_
                have BK1167 := n4_
                have HB := n5_
                clear n0_ n1_ n2_ n3_ n4_ n5_
                (try clear hb)
                (try clear hb2)
                (try clear hk)
                (try clear hi)
                refine hK.out _ _ ⟨(blk_cell BK1167.out 0).trans rfl, (blk_cell BK1167.out 1).trans rfl, (blk_cell BK1152.out 0).trans rfl, (blk_cell BK1152.out 1).trans rfl⟩ (fun hHeld => ?_)
                clear hK K
                refine norm_ (a' := ?_) ?_ ?_
                rotate_left
                · show Act.put _ (some 49) _ = _
                  simp only [Act.put, List.setIfInBounds_toArray, List.set_cons_zero, List.set_cons_succ, i64_w, i32_w]
                  rfl
                refine pure_ (i := 4) (N := some 50) (v := ?_) (a' := ?_) #[true, true, true, true, true] rfl rfl (by kernel_rfl) (fun _ _ _ h => h) (Or.inl ⟨by rfl, ?_⟩) ?_ ?_
                rotate_left
                · intro w'
                  go_simp
                  with_reducible rfl
                rotate_left
                · simp only [Act.put, List.setIfInBounds_toArray, List.set_cons_zero, List.set_cons_succ, i64_w, i32_w]
                  rfl
                refine done_ (by kernel_rfl) ?_
                try go_wp2_with (first | ((with_reducible refine gate_callee (f := 51) rfl ?_); refine goesL_ (some 53) rfl rfl Try.func51 (by kernel_rfl) rfl #[.slice A1 l1.length c1] rfl (by (try simp only [List.map_toArray, List.map_cons, List.map_nil]); first | done | rfl | (simp only [List.length_drop, List.length_take]; rfl)) ?_; (with_reducible refine (laws_toIntS.calls kj15 _ _ l1 t1178 _ ?side1 ?side2 A41.out).mono ?_); (case side1 => repeat (first | exact (Kd.C_below HR1.out HB.out) | (with_reducible refine Kd.C_alloc ?_ _) | (with_reducible refine Kd.C_drewN ?_ _) | (with_reducible refine Kd.C_drew ?_))); (case side2 => exact HC1.out); rintro e w48 ⟨v1179, rfl, ho0, hb⟩; refine ⟨_, rfl, ?_⟩; have n0_ := Aside0.mk (Kd.R_elder' (by (with_reducible repeat (first | apply Kd.R_alloc | apply Kd.R_drewN | apply Kd.R_drew)); exact HO_9.out) (Kd.R_base ho0) hb); have n1_ := Aside0.mk (Kd.S_elder' (by (with_reducible repeat (first | apply Kd.S_alloc | apply Kd.S_drewN | apply Kd.S_drew)); exact HO_1168001.out) (Kd.R_base ho0) hb); have n2_ := Aside0.mk (Kd.S_elder' (by (with_reducible repeat (first | apply Kd.S_alloc | apply Kd.S_drewN | apply Kd.S_drew)); exact HO1176.out) (Kd.R_base ho0) hb); have n3_ := Aside0.mk (Kd.R_lower (Kd.R_new' ho0 (Kd.R_lt (by (with_reducible repeat (first | apply Kd.R_alloc | apply Kd.R_drewN | apply Kd.R_drew)); exact HO_9.out))) (below_size (by repeat (first | (with_reducible first | exact HB.out | apply below_alloc | apply pw_below_drewN | apply below_drew1 | refine below_set ?_ GE1152.out | refine below_set ?_ GE1167.out) | exact HB.out)))); have n4_ := Aside0.mk (blk_below (g := gb1152) (o := .cells #[.int .i64 a0_0, .slice A0_1 l0_1.length c0_1] 24 (0, 0)) (by (with_reducible repeat (first | refine blk_drewN ?_ _ | refine blk_drew ?_ | refine blk_alloc ?_ _)); exact BK1152.out) hb); have n5_ := Aside0.mk (blk_below (g := gb1167) (o := .cells #[.int .i64 t1163, .slice Ao31 t1164.length co31] 30 (0, 0)) (by (with_reducible repeat (first | refine blk_drewN ?_ _ | refine blk_drew ?_ | refine blk_alloc ?_ _)); exact BK1167.out) hb); have n6_ := Aside0.mk (below_step (by repeat (first | (with_reducible first | exact HB.out | apply below_alloc | apply pw_below_drewN | apply below_drew1 | refine below_set ?_ GE1152.out | refine below_set ?_ GE1167.out) | exact HB.out)) hb); clear HO_9; clear HO_1168001; clear HO1176; clear BK1152; clear BK1167; clear HB; have HO_9 := n0_; have HO_1168001 := n1_; have HO1176 := n2_; have HO1180 := n3_; have BK1152 := n4_; have BK1167 := n5_; have HB := n6_; clear n0_ n1_ n2_ n3_ n4_ n5_ n6_; (try clear hb); (try clear hb2); (try clear hk); (try clear hi); (try clear ho0); obtain ⟨Ao49, co49, eo49⟩ := Kd.R_slice HO1180.out; subst eo49) | ((with_reducible refine gate_callee (f := 30) rfl ?_); refine goesL_ (some 54) rfl rfl Try.func30 (by kernel_rfl) rfl #[.slice Ao34 t1168.length co34, .slice Ao49 t1178.length co49] rfl (by (try simp only [List.map_toArray, List.map_cons, List.map_nil]); first | done | rfl | (simp only [List.length_drop, List.length_take]; rfl)) ?_; (with_reducible refine (laws_eqIntS.calls kj15 _ _ t1168 _ _ t1178 true _ ?side1 ?side2 ?side3 ?side4 A42.out).mono ?_); (case side1 => repeat (first | exact (Kd.R_reads' HO_9.out).2.2 | (with_reducible refine Kd.C_alloc ?_ _) | (with_reducible refine Kd.C_drewN ?_ _) | (with_reducible refine Kd.C_drew ?_))); (case side2 => exact (Kd.R_reads' HO_9.out).2.1); (case side3 => repeat (first | exact (Kd.R_reads' HO1180.out).2.2 | (with_reducible refine Kd.C_alloc ?_ _) | (with_reducible refine Kd.C_drewN ?_ _) | (with_reducible refine Kd.C_drew ?_))); (case side4 => exact (Kd.R_reads' HO1180.out).2.1); rintro e w' ⟨rfl, ⟨nd, rfl⟩⟩; refine ⟨_, rfl, ?_⟩))
                go_ret
                exact ⟨by first | rfl | (simp [errW_none, errW_some] <;> rfl) | (simp [*, errW_none, errW_some] <;> rfl), by repeat (first | (with_reducible first | exact HB.out | apply below_alloc | apply pw_below_drewN | apply below_drew1 | refine below_set ?_ GE1152.out | refine below_set ?_ GE1167.out) | exact HB.out)⟩
              · replace c43 := Bool.eq_false_iff.mpr c43
                subst c43
                have H1 : (some false) = some r := by rw [if_neg (show ¬ (false = true) by decide)] at H; exact H
                clear H
                have H := H1
                clear H1
                obtain rfl := Option.some.inj H
                try go_wp2
                have n0_ := Aside0.mk (Kd.R_drew HO_9.out)
                have n1_ := Aside0.mk (Kd.S_drew HO_1168001.out)
                have n2_ := Aside0.mk (blk_drew BK1152.out)
                have n3_ := Aside0.mk (blk_drew BK1167.out)
                have n4_ := Aside0.mk (below_drew1 HB.out)
                clear HO_9
                clear HO_1168001
                clear BK1152
                clear BK1167
                clear HB
                have HO_9 := n0_
                have HO_1168001 := n1_
                have BK1152 := n2_
                have BK1167 := n3_
                have HB := n4_
                clear n0_ n1_ n2_ n3_ n4_
                refine start_ (n := 5) (S := fun w' => w'.cell? ⟨gb1167, 0, none⟩ = some (.int .i64 t1163) ∧ w'.cell? ⟨gb1167, 1, none⟩ = some (.slice Ao31 t1164.length co31) ∧ w'.cell? ⟨gb1152, 0, none⟩ = some (.int .i64 a0_0) ∧ w'.cell? ⟨gb1152, 1, none⟩ = some (.slice A0_1 l0_1.length c0_1)) (ds := []) #[false, false, false, false, false] (by kernel_rfl) rfl rfl ⟨(blk_cell BK1167.out 0).trans rfl, (blk_cell BK1167.out 1).trans rfl, (blk_cell BK1152.out 0).trans rfl, (blk_cell BK1152.out 1).trans rfl⟩ (fun hHeld => ?_)
                generalize wc.drew = w50 at HO_9 HO_1168001 BK1152 BK1167 HB hHeld ⊢
                refine take_ (i := 0) (N := some 46) (v := ?_) (a' := ?_) #[true, false, false, false, false] rfl rfl (by kernel_rfl) (fun _ _ _ h => h) (Or.inl ⟨by rfl, ?_⟩) hHeld ?_ ?_
                rotate_left
                · rintro w' ⟨s0, s1, s2, s3⟩
                  go_simp
                  with_reducible rfl
                rotate_left
                · simp only [Act.put, List.setIfInBounds_toArray, List.set_cons_zero, List.set_cons_succ, i64_w, i32_w]
                  rfl
                refine take_ (i := 1) (N := some 47) (v := ?_) (a' := ?_) #[true, true, false, false, false] rfl rfl (by kernel_rfl) (fun _ _ _ h => h) (Or.inl ⟨by rfl, ?_⟩) hHeld ?_ ?_
                rotate_left
                · rintro w' ⟨s0, s1, s2, s3⟩
                  go_simp
                  with_reducible rfl
                rotate_left
                · simp only [Act.put, List.setIfInBounds_toArray, List.set_cons_zero, List.set_cons_succ, i64_w, i32_w]
                  rfl
                refine one_ (i := 2) (N := some 48) #[true, true, true, false, false] rfl rfl (by kernel_rfl) (by decide) (fun K hK => ?_)
                refine goes_ Try.func17 (by kernel_rfl) rfl #[.agg #[.int .i64 a0_0, .slice A0_1 l0_1.length c0_1]] (by rfl) rfl rfl (by (try simp only [List.map_toArray, List.map_cons, List.map_nil]); first | done | rfl | (simp only [List.length_drop, List.length_take]; rfl)) ?_
                with_reducible refine (laws_toAlgebra.calls kj15 a0_0 _ _ l0_1 t1173 t1174 _ ?side1 ?side2 A38.out).mono ?_
                (case side1 => repeat (first | exact (Kd.C_below HR0_1.out HB.out) | (with_reducible refine Kd.C_alloc ?_ _) | (with_reducible refine Kd.C_drewN ?_ _) | (with_reducible refine Kd.C_drew ?_)))
                (case side2 => exact HC0_1.out)
                rintro e w51 ⟨v1175, rfl, ho0, hb⟩
                refine ⟨_, rfl, ?_⟩
                have n0_ := Aside0.mk (Kd.R_below (by (with_reducible repeat (first | apply Kd.R_alloc | apply Kd.R_drewN | apply Kd.R_drew)); exact HO_9.out) hb)
                have n1_ := Aside0.mk (Kd.S_elder' (by (with_reducible repeat (first | apply Kd.S_alloc | apply Kd.S_drewN | apply Kd.S_drew)); exact HO_1168001.out) (Kd.S_base ho0) hb)
                have n2_ := Aside0.mk (Kd.S_lower (Kd.S_new' (Kd.S_new' ho0 (Kd.R_lt (by (with_reducible repeat (first | apply Kd.R_alloc | apply Kd.R_drewN | apply Kd.R_drew)); exact HO_9.out))) (Kd.S_lt (by (with_reducible repeat (first | apply Kd.S_alloc | apply Kd.S_drewN | apply Kd.S_drew)); exact HO_1168001.out))) (below_size (by repeat (first | (with_reducible first | exact HB.out | apply below_alloc | apply pw_below_drewN | apply below_drew1 | refine below_set ?_ GE1152.out | refine below_set ?_ GE1167.out) | exact HB.out))))
                have n3_ := Aside0.mk (blk_below (g := gb1152) (o := .cells #[.int .i64 a0_0, .slice A0_1 l0_1.length c0_1] 24 (0, 0)) (by (with_reducible repeat (first | refine blk_drewN ?_ _ | refine blk_drew ?_ | refine blk_alloc ?_ _)); exact BK1152.out) hb)
                have n4_ := Aside0.mk (blk_below (g := gb1167) (o := .cells #[.int .i64 t1163, .slice Ao31 t1164.length co31] 30 (0, 0)) (by (with_reducible repeat (first | refine blk_drewN ?_ _ | refine blk_drew ?_ | refine blk_alloc ?_ _)); exact BK1167.out) hb)
                have n5_ := Aside0.mk (below_step (by repeat (first | (with_reducible first | exact HB.out | apply below_alloc | apply pw_below_drewN | apply below_drew1 | refine below_set ?_ GE1152.out | refine below_set ?_ GE1167.out) | exact HB.out)) hb)
                clear HO_9
                clear HO_1168001
                clear BK1152
                clear BK1167
                clear HB
                have HO_9 := n0_
                have HO_1168001 := n1_
                have HO1176 := n2_
                have BK1152 := n3_
                have BK1167 := n4_
                have HB := n5_
                clear n0_ n1_ n2_ n3_ n4_ n5_
                (try clear hb)
                (try clear hb2)
                (try clear hk)
                (try clear hi)
                (try clear ho0)
                obtain ⟨Ao52, co52, eo52⟩ := Kd.S_slice HO1176.out
                (first | subst eo52 | (injection eo52 with f1_ f2_ f3_; have f4_ := f1_.symm; have f5_ := f3_.symm; clear f1_ f2_ f3_; subst f4_; subst f5_))
                refine hK.out _ _ ⟨(blk_cell BK1167.out 0).trans rfl, (blk_cell BK1167.out 1).trans rfl, (blk_cell BK1152.out 0).trans rfl, (blk_cell BK1152.out 1).trans rfl⟩ (fun hHeld => ?_)
                clear hK K
                refine norm_ (a' := ?_) ?_ ?_
                rotate_left
                · show Act.put _ (some 48) _ = _
                  simp only [Act.put, List.setIfInBounds_toArray, List.set_cons_zero, List.set_cons_succ, i64_w, i32_w]
                  rfl
                refine one_ (i := 3) (N := some 49) #[true, true, true, true, false] rfl rfl (by kernel_rfl) (by decide) (fun K hK => ?_)
                refine goes_ Try.func19 (by kernel_rfl) rfl #[.agg #[.int .i64 t1163, .slice Ao31 t1164.length co31], .agg #[.int .i64 t1173, .slice Ao52 t1174.length co52]] (by rfl) rfl rfl (by (try simp only [List.map_toArray, List.map_cons, List.map_nil]); first | done | rfl | (simp only [List.length_drop, List.length_take]; rfl)) ?_
                with_reducible refine (laws_eqAlgebra.calls kj15 t1163 _ _ t1164 t1173 _ _ t1174 true _ ?side1 ?side2 ?side3 ?side4 A39.out).mono ?_
                (case side1 => repeat (first | exact (Kd.S_reads' HO_1168001.out).2.2 | (with_reducible refine Kd.C_alloc ?_ _) | (with_reducible refine Kd.C_drewN ?_ _) | (with_reducible refine Kd.C_drew ?_)))
                (case side2 => exact (Kd.S_reads' HO_1168001.out).2.1)
                (case side3 => repeat (first | exact (Kd.S_reads' HO1176.out).2.2 | (with_reducible refine Kd.C_alloc ?_ _) | (with_reducible refine Kd.C_drewN ?_ _) | (with_reducible refine Kd.C_drew ?_)))
                (case side4 => exact (Kd.S_reads' HO1176.out).2.1)
                rintro e w53 ⟨rfl, hb⟩
                refine ⟨_, rfl, ?_⟩
                have n0_ := Aside0.mk (Kd.R_below (by (with_reducible repeat (first | apply Kd.R_alloc | apply Kd.R_drewN | apply Kd.R_drew)); exact HO_9.out) hb)
                have n1_ := Aside0.mk (Kd.S_below (by (with_reducible repeat (first | apply Kd.S_alloc | apply Kd.S_drewN | apply Kd.S_drew)); exact HO_1168001.out) hb)
                have n2_ := Aside0.mk (Kd.S_below (by (with_reducible repeat (first | apply Kd.S_alloc | apply Kd.S_drewN | apply Kd.S_drew)); exact HO1176.out) hb)
                have n3_ := Aside0.mk (blk_below (g := gb1152) (o := .cells #[.int .i64 a0_0, .slice A0_1 l0_1.length c0_1] 24 (0, 0)) (by (with_reducible repeat (first | refine blk_drewN ?_ _ | refine blk_drew ?_ | refine blk_alloc ?_ _)); exact BK1152.out) hb)
                have n4_ := Aside0.mk (blk_below (g := gb1167) (o := .cells #[.int .i64 t1163, .slice Ao31 t1164.length co31] 30 (0, 0)) (by (with_reducible repeat (first | refine blk_drewN ?_ _ | refine blk_drew ?_ | refine blk_alloc ?_ _)); exact BK1167.out) hb)
                have n5_ := Aside0.mk (below_step (by repeat (first | (with_reducible first | exact HB.out | apply below_alloc | apply pw_below_drewN | apply below_drew1 | refine below_set ?_ GE1152.out | refine below_set ?_ GE1167.out) | exact HB.out)) hb)
                clear HO_9
                clear HO_1168001
                clear HO1176
                clear BK1152
                clear BK1167
                clear HB
                have HO_9 := n0_
                have HO_1168001 := n1_
                have HO1176 := n2_
                have BK1152 := n3_
                have BK1167 := n4_
                have HB := n5_
                clear n0_ n1_ n2_ n3_ n4_ n5_
                (try clear hb)
                (try clear hb2)
                (try clear hk)
                (try clear hi)
                refine hK.out _ _ ⟨(blk_cell BK1167.out 0).trans rfl, (blk_cell BK1167.out 1).trans rfl, (blk_cell BK1152.out 0).trans rfl, (blk_cell BK1152.out 1).trans rfl⟩ (fun hHeld => ?_)
                clear hK K
                refine norm_ (a' := ?_) ?_ ?_
                rotate_left
                · show Act.put _ (some 49) _ = _
                  simp only [Act.put, List.setIfInBounds_toArray, List.set_cons_zero, List.set_cons_succ, i64_w, i32_w]
                  rfl
                refine pure_ (i := 4) (N := some 50) (v := ?_) (a' := ?_) #[true, true, true, true, true] rfl rfl (by kernel_rfl) (fun _ _ _ h => h) (Or.inl ⟨by rfl, ?_⟩) ?_ ?_
                rotate_left
                · intro w'
                  go_simp
                  with_reducible rfl
                rotate_left
                · simp only [Act.put, List.setIfInBounds_toArray, List.set_cons_zero, List.set_cons_succ, i64_w, i32_w]
                  rfl
                refine done_ (by kernel_rfl) ?_
                try go_wp2_with (first | ((with_reducible refine gate_callee (f := 51) rfl ?_); refine goesL_ (some 53) rfl rfl Try.func51 (by kernel_rfl) rfl #[.slice A1 l1.length c1] rfl (by (try simp only [List.map_toArray, List.map_cons, List.map_nil]); first | done | rfl | (simp only [List.length_drop, List.length_take]; rfl)) ?_; (with_reducible refine (laws_toIntS.calls kj15 _ _ l1 t1178 _ ?side1 ?side2 A41.out).mono ?_); (case side1 => repeat (first | exact (Kd.C_below HR1.out HB.out) | (with_reducible refine Kd.C_alloc ?_ _) | (with_reducible refine Kd.C_drewN ?_ _) | (with_reducible refine Kd.C_drew ?_))); (case side2 => exact HC1.out); rintro e w54 ⟨v1179, rfl, ho0, hb⟩; refine ⟨_, rfl, ?_⟩; have n0_ := Aside0.mk (Kd.R_elder' (by (with_reducible repeat (first | apply Kd.R_alloc | apply Kd.R_drewN | apply Kd.R_drew)); exact HO_9.out) (Kd.R_base ho0) hb); have n1_ := Aside0.mk (Kd.S_elder' (by (with_reducible repeat (first | apply Kd.S_alloc | apply Kd.S_drewN | apply Kd.S_drew)); exact HO_1168001.out) (Kd.R_base ho0) hb); have n2_ := Aside0.mk (Kd.S_elder' (by (with_reducible repeat (first | apply Kd.S_alloc | apply Kd.S_drewN | apply Kd.S_drew)); exact HO1176.out) (Kd.R_base ho0) hb); have n3_ := Aside0.mk (Kd.R_lower (Kd.R_new' ho0 (Kd.R_lt (by (with_reducible repeat (first | apply Kd.R_alloc | apply Kd.R_drewN | apply Kd.R_drew)); exact HO_9.out))) (below_size (by repeat (first | (with_reducible first | exact HB.out | apply below_alloc | apply pw_below_drewN | apply below_drew1 | refine below_set ?_ GE1152.out | refine below_set ?_ GE1167.out) | exact HB.out)))); have n4_ := Aside0.mk (blk_below (g := gb1152) (o := .cells #[.int .i64 a0_0, .slice A0_1 l0_1.length c0_1] 24 (0, 0)) (by (with_reducible repeat (first | refine blk_drewN ?_ _ | refine blk_drew ?_ | refine blk_alloc ?_ _)); exact BK1152.out) hb); have n5_ := Aside0.mk (blk_below (g := gb1167) (o := .cells #[.int .i64 t1163, .slice Ao31 t1164.length co31] 30 (0, 0)) (by (with_reducible repeat (first | refine blk_drewN ?_ _ | refine blk_drew ?_ | refine blk_alloc ?_ _)); exact BK1167.out) hb); have n6_ := Aside0.mk (below_step (by repeat (first | (with_reducible first | exact HB.out | apply below_alloc | apply pw_below_drewN | apply below_drew1 | refine below_set ?_ GE1152.out | refine below_set ?_ GE1167.out) | exact HB.out)) hb); clear HO_9; clear HO_1168001; clear HO1176; clear BK1152; clear BK1167; clear HB; have HO_9 := n0_; have HO_1168001 := n1_; have HO1176 := n2_; have HO1180 := n3_; have BK1152 := n4_; have BK1167 := n5_; have HB := n6_; clear n0_ n1_ n2_ n3_ n4_ n5_ n6_; (try clear hb); (try clear hb2); (try clear hk); (try clear hi); (try clear ho0); obtain ⟨Ao55, co55, eo55⟩ := Kd.R_slice HO1180.out; subst eo55) | ((with_reducible refine gate_callee (f := 30) rfl ?_); refine goesL_ (some 54) rfl rfl Try.func30 (by kernel_rfl) rfl #[.slice Ao34 t1168.length co34, .slice Ao55 t1178.length co55] rfl (by (try simp only [List.map_toArray, List.map_cons, List.map_nil]); first | done | rfl | (simp only [List.length_drop, List.length_take]; rfl)) ?_; (with_reducible refine (laws_eqIntS.calls kj15 _ _ t1168 _ _ t1178 false _ ?side1 ?side2 ?side3 ?side4 A42.out).mono ?_); (case side1 => repeat (first | exact (Kd.R_reads' HO_9.out).2.2 | (with_reducible refine Kd.C_alloc ?_ _) | (with_reducible refine Kd.C_drewN ?_ _) | (with_reducible refine Kd.C_drew ?_))); (case side2 => exact (Kd.R_reads' HO_9.out).2.1); (case side3 => repeat (first | exact (Kd.R_reads' HO1180.out).2.2 | (with_reducible refine Kd.C_alloc ?_ _) | (with_reducible refine Kd.C_drewN ?_ _) | (with_reducible refine Kd.C_drew ?_))); (case side4 => exact (Kd.R_reads' HO1180.out).2.1); rintro e w' ⟨rfl, ⟨nd, rfl⟩⟩; refine ⟨_, rfl, ?_⟩))
                go_ret
                exact ⟨by first | rfl | (simp [errW_none, errW_some] <;> rfl) | (simp [*, errW_none, errW_some] <;> rfl), by repeat (first | (with_reducible first | exact HB.out | apply below_alloc | apply pw_below_drewN | apply below_drew1 | refine below_set ?_ GE1152.out | refine below_set ?_ GE1167.out) | exact HB.out)⟩
            · replace c40 := Bool.eq_false_iff.mpr c40
              subst c40
              have H1 : (some false) = some r := by rw [if_neg (show ¬ (false = true) by decide)] at H; exact H
              clear H
              have H := H1
              clear H1
              obtain rfl := Option.some.inj H
              try go_wp2
              have n0_ := Aside0.mk (Kd.R_drew HO_9.out)
              have n1_ := Aside0.mk (Kd.S_drew HO_1168001.out)
              have n2_ := Aside0.mk (blk_drew BK1152.out)
              have n3_ := Aside0.mk (blk_drew BK1167.out)
              have n4_ := Aside0.mk (below_drew1 HB.out)
              clear HO_9
              clear HO_1168001
              clear BK1152
              clear BK1167
              clear HB
              have HO_9 := n0_
              have HO_1168001 := n1_
              have BK1152 := n2_
              have BK1167 := n3_
              have HB := n4_
              clear n0_ n1_ n2_ n3_ n4_
              refine start_ (n := 5) (S := fun w' => w'.cell? ⟨gb1167, 0, none⟩ = some (.int .i64 t1163) ∧ w'.cell? ⟨gb1167, 1, none⟩ = some (.slice Ao31 t1164.length co31) ∧ w'.cell? ⟨gb1152, 0, none⟩ = some (.int .i64 a0_0) ∧ w'.cell? ⟨gb1152, 1, none⟩ = some (.slice A0_1 l0_1.length c0_1)) (ds := []) #[false, false, false, false, false] (by kernel_rfl) rfl rfl ⟨(blk_cell BK1167.out 0).trans rfl, (blk_cell BK1167.out 1).trans rfl, (blk_cell BK1152.out 0).trans rfl, (blk_cell BK1152.out 1).trans rfl⟩ (fun hHeld => ?_)
              generalize wc.drew = w56 at HO_9 HO_1168001 BK1152 BK1167 HB hHeld ⊢
              refine take_ (i := 0) (N := some 46) (v := ?_) (a' := ?_) #[true, false, false, false, false] rfl rfl (by kernel_rfl) (fun _ _ _ h => h) (Or.inl ⟨by rfl, ?_⟩) hHeld ?_ ?_
              rotate_left
              · rintro w' ⟨s0, s1, s2, s3⟩
                go_simp
                with_reducible rfl
              rotate_left
              · simp only [Act.put, List.setIfInBounds_toArray, List.set_cons_zero, List.set_cons_succ, i64_w, i32_w]
                rfl
              refine take_ (i := 1) (N := some 47) (v := ?_) (a' := ?_) #[true, true, false, false, false] rfl rfl (by kernel_rfl) (fun _ _ _ h => h) (Or.inl ⟨by rfl, ?_⟩) hHeld ?_ ?_
              rotate_left
              · rintro w' ⟨s0, s1, s2, s3⟩
                go_simp
                with_reducible rfl
              rotate_left
              · simp only [Act.put, List.setIfInBounds_toArray, List.set_cons_zero, List.set_cons_succ, i64_w, i32_w]
                rfl
              refine one_ (i := 2) (N := some 48) #[true, true, true, false, false] rfl rfl (by kernel_rfl) (by decide) (fun K hK => ?_)
              refine goes_ Try.func17 (by kernel_rfl) rfl #[.agg #[.int .i64 a0_0, .slice A0_1 l0_1.length c0_1]] (by rfl) rfl rfl (by (try simp only [List.map_toArray, List.map_cons, List.map_nil]); first | done | rfl | (simp only [List.length_drop, List.length_take]; rfl)) ?_
              with_reducible refine (laws_toAlgebra.calls kj15 a0_0 _ _ l0_1 t1173 t1174 _ ?side1 ?side2 A38.out).mono ?_
              (case side1 => repeat (first | exact (Kd.C_below HR0_1.out HB.out) | (with_reducible refine Kd.C_alloc ?_ _) | (with_reducible refine Kd.C_drewN ?_ _) | (with_reducible refine Kd.C_drew ?_)))
              (case side2 => exact HC0_1.out)
              rintro e w57 ⟨v1175, rfl, ho0, hb⟩
              refine ⟨_, rfl, ?_⟩
              have n0_ := Aside0.mk (Kd.R_below (by (with_reducible repeat (first | apply Kd.R_alloc | apply Kd.R_drewN | apply Kd.R_drew)); exact HO_9.out) hb)
              have n1_ := Aside0.mk (Kd.S_elder' (by (with_reducible repeat (first | apply Kd.S_alloc | apply Kd.S_drewN | apply Kd.S_drew)); exact HO_1168001.out) (Kd.S_base ho0) hb)
              have n2_ := Aside0.mk (Kd.S_lower (Kd.S_new' (Kd.S_new' ho0 (Kd.R_lt (by (with_reducible repeat (first | apply Kd.R_alloc | apply Kd.R_drewN | apply Kd.R_drew)); exact HO_9.out))) (Kd.S_lt (by (with_reducible repeat (first | apply Kd.S_alloc | apply Kd.S_drewN | apply Kd.S_drew)); exact HO_1168001.out))) (below_size (by repeat (first | (with_reducible first | exact HB.out | apply below_alloc | apply pw_below_drewN | apply below_drew1 | refine below_set ?_ GE1152.out | refine below_set ?_ GE1167.out) | exact HB.out))))
              have n3_ := Aside0.mk (blk_below (g := gb1152) (o := .cells #[.int .i64 a0_0, .slice A0_1 l0_1.length c0_1] 24 (0, 0)) (by (with_reducible repeat (first | refine blk_drewN ?_ _ | refine blk_drew ?_ | refine blk_alloc ?_ _)); exact BK1152.out) hb)
              have n4_ := Aside0.mk (blk_below (g := gb1167) (o := .cells #[.int .i64 t1163, .slice Ao31 t1164.length co31] 30 (0, 0)) (by (with_reducible repeat (first | refine blk_drewN ?_ _ | refine blk_drew ?_ | refine blk_alloc ?_ _)); exact BK1167.out) hb)
              have n5_ := Aside0.mk (below_step (by repeat (first | (with_reducible first | exact HB.out | apply below_alloc | apply pw_below_drewN | apply below_drew1 | refine below_set ?_ GE1152.out | refine below_set ?_ GE1167.out) | exact HB.out)) hb)
              clear HO_9
              clear HO_1168001
              clear BK1152
              clear BK1167
              clear HB
              have HO_9 := n0_
              have HO_1168001 := n1_
              have HO1176 := n2_
              have BK1152 := n3_
              have BK1167 := n4_
              have HB := n5_
              clear n0_ n1_ n2_ n3_ n4_ n5_
              (try clear hb)
              (try clear hb2)
              (try clear hk)
              (try clear hi)
              (try clear ho0)
              obtain ⟨Ao58, co58, eo58⟩ := Kd.S_slice HO1176.out
              (first | subst eo58 | (injection eo58 with f1_ f2_ f3_; have f4_ := f1_.symm; have f5_ := f3_.symm; clear f1_ f2_ f3_; subst f4_; subst f5_))
              refine hK.out _ _ ⟨(blk_cell BK1167.out 0).trans rfl, (blk_cell BK1167.out 1).trans rfl, (blk_cell BK1152.out 0).trans rfl, (blk_cell BK1152.out 1).trans rfl⟩ (fun hHeld => ?_)
              clear hK K
              refine norm_ (a' := ?_) ?_ ?_
              rotate_left
              · show Act.put _ (some 48) _ = _
                simp only [Act.put, List.setIfInBounds_toArray, List.set_cons_zero, List.set_cons_succ, i64_w, i32_w]
                rfl
              refine one_ (i := 3) (N := some 49) #[true, true, true, true, false] rfl rfl (by kernel_rfl) (by decide) (fun K hK => ?_)
              refine goes_ Try.func19 (by kernel_rfl) rfl #[.agg #[.int .i64 t1163, .slice Ao31 t1164.length co31], .agg #[.int .i64 t1173, .slice Ao58 t1174.length co58]] (by rfl) rfl rfl (by (try simp only [List.map_toArray, List.map_cons, List.map_nil]); first | done | rfl | (simp only [List.length_drop, List.length_take]; rfl)) ?_
              with_reducible refine (laws_eqAlgebra.calls kj15 t1163 _ _ t1164 t1173 _ _ t1174 false _ ?side1 ?side2 ?side3 ?side4 A39.out).mono ?_
              (case side1 => repeat (first | exact (Kd.S_reads' HO_1168001.out).2.2 | (with_reducible refine Kd.C_alloc ?_ _) | (with_reducible refine Kd.C_drewN ?_ _) | (with_reducible refine Kd.C_drew ?_)))
              (case side2 => exact (Kd.S_reads' HO_1168001.out).2.1)
              (case side3 => repeat (first | exact (Kd.S_reads' HO1176.out).2.2 | (with_reducible refine Kd.C_alloc ?_ _) | (with_reducible refine Kd.C_drewN ?_ _) | (with_reducible refine Kd.C_drew ?_)))
              (case side4 => exact (Kd.S_reads' HO1176.out).2.1)
              rintro e w59 ⟨rfl, hb⟩
              refine ⟨_, rfl, ?_⟩
              have n0_ := Aside0.mk (Kd.R_below (by (with_reducible repeat (first | apply Kd.R_alloc | apply Kd.R_drewN | apply Kd.R_drew)); exact HO_9.out) hb)
              have n1_ := Aside0.mk (Kd.S_below (by (with_reducible repeat (first | apply Kd.S_alloc | apply Kd.S_drewN | apply Kd.S_drew)); exact HO_1168001.out) hb)
              have n2_ := Aside0.mk (Kd.S_below (by (with_reducible repeat (first | apply Kd.S_alloc | apply Kd.S_drewN | apply Kd.S_drew)); exact HO1176.out) hb)
              have n3_ := Aside0.mk (blk_below (g := gb1152) (o := .cells #[.int .i64 a0_0, .slice A0_1 l0_1.length c0_1] 24 (0, 0)) (by (with_reducible repeat (first | refine blk_drewN ?_ _ | refine blk_drew ?_ | refine blk_alloc ?_ _)); exact BK1152.out) hb)
              have n4_ := Aside0.mk (blk_below (g := gb1167) (o := .cells #[.int .i64 t1163, .slice Ao31 t1164.length co31] 30 (0, 0)) (by (with_reducible repeat (first | refine blk_drewN ?_ _ | refine blk_drew ?_ | refine blk_alloc ?_ _)); exact BK1167.out) hb)
              have n5_ := Aside0.mk (below_step (by repeat (first | (with_reducible first | exact HB.out | apply below_alloc | apply pw_below_drewN | apply below_drew1 | refine below_set ?_ GE1152.out | refine below_set ?_ GE1167.out) | exact HB.out)) hb)
              clear HO_9
              clear HO_1168001
              clear HO1176
              clear BK1152
              clear BK1167
              clear HB
              have HO_9 := n0_
              have HO_1168001 := n1_
              have HO1176 := n2_
              have BK1152 := n3_
              have BK1167 := n4_
              have HB := n5_
              clear n0_ n1_ n2_ n3_ n4_ n5_
              (try clear hb)
              (try clear hb2)
              (try clear hk)
              (try clear hi)
              refine hK.out _ _ ⟨(blk_cell BK1167.out 0).trans rfl, (blk_cell BK1167.out 1).trans rfl, (blk_cell BK1152.out 0).trans rfl, (blk_cell BK1152.out 1).trans rfl⟩ (fun hHeld => ?_)
              clear hK K
              refine norm_ (a' := ?_) ?_ ?_
              rotate_left
              · show Act.put _ (some 49) _ = _
                simp only [Act.put, List.setIfInBounds_toArray, List.set_cons_zero, List.set_cons_succ, i64_w, i32_w]
                rfl
              refine pure_ (i := 4) (N := some 50) (v := ?_) (a' := ?_) #[true, true, true, true, true] rfl rfl (by kernel_rfl) (fun _ _ _ h => h) (Or.inl ⟨by rfl, ?_⟩) ?_ ?_
              rotate_left
              · intro w'
                go_simp
                with_reducible rfl
              rotate_left
              · simp only [Act.put, List.setIfInBounds_toArray, List.set_cons_zero, List.set_cons_succ, i64_w, i32_w]
                rfl
              refine done_ (by kernel_rfl) ?_
              try go_wp2
              go_ret
              exact ⟨by first | rfl | (simp [errW_none, errW_some] <;> rfl) | (simp [*, errW_none, errW_some] <;> rfl), by repeat (first | (with_reducible first | exact HB.out | apply below_alloc | apply pw_below_drewN | apply below_drew1 | refine below_set ?_ GE1152.out | refine below_set ?_ GE1167.out) | exact HB.out)⟩
end Go.Proofs.Ytijnfpfijgmopaa.Q
