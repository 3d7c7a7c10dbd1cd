/- Part 2 of the proof of the law FnExactLiftCongruence: functions and lists that say what the Go code computes, and that it does; no condition beside those that each theorem states. -/
import Derived.Test.YtnnbgfphinemfaaZFnExactLiftCongruencea
namespace Go.Proofs.Ytnnbgfphinemfaa.Q
open Go.RowKit Go.Proofs.YtnnbgfphinemfaaW.PrintWords Go.Proofs.YtnnbgfphinemfaaW.PrintLast Go.Proofs.YtnnbgfphinemfaaW.PrintMore
attribute [local go_sem] max2_int min2_int max_two min_two max_three min_three max_four min_four
set_option linter.unusedVariables false
set_option linter.unusedSimpArgs false
def spec_l9Least.l0 : Nat → List Int → List Int → Int → Option (List Int)
 | 0, _, _, _ => none
 | k + 1, x0, x3, x4 => if x4 < (x0.length : Int) then (if 0 ≤ x4 then (if (rd x0 x4) = x4 then (if x3.length < 17592186044416 then (spec_l9Least.l0 k x0 (x3 ++ [x4]) (wrap64 (x4 + 1))) else (none)) else (spec_l9Least.l0 k x0 x3 (wrap64 (x4 + 1)))) else (none)) else (some x3)
def spec_l9Least.f (k : Nat) (l0 : List Int) : Option (List Int) := spec_l9Least.l0 k l0 (([] : List Int)) 0
theorem spec_l9Least.mono_l : ∀ k, (∀ y0 y1 y2, LeO (spec_l9Least.l0 k y0 y1 y2) (spec_l9Least.l0 (k + 1) y0 y1 y2))
 | 0 => fun _ _ _ r h => by simp [spec_l9Least.l0] at h
 | k + 1 => by
  have ih0 := spec_l9Least.mono_l k
  ·intro y0 y1 y2
   unfold spec_l9Least.l0
   repeat' first
   | (with_reducible exact ih0 _ _ _)
   | (with_reducible exact LeO.refl _)
   | (with_reducible exact LeO.none _)
   | (with_reducible refine LeO.ite ?_ ?_)
   | (with_reducible refine LeO.bind ?_ (fun _ => ?_))
   | exact ih0 _ _ _
   | exact LeO.none _
   | refine LeO.ite ?_ ?_
   | refine LeO.bind ?_ (fun _ => ?_)
theorem spec_l9Least.mono : ∀ a0 k, LeO (spec_l9Least.f k a0) (spec_l9Least.f (k + 1) a0) := by
 intro a0 k
 have ih0 := spec_l9Least.mono_l k
 unfold spec_l9Least.f
 repeat' first
   | (with_reducible exact ih0 _ _ _)
   | (with_reducible exact LeO.refl _)
   | (with_reducible exact LeO.none _)
   | (with_reducible refine LeO.ite ?_ ?_)
   | (with_reducible refine LeO.bind ?_ (fun _ => ?_))
   | exact ih0 _ _ _
   | exact LeO.none _
   | refine LeO.ite ?_ ?_
   | refine LeO.bind ?_ (fun _ => ?_)
set_option maxHeartbeats 8000000 in
set_option maxRecDepth 100000 in
theorem spec_l9Least.calls (k : Nat) (A0 : Option Addr) (c0 : Nat) (l0 : List Int) (r : List Int) (w : World) (hr0 : Kd.C (Kd.int .i64) w A0 l0.length l0) (hc0 : l0.length ≤ c0) (h : spec_l9Least.f k l0 = some r) :
  Calls Try.prog 117 #[.slice A0 l0.length c0] w fun e w' => ∃ v0_ : Value, e = .returned (v0_) ∧ Kd.R (Kd.int .i64) 3 w' w.heap.size (fun _ => True) v0_ r ∧ Below w.heap.size w w' := by
 have HR0 := Aside0.mk hr0
 have HC0 := Aside0.mk hc0
 clear hr0 hc0
 have HB := Aside0.mk (Below.refl w.heap.size w)
 have H : (spec_l9Least.l0 k l0 (([] : List Int)) 0) = some r := h
 clear h
 obtain ⟨y1537, hy1537⟩ : ∃ y_ : List Int, y_ = (([] : List Int)) := ⟨_, rfl⟩
 replace H : (spec_l9Least.l0 k l0 y1537 0) = some r := by first | (rw [hy1537]; with_reducible exact H) | (have H2_ := (Option.bind_some _ _).symm.trans H; rw [hy1537]; with_reducible exact H2_) | (have H2_ := (Option.bind_some _ _).symm.trans H; with_reducible exact H2_) | with_reducible exact H | (rw [hy1537]; exact H) | exact H
 have Ny1537 := Aside0.mk hy1537
 clear hy1537
 have H' := Aside0.mk H
 clear H
 go_enter Try.func117, Try.ntmps117
 go_wp2_with (first | ((with_reducible refine gate_dst (N := 5) rfl ?_); refine Kd.R_lit (Kd.int .i64) _ 3 ?hg (N := 5) ?hd (xs := ([] : List Int)) (inner := []) (ok := fun _ => True) (okp := fun _ => True) ?hr ?hp (fun _ hk => hk) trivial (Below.refl _ _) (Nat.le_refl _) (by simp) ?_; (case hd => rfl); (case hg => rfl); (case hr => first | (go_simp; done) | (go_simp; rfl)); (case hp => exact (Reps.none _ _)); intro v1538 w2 ho3 hb hg_ hnew_; clear hg_ hnew_; (first | rw [← Ny1537.out] at ho3 | (simp only [Int.reduceToNat] at ho3; rw [← Ny1537.out] at ho3)); have n0_ := Aside0.mk (Kd.R_lower ho3 (below_size (by repeat (first | (with_reducible first | exact HB.out | apply below_alloc | apply pw_below_drewN | apply below_drew1) | exact HB.out)))); have n1_ := Aside0.mk (below_step (by repeat (first | (with_reducible first | exact HB.out | apply below_alloc | apply pw_below_drewN | apply below_drew1) | exact HB.out)) hb); clear HB; have HO1539 := n0_; have HB := n1_; clear n0_ n1_; clear hb ho3))
 go_loopg [3, 4] k (fun kq v3 v4 w' => ∃ (x3_1 : List Int) (x4_1 : Int), v4 = .int .i64 x4_1 ∧ Aside0 (spec_l9Least.l0 kq l0 x3_1 x4_1 = some r) ∧ Aside0 (kq ≤ k) ∧ Aside0 (Kd.R (Kd.int .i64) 3 w' w.heap.size (fun _ => True) v3 x3_1) ∧ Aside0 (Below w.heap.size w w'))
 case atStart => exact ⟨(y1537), (0), (by first | rfl | (simp; done) | (simp [*]; done)), H', ⟨Nat.le_refl _⟩, ⟨by (with_reducible repeat (first | apply Kd.R_alloc | apply Kd.R_drewN | apply Kd.R_drew)); exact HO1539.out⟩, ⟨by repeat (first | (with_reducible first | exact HB.out | apply below_alloc | apply pw_below_drewN | apply below_drew1) | exact HB.out)⟩⟩
 case round =>
  clear H'
  try clear c1
  try clear p2
  obtain ⟨x3_1, x4_1, rfl, HA, HK1, HO_3, HB⟩ := hrel
  cases gk with
  | zero => exact absurd HA.out (by simp [spec_l9Least.l0])
  | succ k1 =>
   have H := HA.out
   clear HA
   simp only [spec_l9Least.l0] at H
   by_cases c4 : x4_1 < (l0.length : Int)
   ·rw [if_pos c4] at H
    have c4b0 : decide (x4_1 < (l0.length : Int)) = true := decide_eq_true c4
    clear c4
    by_cases c5 : 0 ≤ x4_1
    ·rw [if_pos c5] at H
     have c5b0 : decide (0 ≤ x4_1) = true := decide_eq_true c5
     clear c5
     by_cases c6 : (rd l0 x4_1) = x4_1
     ·rw [if_pos c6] at H
      have c6b0 : ((rd l0 x4_1) == x4_1) = true := beq_iff_eq.mpr c6
      have c6b1 : ((rd l0 x4_1) != x4_1) = false := bne_eq_false_iff_eq.mpr c6
      clear c6
      by_cases c7 : x3_1.length < 17592186044416
      ·rw [if_pos c7] at H
       have LMc7 := Aside0.mk c7
       clear c7
       obtain ⟨y1541, hy1541⟩ : ∃ y_ : List Int, y_ = (x3_1 ++ [x4_1]) := ⟨_, rfl⟩
       replace H : (spec_l9Least.l0 k1 l0 y1541 (wrap64 (x4_1 + 1))) = some r := by first | (rw [hy1541]; with_reducible exact H) | (have H2_ := (Option.bind_some _ _).symm.trans H; rw [hy1541]; with_reducible exact H2_) | (have H2_ := (Option.bind_some _ _).symm.trans H; with_reducible exact H2_) | with_reducible exact H | (rw [hy1541]; exact H) | exact H
       have Ny1541 := Aside0.mk hy1541
       clear hy1541
       have H' := Aside0.mk H
       clear H
       have p1540 : 0 ≤ (x4_1 : Int) := of_decide_eq_true (by first | (with_reducible assumption) | assumption)
       have q1540 : x4_1 < (l0.length : Int) := of_decide_eq_true (by first | (with_reducible assumption) | assumption)
       obtain ⟨ad1540, e1540, hx1540_0⟩ := Kd.at_int HR0.out x4_1 p1540 q1540
       cases e1540
       replace hx1540_0 := (HB.out.cell (World.block_lt_of_cell? w _ hx1540_0)).trans hx1540_0
       replace p1540 := eq_true p1540
       replace q1540 := eq_true q1540
       go_wp2_with (first | ((with_reducible refine gate_builtin (b := .append) (xs := #[.tmp 18, .tmp 20]) rfl ?_); at_builtin; refine Kd.R_append (Kd.int .i64) (w0 := w) w.heap.size rfl (.tmp 18) (.tmp 20) 25 3 (.int .i64 0) 8 rfl Try.underlying25 info3 rfl (by decide) (by omega) u3 x3_1 x4_1 [.int .i64 x4_1] (fun _ => True) (fun _ => False) rfl rfl ?aP (fun _ hk => hk.elim) ?aF ?aO ?aB ?aS ?aL ?_; (case aP => exact rfl); (case aB => exact (by repeat (first | (with_reducible first | exact HB.out | apply below_alloc | apply pw_below_drewN | apply below_drew1) | exact HB.out))); (case aF => exact (fun _ _ => trivial)); (case aO => exact (by (with_reducible repeat (first | apply Kd.R_alloc | apply Kd.R_drewN | apply Kd.R_drew)); exact HO_3.out)); (case aS => exact (below_size (by repeat (first | (with_reducible first | exact HB.out | apply below_alloc | apply pw_below_drewN | apply below_drew1) | exact HB.out)))); (case aL => have := LMc7.out; omega); intro v1542 w8 ho hb hg hat; rw [← Ny1541.out] at ho; have n0_ := Aside0.mk (hb); have n1_ := Aside0.mk (ho); clear HB; clear HO_3; have HB := n0_; have HO1543 := n1_; clear n0_ n1_; clear ho hb hg hat))
       go_roundg k1
       case measure => have := HK1.out; omega
       case rel => exact ⟨(y1541), (wrap64 (x4_1 + 1)), (by first | rfl | (simp; done) | (simp [*]; done)), H', ⟨by have := HK1.out; omega⟩, ⟨by (with_reducible repeat (first | apply Kd.R_alloc | apply Kd.R_drewN | apply Kd.R_drew)); exact HO1543.out⟩, ⟨by repeat (first | (with_reducible first | exact HB.out | apply below_alloc | apply pw_below_drewN | apply below_drew1) | exact HB.out)⟩⟩
      ·rw [if_neg c7] at H
       exact absurd H (by simp)
     ·rw [if_neg c6] at H
      have c6b0 : ((rd l0 x4_1) == x4_1) = false := beq_eq_false_iff_ne.mpr c6
      have c6b1 : ((rd l0 x4_1) != x4_1) = true := bne_iff_ne.mpr c6
      have H' := Aside0.mk H
      clear H
      have p1540 : 0 ≤ (x4_1 : Int) := of_decide_eq_true (by first | (with_reducible assumption) | assumption)
      have q1540 : x4_1 < (l0.length : Int) := of_decide_eq_true (by first | (with_reducible assumption) | assumption)
      obtain ⟨ad1540, e1540, hx1540_0⟩ := Kd.at_int HR0.out x4_1 p1540 q1540
      cases e1540
      replace hx1540_0 := (HB.out.cell (World.block_lt_of_cell? w _ hx1540_0)).trans hx1540_0
      replace p1540 := eq_true p1540
      replace q1540 := eq_true q1540
      go_wp2
      go_roundg k1
      case measure => have := HK1.out; omega
      case rel => exact ⟨(x3_1), (wrap64 (x4_1 + 1)), (by first | rfl | (simp; done) | (simp [*]; done)), H', ⟨by have := HK1.out; omega⟩, ⟨by (with_reducible repeat (first | apply Kd.R_alloc | apply Kd.R_drewN | apply Kd.R_drew)); exact HO_3.out⟩, ⟨by repeat (first | (with_reducible first | exact HB.out | apply below_alloc | apply pw_below_drewN | apply below_drew1) | exact HB.out)⟩⟩
    ·rw [if_neg c5] at H
     exact absurd H (by simp)
   ·rw [if_neg c4] at H
    have c4b0 : decide (x4_1 < (l0.length : Int)) = false := decide_eq_false c4
    clear c4
    obtain rfl := Option.some.inj H
    go_wp2
    go_ret
    exact ⟨_, by first | rfl | (simp [errW_none, errW_some] <;> rfl) | (simp [*, errW_none, errW_some] <;> rfl), by (with_reducible repeat (first | apply Kd.R_alloc | apply Kd.R_drewN | apply Kd.R_drew)); exact HO_3.out, by repeat (first | (with_reducible first | exact HB.out | apply below_alloc | apply pw_below_drewN | apply below_drew1) | exact HB.out)⟩
end Go.Proofs.Ytnnbgfphinemfaa.Q

namespace Go.Proofs.Ytnnbgfphinemfaa.Q
open Go.RowKit Go.Proofs.YtnnbgfphinemfaaW.PrintWords Go.Proofs.YtnnbgfphinemfaaW.PrintLast Go.Proofs.YtnnbgfphinemfaaW.PrintMore
attribute [local go_sem] max2_int min2_int max_two min_two max_three min_three max_four min_four
set_option linter.unusedVariables false
set_option linter.unusedSimpArgs false
mutual
def spec_l9Quotient.l0 : Nat → List Int → List Int → Int → Int → List (S75) → Int → List (S75) → Option (Int × (List (S75)))
 | 0, _, _, _, _, _, _, _ => none
 | k + 1, x5, x6, x8, x1775000, x1775001, x1783000, x1783001 => if x8 < (x1775001.length : Int) then (if 0 ≤ x8 then (spec_l9Quotient.l1 k x5 x6 x8 0 x1775000 x1775001 x1783000 x1783001 ((rd_T75 x1775001 x8).f0) ([] : List Int)) else (none)) else (some (x1783000, x1783001))
def spec_l9Quotient.l1 : Nat → List Int → List Int → Int → Int → Int → List (S75) → Int → List (S75) → Int → List Int → Option (Int × (List (S75)))
 | 0, _, _, _, _, _, _, _, _, _, _ => none
 | k + 1, x5, x6, x8, x10, x1775000, x1775001, x1783000, x1783001, x1785000, x1785001 => (spec_l2Pow.f k (x5.length : Int) x1785000).bind fun t1785 => (if x10 < t1785 then ((spec_l2Args.f k (x5.length : Int) x1785000 x10).bind fun t1789 => (spec_l9Quotient.l2 k x5 x6 x8 x10 t1789 0 x1775000 x1775001 x1783000 x1783001 x1785000 x1785001)) else (if x1783001.length < 4398046511104 then (spec_l9Quotient.l0 k x5 x6 (wrap64 (x8 + 1)) x1775000 x1775001 x1783000 (x1783001 ++ [(⟨x1785000, x1785001⟩ : S75)])) else (none)))
def spec_l9Quotient.l2 : Nat → List Int → List Int → Int → Int → List Int → Int → Int → List (S75) → Int → List (S75) → Int → List Int → Option (Int × (List (S75)))
 | 0, _, _, _, _, _, _, _, _, _, _, _, _ => none
 | k + 1, x5, x6, x8, x10, x11, x12, x1775000, x1775001, x1783000, x1783001, x1785000, x1785001 => if x12 < (x11.length : Int) then (if 0 ≤ x12 then (if 0 ≤ (rd x11 x12) then (if (rd x11 x12) < (x5.length : Int) then (spec_l9Quotient.l2 k x5 x6 x8 x10 (x11.set (x12 : Int).toNat (rd x5 (rd x11 x12))) (wrap64 (x12 + 1)) x1775000 x1775001 x1783000 x1783001 x1785000 x1785001) else (none)) else (none)) else (none)) else ((spec_l2Value.f k x1775000 x1775001 x8 x11).bind fun t1795 => (if 0 ≤ t1795 then (if t1795 < (x6.length : Int) then (if x1785001.length < 17592186044416 then (spec_l9Quotient.l1 k x5 x6 x8 (wrap64 (x10 + 1)) x1775000 x1775001 x1783000 x1783001 x1785000 (x1785001 ++ [rd x6 t1795])) else (none)) else (none)) else (none)))
end
def spec_l9Quotient.f (k : Nat) (a0_0 : Int) (l0_1 : List (S75)) (l1 : List Int) : Option (Int × (List (S75))) := (spec_l9Least.f k l1).bind fun t1776 => ((spec_l9Map.f k l1).bind fun t1779 => (spec_l9Quotient.l0 k t1776 t1779 0 a0_0 l0_1 (t1776.length : Int) ([] : List (S75))))
theorem spec_l9Quotient.mono_l : ∀ k, (∀ y0 y1 y2 y3 y4 y5 y6, LeO (spec_l9Quotient.l0 k y0 y1 y2 y3 y4 y5 y6) (spec_l9Quotient.l0 (k + 1) y0 y1 y2 y3 y4 y5 y6)) ∧ (∀ y0 y1 y2 y3 y4 y5 y6 y7 y8 y9, LeO (spec_l9Quotient.l1 k y0 y1 y2 y3 y4 y5 y6 y7 y8 y9) (spec_l9Quotient.l1 (k + 1) y0 y1 y2 y3 y4 y5 y6 y7 y8 y9)) ∧ (∀ y0 y1 y2 y3 y4 y5 y6 y7 y8 y9 y10 y11, LeO (spec_l9Quotient.l2 k y0 y1 y2 y3 y4 y5 y6 y7 y8 y9 y10 y11) (spec_l9Quotient.l2 (k + 1) y0 y1 y2 y3 y4 y5 y6 y7 y8 y9 y10 y11))
 | 0 => ⟨fun _ _ _ _ _ _ _ r h => by simp [spec_l9Quotient.l0] at h, fun _ _ _ _ _ _ _ _ _ _ r h => by simp [spec_l9Quotient.l1] at h, fun _ _ _ _ _ _ _ _ _ _ _ _ r h => by simp [spec_l9Quotient.l2] at h⟩
 | k + 1 => by
  obtain ⟨ih0, ih1, ih2⟩ := spec_l9Quotient.mono_l k
  refine ⟨?_, ?_, ?_⟩
  ·intro y0 y1 y2 y3 y4 y5 y6
   unfold spec_l9Quotient.l0
   repeat' first
   | (with_reducible exact ih0 _ _ _ _ _ _ _)
   | (with_reducible exact ih1 _ _ _ _ _ _ _ _ _ _)
   | (with_reducible exact ih2 _ _ _ _ _ _ _ _ _ _ _ _)
   | (with_reducible exact spec_l2Args.mono _ _ _ _)
   | (with_reducible exact spec_l2Pow.mono _ _ _)
   | (with_reducible exact spec_l2Value.mono _ _ _ _ _)
   | (with_reducible exact spec_l9Least.mono _ _)
   | (with_reducible exact spec_l9Map.mono _ _)
   | (with_reducible exact LeO.refl _)
   | (with_reducible exact LeO.none _)
   | (with_reducible refine LeO.ite ?_ ?_)
   | (with_reducible refine LeO.bind ?_ (fun _ => ?_))
   | exact ih0 _ _ _ _ _ _ _
   | exact ih1 _ _ _ _ _ _ _ _ _ _
   | exact ih2 _ _ _ _ _ _ _ _ _ _ _ _
   | exact spec_l2Args.mono _ _ _ _
   | exact spec_l2Pow.mono _ _ _
   | exact spec_l2Value.mono _ _ _ _ _
   | exact spec_l9Least.mono _ _
   | exact spec_l9Map.mono _ _
   | exact LeO.none _
   | refine LeO.ite ?_ ?_
   | refine LeO.bind ?_ (fun _ => ?_)
  ·intro y0 y1 y2 y3 y4 y5 y6 y7 y8 y9
   unfold spec_l9Quotient.l1
   repeat' first
   | (with_reducible exact ih0 _ _ _ _ _ _ _)
   | (with_reducible exact ih1 _ _ _ _ _ _ _ _ _ _)
   | (with_reducible exact ih2 _ _ _ _ _ _ _ _ _ _ _ _)
   | (with_reducible exact spec_l2Args.mono _ _ _ _)
   | (with_reducible exact spec_l2Pow.mono _ _ _)
   | (with_reducible exact spec_l2Value.mono _ _ _ _ _)
   | (with_reducible exact spec_l9Least.mono _ _)
   | (with_reducible exact spec_l9Map.mono _ _)
   | (with_reducible exact LeO.refl _)
   | (with_reducible exact LeO.none _)
   | (with_reducible refine LeO.ite ?_ ?_)
   | (with_reducible refine LeO.bind ?_ (fun _ => ?_))
   | exact ih0 _ _ _ _ _ _ _
   | exact ih1 _ _ _ _ _ _ _ _ _ _
   | exact ih2 _ _ _ _ _ _ _ _ _ _ _ _
   | exact spec_l2Args.mono _ _ _ _
   | exact spec_l2Pow.mono _ _ _
   | exact spec_l2Value.mono _ _ _ _ _
   | exact spec_l9Least.mono _ _
   | exact spec_l9Map.mono _ _
   | exact LeO.none _
   | refine LeO.ite ?_ ?_
   | refine LeO.bind ?_ (fun _ => ?_)
  ·intro y0 y1 y2 y3 y4 y5 y6 y7 y8 y9 y10 y11
   unfold spec_l9Quotient.l2
   repeat' first
   | (with_reducible exact ih0 _ _ _ _ _ _ _)
   | (with_reducible exact ih1 _ _ _ _ _ _ _ _ _ _)
   | (with_reducible exact ih2 _ _ _ _ _ _ _ _ _ _ _ _)
   | (with_reducible exact spec_l2Args.mono _ _ _ _)
   | (with_reducible exact spec_l2Pow.mono _ _ _)
   | (with_reducible exact spec_l2Value.mono _ _ _ _ _)
   | (with_reducible exact spec_l9Least.mono _ _)
   | (with_reducible exact spec_l9Map.mono _ _)
   | (with_reducible exact LeO.refl _)
   | (with_reducible exact LeO.none _)
   | (with_reducible refine LeO.ite ?_ ?_)
   | (with_reducible refine LeO.bind ?_ (fun _ => ?_))
   | exact ih0 _ _ _ _ _ _ _
   | exact ih1 _ _ _ _ _ _ _ _ _ _
   | exact ih2 _ _ _ _ _ _ _ _ _ _ _ _
   | exact spec_l2Args.mono _ _ _ _
   | exact spec_l2Pow.mono _ _ _
   | exact spec_l2Value.mono _ _ _ _ _
   | exact spec_l9Least.mono _ _
   | exact spec_l9Map.mono _ _
   | exact LeO.none _
   | refine LeO.ite ?_ ?_
   | refine LeO.bind ?_ (fun _ => ?_)
theorem spec_l9Quotient.mono : ∀ a0 a1 a2 k, LeO (spec_l9Quotient.f k a0 a1 a2) (spec_l9Quotient.f (k + 1) a0 a1 a2) := by
 intro a0 a1 a2 k
 obtain ⟨ih0, ih1, ih2⟩ := spec_l9Quotient.mono_l k
 unfold spec_l9Quotient.f
 repeat' first
   | (with_reducible exact ih0 _ _ _ _ _ _ _)
   | (with_reducible exact ih1 _ _ _ _ _ _ _ _ _ _)
   | (with_reducible exact ih2 _ _ _ _ _ _ _ _ _ _ _ _)
   | (with_reducible exact spec_l2Args.mono _ _ _ _)
   | (with_reducible exact spec_l2Pow.mono _ _ _)
   | (with_reducible exact spec_l2Value.mono _ _ _ _ _)
   | (with_reducible exact spec_l9Least.mono _ _)
   | (with_reducible exact spec_l9Map.mono _ _)
   | (with_reducible exact LeO.refl _)
   | (with_reducible exact LeO.none _)
   | (with_reducible refine LeO.ite ?_ ?_)
   | (with_reducible refine LeO.bind ?_ (fun _ => ?_))
   | exact ih0 _ _ _ _ _ _ _
   | exact ih1 _ _ _ _ _ _ _ _ _ _
   | exact ih2 _ _ _ _ _ _ _ _ _ _ _ _
   | exact spec_l2Args.mono _ _ _ _
   | exact spec_l2Pow.mono _ _ _
   | exact spec_l2Value.mono _ _ _ _ _
   | exact spec_l9Least.mono _ _
   | exact spec_l9Map.mono _ _
   | exact LeO.none _
   | refine LeO.ite ?_ ?_
   | refine LeO.bind ?_ (fun _ => ?_)
def spec_l9Quotient.T15 : Bool × List (List Nat × List Nat) := (true, [([], []), ([0], [0]), ([], []), ([], []), ([], []), ([], []), ([3, 4, 5], [3, 4, 5]), ([2, 6], [2, 6]), ([7], [7]), ([8], [8]), ([1, 9, 6], [1, 9]), ([0, 1, 2, 3, 4, 5, 6, 7, 8, 9, 10], []), ([11, 10, 10, 0, 1, 2, 3, 4, 5, 6, 7, 8, 9, 10], [10, 11])])
def spec_l9Quotient.B15 : List Nat := [0, 1, 0, 0, 0, 0, 56, 124, 252, 508, 1023, 2047, 4095]
theorem spec_l9Quotient.tab15 : rtab .any (opsOf Try.f118 15) = spec_l9Quotient.T15 := by kernel_rfl
theorem spec_l9Quotient.bits15 : waitsOk spec_l9Quotient.T15.2 spec_l9Quotient.B15 = true := by kernel_rfl
set_option maxHeartbeats 8000000 in
set_option maxRecDepth 100000 in
theorem spec_l9Quotient.calls (k : Nat) (a0_0 : Int) (A0_1 : Option Addr) (c0_1 : Nat) (l0_1 : List (S75)) (A1 : Option Addr) (c1 : Nat) (l1 : List Int) (r1 : Int) (r2 : List (S75)) (w : World) (hr0_1 : Kd.C k75 w A0_1 l0_1.length l0_1) (hc0_1 : l0_1.length ≤ c0_1) (hr1 : Kd.C (Kd.int .i64) w A1 l1.length l1) (hc1 : l1.length ≤ c1) (h : spec_l9Quotient.f k a0_0 l0_1 l1 = some (r1, r2)) :
  Calls Try.prog 118 #[.agg #[.int .i64 a0_0, .slice A0_1 l0_1.length c0_1], .slice A1 l1.length c1] w fun e w' => ∃ v1_ : Value, e = .returned (.agg #[.int .i64 r1, v1_]) ∧ Kd.S k75 75 w' w.heap.size (fun _ => True) v1_ r2 ∧ Below w.heap.size w w' := by
 have hu31 := Try.underlying31
 have hu75 := Try.underlying75
 have HR0_1 := Aside0.mk hr0_1
 have HC0_1 := Aside0.mk hc0_1
 clear hr0_1 hc0_1
 have HR1 := Aside0.mk hr1
 have HC1 := Aside0.mk hc1
 clear hr1 hc1
 have HB := Aside0.mk (Below.refl w.heap.size w)
 have H : ((spec_l9Least.f k l1).bind fun t1776 => ((spec_l9Map.f k l1).bind fun t1779 => (spec_l9Quotient.l0 k t1776 t1779 0 a0_0 l0_1 (t1776.length : Int) ([] : List (S75))))) = some (r1, r2) := h
 clear h
 replace H := Option.bind_eq_some_iff.mp H
 obtain ⟨t1776, A30, H⟩ := H
 replace H : ((spec_l9Map.f k l1).bind fun t1779 => (spec_l9Quotient.l0 k t1776 t1779 0 a0_0 l0_1 (t1776.length : Int) ([] : List (S75)))) = some (r1, r2) := H
 have A3 := Aside0.mk A30
 clear A30
 replace H := Option.bind_eq_some_iff.mp H
 obtain ⟨t1779, A40, H⟩ := H
 replace H : (spec_l9Quotient.l0 k t1776 t1779 0 a0_0 l0_1 (t1776.length : Int) ([] : List (S75))) = some (r1, r2) := H
 have A4 := Aside0.mk A40
 clear A40
 have H' := Aside0.mk H
 clear H
 go_enter Try.func118, Try.ntmps118
 go_wp2_with (first | ((with_reducible refine gate_dst (N := 2) rfl ?_); refine box_event ?hg (N := 2) ?hd (cs := #[.int .i64 a0_0, .slice A0_1 l0_1.length c0_1]) (t := 31) ?hr ?_; (case hd => rfl); (case hg => rfl); (case hr => first | (go_simp; done) | (go_simp; rfl)); intro gb1774 hg w5 hbox hb; have n0_ := Aside0.mk (below_step (by repeat (first | (with_reducible first | exact HB.out | apply below_alloc | apply pw_below_drewN | apply below_drew1) | exact HB.out)) hb); have n1_ := Aside0.mk (hbox); have n2_ := Aside0.mk ((by rw [hg]; exact (below_size (by repeat (first | (with_reducible first | exact HB.out | apply below_alloc | apply pw_below_drewN | apply below_drew1) | exact HB.out))) : w.heap.size ≤ gb1774)); have n3_ := Aside0.mk ((by rw [hg]; exact (below_size (by repeat (first | (with_reducible first | exact HB.out | apply below_alloc | apply pw_below_drewN | apply below_drew1) | exact HB.out))) : w.heap.size ≤ gb1774)); clear HB; have HB := n0_; have BK1774 := n1_; have GW1774 := n2_; have GE1774 := n3_; clear n0_ n1_ n2_ n3_; clear hb hbox hg) | ((with_reducible refine gate_dst (N := 4) rfl ?_); refine box_event ?hg (N := 4) ?hd (cs := #[.int .i64 0, .slice none 0 0]) (t := 31) ?hr ?_; (case hd => rfl); (case hg => rfl); (case hr => first | (go_simp; done) | (go_simp; rfl)); intro gb1775 hg w6 hbox hb; have n0_ := Aside0.mk (blk_below (g := gb1774) (o := .cells #[.int .i64 a0_0, .slice A0_1 l0_1.length c0_1] 31 (0, 0)) (by (with_reducible repeat (first | refine blk_drewN ?_ _ | refine blk_drew ?_ | refine blk_alloc ?_ _)); exact BK1774.out) hb); have n1_ := Aside0.mk (below_step (by repeat (first | (with_reducible first | exact HB.out | apply below_alloc | apply pw_below_drewN | apply below_drew1 | refine below_set ?_ GE1774.out) | exact HB.out)) hb); have n2_ := Aside0.mk (hbox); have n3_ := Aside0.mk ((by rw [hg]; exact (below_size (by repeat (first | (with_reducible first | exact HB.out | apply below_alloc | apply pw_below_drewN | apply below_drew1 | refine below_set ?_ GE1774.out) | exact HB.out))) : w.heap.size ≤ gb1775)); have n4_ := Aside0.mk ((by rw [hg]; exact (below_size (by repeat (first | (with_reducible first | exact HB.out | apply below_alloc | apply pw_below_drewN | apply below_drew1 | refine below_set ?_ GE1774.out) | exact HB.out))) : w.heap.size ≤ gb1775)); have n5_ := Aside0.mk ((by rw [hg]; exact Nat.ne_of_lt (blk_lt (g := gb1774) (o := .cells #[.int .i64 a0_0, .slice A0_1 l0_1.length c0_1] 31 (0, 0)) (by (with_reducible repeat (first | refine blk_drewN ?_ _ | refine blk_drew ?_ | refine blk_alloc ?_ _)); exact BK1774.out)) : gb1774 ≠ gb1775)); have n6_ := Aside0.mk ((by rw [hg]; exact Nat.ne_of_gt (blk_lt (g := gb1774) (o := .cells #[.int .i64 a0_0, .slice A0_1 l0_1.length c0_1] 31 (0, 0)) (by (with_reducible repeat (first | refine blk_drewN ?_ _ | refine blk_drew ?_ | refine blk_alloc ?_ _)); exact BK1774.out)) : gb1775 ≠ gb1774)); clear BK1774; clear HB; have BK1774 := n0_; have HB := n1_; have BK1775 := n2_; have GW1775 := n3_; have GE1775 := n4_; have NB1774_1775 := n5_; have NB1775_1774 := n6_; clear n0_ n1_ n2_ n3_ n4_ n5_ n6_; clear hb hbox hg) | ((with_reducible refine gate_callee (f := 117) rfl ?_); refine goesL_ (some 14) rfl rfl Try.func117 (by kernel_rfl) rfl #[.slice A1 l1.length c1] rfl (by (try simp only [List.map_toArray, List.map_cons, List.map_nil]); first | done | rfl | (simp only [List.length_drop, List.length_take]; rfl)) ?_; (with_reducible refine (spec_l9Least.calls k _ _ l1 t1776 _ ?side1 ?side2 A3.out).mono ?_); (case side1 => repeat (first | exact (Kd.C_below HR1.out HB.out) | (with_reducible refine Kd.C_alloc ?_ _) | (with_reducible refine Kd.C_drewN ?_ _) | (with_reducible refine Kd.C_drew ?_))); (case side2 => exact HC1.out); rintro e w7 ⟨v1777, rfl, ho0, hb⟩; refine ⟨_, rfl, ?_⟩; have n0_ := Aside0.mk (Kd.R_lower ho0 (below_size (by repeat (first | (with_reducible first | exact HB.out | apply below_alloc | apply pw_below_drewN | apply below_drew1 | refine below_set ?_ GE1774.out | refine below_set ?_ GE1775.out) | exact HB.out)))); have n1_ := Aside0.mk (blk_below (g := gb1774) (o := .cells #[.int .i64 a0_0, .slice A0_1 l0_1.length c0_1] 31 (0, 0)) (by (with_reducible repeat (first | refine blk_drewN ?_ _ | refine blk_drew ?_ | refine blk_alloc ?_ _)); exact BK1774.out) hb); have n2_ := Aside0.mk (blk_below (g := gb1775) (o := .cells #[.int .i64 0, .slice none 0 0] 31 (0, 0)) (by (with_reducible repeat (first | refine blk_drewN ?_ _ | refine blk_drew ?_ | refine blk_alloc ?_ _)); exact BK1775.out) hb); have n3_ := Aside0.mk (below_step (by repeat (first | (with_reducible first | exact HB.out | apply below_alloc | apply pw_below_drewN | apply below_drew1 | refine below_set ?_ GE1774.out | refine below_set ?_ GE1775.out) | exact HB.out)) hb); clear BK1774; clear BK1775; clear HB; have HO1778 := n0_; have BK1774 := n1_; have BK1775 := n2_; have HB := n3_; clear n0_ n1_ n2_ n3_; (try clear hb); (try clear hb2); (try clear hk); (try clear hi); (try clear ho0)) | ((with_reducible refine gate_callee (f := 90) rfl ?_); refine goesL_ (some 16) rfl rfl Try.func90 (by kernel_rfl) rfl #[.slice A1 l1.length c1] rfl (by (try simp only [List.map_toArray, List.map_cons, List.map_nil]); first | done | rfl | (simp only [List.length_drop, List.length_take]; rfl)) ?_; (with_reducible refine (spec_l9Map.calls k _ _ l1 t1779 _ ?side1 ?side2 A4.out).mono ?_); (case side1 => repeat (first | exact (Kd.C_below HR1.out HB.out) | (with_reducible refine Kd.C_alloc ?_ _) | (with_reducible refine Kd.C_drewN ?_ _) | (with_reducible refine Kd.C_drew ?_))); (case side2 => exact HC1.out); rintro e w8 ⟨v1780, rfl, ho0, hb⟩; refine ⟨_, rfl, ?_⟩; have n0_ := Aside0.mk (Kd.R_elder' (by (with_reducible repeat (first | apply Kd.R_alloc | apply Kd.R_drewN | apply Kd.R_drew)); exact HO1778.out) (Kd.R_base ho0) hb); have n1_ := Aside0.mk (Kd.R_lower (Kd.R_new' ho0 (Kd.R_lt (by (with_reducible repeat (first | apply Kd.R_alloc | apply Kd.R_drewN | apply Kd.R_drew)); exact HO1778.out))) (below_size (by repeat (first | (with_reducible first | exact HB.out | apply below_alloc | apply pw_below_drewN | apply below_drew1 | refine below_set ?_ GE1774.out | refine below_set ?_ GE1775.out) | exact HB.out)))); have n2_ := Aside0.mk (blk_below (g := gb1774) (o := .cells #[.int .i64 a0_0, .slice A0_1 l0_1.length c0_1] 31 (0, 0)) (by (with_reducible repeat (first | refine blk_drewN ?_ _ | refine blk_drew ?_ | refine blk_alloc ?_ _)); exact BK1774.out) hb); have n3_ := Aside0.mk (blk_below (g := gb1775) (o := .cells #[.int .i64 0, .slice none 0 0] 31 (0, 0)) (by (with_reducible repeat (first | refine blk_drewN ?_ _ | refine blk_drew ?_ | refine blk_alloc ?_ _)); exact BK1775.out) hb); have n4_ := Aside0.mk (below_step (by repeat (first | (with_reducible first | exact HB.out | apply below_alloc | apply pw_below_drewN | apply below_drew1 | refine below_set ?_ GE1774.out | refine below_set ?_ GE1775.out) | exact HB.out)) hb); clear HO1778; clear BK1774; clear BK1775; clear HB; have HO1778 := n0_; have HO1781 := n1_; have BK1774 := n2_; have BK1775 := n3_; have HB := n4_; clear n0_ n1_ n2_ n3_ n4_; (try clear hb); (try clear hb2); (try clear hk); (try clear hi); (try clear ho0); obtain ⟨Ao9, co9, eo9⟩ := Kd.R_slice HO1778.out; subst eo9) | ((with_reducible refine gate_dst (N := 7) rfl ?_); refine box_event ?hg (N := 7) ?hd (cs := #[.int .i64 0, .slice none 0 0]) (t := 31) ?hr ?_; (case hd => rfl); (case hg => rfl); (case hr => first | (go_simp; done) | (go_simp; rfl)); intro gb1782 hg w10 hbox hb; have n0_ := Aside0.mk (Kd.R_below (by (with_reducible repeat (first | apply Kd.R_alloc | apply Kd.R_drewN | apply Kd.R_drew)); exact HO1778.out) hb); have n1_ := Aside0.mk (Kd.R_below (by (with_reducible repeat (first | apply Kd.R_alloc | apply Kd.R_drewN | apply Kd.R_drew)); exact HO1781.out) hb); have n2_ := Aside0.mk (blk_below (g := gb1774) (o := .cells #[.int .i64 a0_0, .slice A0_1 l0_1.length c0_1] 31 (0, 0)) (by (with_reducible repeat (first | refine blk_drewN ?_ _ | refine blk_drew ?_ | refine blk_alloc ?_ _)); exact BK1774.out) hb); have n3_ := Aside0.mk (blk_below (g := gb1775) (o := .cells #[.int .i64 0, .slice none 0 0] 31 (0, 0)) (by (with_reducible repeat (first | refine blk_drewN ?_ _ | refine blk_drew ?_ | refine blk_alloc ?_ _)); exact BK1775.out) hb); have n4_ := Aside0.mk (below_step (by repeat (first | (with_reducible first | exact HB.out | apply below_alloc | apply pw_below_drewN | apply below_drew1 | refine below_set ?_ GE1774.out | refine below_set ?_ GE1775.out) | exact HB.out)) hb); have n5_ := Aside0.mk (hbox); have n6_ := Aside0.mk ((by rw [hg]; exact (below_size (by repeat (first | (with_reducible first | exact HB.out | apply below_alloc | apply pw_below_drewN | apply below_drew1 | refine below_set ?_ GE1774.out | refine below_set ?_ GE1775.out) | exact HB.out))) : w.heap.size ≤ gb1782)); have n7_ := Aside0.mk ((by rw [hg]; exact (below_size (by repeat (first | (with_reducible first | exact HB.out | apply below_alloc | apply pw_below_drewN | apply below_drew1 | refine below_set ?_ GE1774.out | refine below_set ?_ GE1775.out) | exact HB.out))) : w.heap.size ≤ gb1782)); have n8_ := Aside0.mk ((by rw [hg]; exact Nat.ne_of_lt (blk_lt (g := gb1774) (o := .cells #[.int .i64 a0_0, .slice A0_1 l0_1.length c0_1] 31 (0, 0)) (by (with_reducible repeat (first | refine blk_drewN ?_ _ | refine blk_drew ?_ | refine blk_alloc ?_ _)); exact BK1774.out)) : gb1774 ≠ gb1782)); have n9_ := Aside0.mk ((by rw [hg]; exact Nat.ne_of_gt (blk_lt (g := gb1774) (o := .cells #[.int .i64 a0_0, .slice A0_1 l0_1.length c0_1] 31 (0, 0)) (by (with_reducible repeat (first | refine blk_drewN ?_ _ | refine blk_drew ?_ | refine blk_alloc ?_ _)); exact BK1774.out)) : gb1782 ≠ gb1774)); have n10_ := Aside0.mk ((by rw [hg]; exact Nat.ne_of_lt (blk_lt (g := gb1775) (o := .cells #[.int .i64 0, .slice none 0 0] 31 (0, 0)) (by (with_reducible repeat (first | refine blk_drewN ?_ _ | refine blk_drew ?_ | refine blk_alloc ?_ _)); exact BK1775.out)) : gb1775 ≠ gb1782)); have n11_ := Aside0.mk ((by rw [hg]; exact Nat.ne_of_gt (blk_lt (g := gb1775) (o := .cells #[.int .i64 0, .slice none 0 0] 31 (0, 0)) (by (with_reducible repeat (first | refine blk_drewN ?_ _ | refine blk_drew ?_ | refine blk_alloc ?_ _)); exact BK1775.out)) : gb1782 ≠ gb1775)); clear HO1778; clear HO1781; clear BK1774; clear BK1775; clear HB; have HO1778 := n0_; have HO1781 := n1_; have BK1774 := n2_; have BK1775 := n3_; have HB := n4_; have BK1782 := n5_; have GW1782 := n6_; have GE1782 := n7_; have NB1774_1782 := n8_; have NB1782_1774 := n9_; have NB1775_1782 := n10_; have NB1782_1775 := n11_; clear n0_ n1_ n2_ n3_ n4_ n5_ n6_ n7_ n8_ n9_ n10_ n11_; clear hb hbox hg; have hnb11 := NB1782_1774.out; have hnc11 := NB1774_1782.out; have hnb12 := NB1782_1775.out; have hnc12 := NB1775_1782.out; have hcz13_0 : w10.cell? ⟨gb1782, 0, none⟩ = some (.int .i64 0) := (blk_cell BK1782.out 0).trans rfl; have hcz13_1 : w10.cell? ⟨gb1782, 1, none⟩ = some (.slice none 0 0) := (blk_cell BK1782.out 1).trans rfl; have hfz13_0 := blk_frozen BK1782.out 0; have hfz13_1 := blk_frozen BK1782.out 1))
 go_loopg [8] k (fun kq v8 w' => ∃ (x5_1 : List Int) (x6_1 : List Int) (x8_1 : Int) (x1783001_1 : List (S75)) (u1783001 : Value), v8 = .int .i64 x8_1 ∧ Aside0 (spec_l9Quotient.l0 kq x5_1 x6_1 x8_1 a0_0 l0_1 (t1776.length : Int) x1783001_1 = some (r1, r2)) ∧ Aside0 (kq ≤ k) ∧ Aside0 (Kd.R (Kd.int .i64) 3 w' w.heap.size (fun k_ => some k_ ≠ (v1780 : Value).ownBlock) (.slice Ao9 t1776.length co9) x5_1) ∧ Aside0 (Kd.R (Kd.int .i64) 3 w' w.heap.size (fun k_ => some k_ ≠ ((.slice Ao9 t1776.length co9) : Value).ownBlock) v1780 x6_1) ∧ Aside0 (Kd.S k75 75 w' w.heap.size (fun k_ => some k_ ≠ ((.slice Ao9 t1776.length co9) : Value).ownBlock ∧ some k_ ≠ (v1780 : Value).ownBlock) u1783001 x1783001_1) ∧ Aside0 (w'.heap[gb1774]? = some (.cells #[.int .i64 a0_0, (.slice A0_1 l0_1.length c0_1)] 31 (0, 0))) ∧ Aside0 (w'.heap[gb1775]? = some (.cells #[.int .i64 0, (.slice none 0 0)] 31 (0, 0))) ∧ Aside0 (w'.heap[gb1782]? = some (.cells #[.int .i64 (t1776.length : Int), u1783001] 31 (0, 0))) ∧ Aside0 (Below w.heap.size w w'))
 case atStart => exact ⟨(t1776), (t1779), (0), (([] : List (S75))), (.slice none 0 0), (by first | rfl | (simp; done) | (simp [*]; done)), H', ⟨Nat.le_refl _⟩, ⟨by (with_reducible repeat (first | apply Kd.R_alloc | apply Kd.R_drewN | apply Kd.R_drew)); exact Kd.R_mono (Kd.R_far (p := ⟨gb1782, 1, none⟩) (Kd.R_far (p := ⟨gb1782, 0, none⟩) (Kd.R_types HO1778.out BK1782.out (by decide)) (fun _ hk => by first | exact hk.2 | (simp only [ne_eq, hk, not_false_eq_true, and_self]; done)) (.int .i64 (t1776.length : Int))) (fun _ hk => by first | exact hk.2 | (simp only [ne_eq, hk, not_false_eq_true, and_self]; done)) (.slice none 0 0)) (fun _ hk => by first | exact hk.1.2 | (simp only [ne_eq, hk, not_false_eq_true, and_self]; done))⟩, ⟨by (with_reducible repeat (first | apply Kd.R_alloc | apply Kd.R_drewN | apply Kd.R_drew)); exact Kd.R_mono (Kd.R_far (p := ⟨gb1782, 1, none⟩) (Kd.R_far (p := ⟨gb1782, 0, none⟩) (Kd.R_types HO1781.out BK1782.out (by decide)) (fun _ hk => by first | exact hk.2 | (simp only [ne_eq, hk, not_false_eq_true, and_self]; done)) (.int .i64 (t1776.length : Int))) (fun _ hk => by first | exact hk.2 | (simp only [ne_eq, hk, not_false_eq_true, and_self]; done)) (.slice none 0 0)) (fun _ hk => by first | exact hk.1.2 | (simp only [ne_eq, hk, not_false_eq_true, and_self]; done))⟩, ⟨by first | exact Kd.S_nil _ _ _ _ _ | exact Kd.N_nil _ _ _ _ _ | exact Kd.V_nil _ _ _ _ _ | exact Kd.Q_nil _ _ _ _ _ | exact Kd.R_nil _ _ _ _ _⟩, ⟨by (with_reducible repeat (first | refine blk_drewN ?_ _ | refine blk_drew ?_ | refine blk_alloc ?_ _)); refine blk_far ?_ NB1774_1782.out _; (with_reducible repeat (first | refine blk_drewN ?_ _ | refine blk_drew ?_ | refine blk_alloc ?_ _)); refine blk_far ?_ NB1774_1782.out _; (with_reducible repeat (first | refine blk_drewN ?_ _ | refine blk_drew ?_ | refine blk_alloc ?_ _)); exact BK1774.out⟩, ⟨by (with_reducible repeat (first | refine blk_drewN ?_ _ | refine blk_drew ?_ | refine blk_alloc ?_ _)); refine blk_far ?_ NB1775_1782.out _; (with_reducible repeat (first | refine blk_drewN ?_ _ | refine blk_drew ?_ | refine blk_alloc ?_ _)); refine blk_far ?_ NB1775_1782.out _; (with_reducible repeat (first | refine blk_drewN ?_ _ | refine blk_drew ?_ | refine blk_alloc ?_ _)); exact BK1775.out⟩, ⟨by (with_reducible repeat (first | refine blk_drewN ?_ _ | refine blk_drew ?_ | refine blk_alloc ?_ _)); refine blk_put (cs := #[.int .i64 (t1776.length : Int), .slice none 0 0]) ?_ 1 _ rfl; (with_reducible repeat (first | refine blk_drewN ?_ _ | refine blk_drew ?_ | refine blk_alloc ?_ _)); refine blk_put (cs := #[.int .i64 0, .slice none 0 0]) ?_ 0 _ rfl; (with_reducible repeat (first | refine blk_drewN ?_ _ | refine blk_drew ?_ | refine blk_alloc ?_ _)); exact BK1782.out⟩, ⟨by repeat (first | (with_reducible first | exact HB.out | apply below_alloc | apply pw_below_drewN | apply below_drew1 | refine below_set ?_ GE1774.out | refine below_set ?_ GE1775.out | refine below_set ?_ GE1782.out) | exact HB.out)⟩⟩
 case round =>
  clear H'
  try clear c1
  try clear p2
  try clear c9
  try clear c11
  try clear c12
  try clear hcz13_0
  try clear hcz13_1
  try clear hfz13_0
  try clear hfz13_1
  obtain ⟨x5_1, x6_1, x8_1, x1783001_1, u1783001, rfl, HA, HK1, HO_5, HO_6, HO_1783001, BK1774, BK1775, BK1782, HB⟩ := hrel
  have hl5_1 := (Kd.R_reads' HO_5.out).1
  rw [hl5_1] at HO_5
  (try simp only [hl5_1])
  (try simp only [hl5_1] at BK1774)
  (try simp only [hl5_1] at BK1775)
  (try simp only [hl5_1] at BK1782)
  (try simp only [hl5_1] at HO_6)
  (try simp only [hl5_1] at HO_1783001)
  cases gk with
  | zero => exact absurd HA.out (by simp [spec_l9Quotient.l0])
  | succ k1 =>
   have H := HA.out
   clear HA
   simp only [spec_l9Quotient.l0] at H
   by_cases c14 : x8_1 < (l0_1.length : Int)
   ·rw [if_pos c14] at H
    have c14b0 : decide (x8_1 < (l0_1.length : Int)) = true := decide_eq_true c14
    (try simp only [hl5_1] at c14b0)
    clear c14
    by_cases c15 : 0 ≤ x8_1
    ·rw [if_pos c15] at H
     have c15b0 : decide (0 ≤ x8_1) = true := decide_eq_true c15
     clear c15
     have H' := Aside0.mk H
     clear H
     have hnb16 := NB1774_1775.out
     have hnc16 := NB1775_1774.out
     have hnb17 := NB1774_1782.out
     have hnc17 := NB1782_1774.out
     have hcz18_0 : wr.cell? ⟨gb1774, 0, none⟩ = some (.int .i64 a0_0) := (blk_cell BK1774.out 0).trans rfl
     have hcz18_1 : wr.cell? ⟨gb1774, 1, none⟩ = some (.slice A0_1 l0_1.length c0_1) := (blk_cell BK1774.out 1).trans rfl
     have hfz18_0 := blk_frozen BK1774.out 0
     have hfz18_1 := blk_frozen BK1774.out 1
     have p1783 : 0 ≤ (x8_1 : Int) := of_decide_eq_true (by first | (with_reducible assumption) | assumption)
     have q1783 : x8_1 < (l0_1.length : Int) := of_decide_eq_true (by first | (with_reducible assumption) | assumption)
     obtain ⟨ad1783, A1783_1, c1783_1, e1783, hx1783_0, hx1783_1, hl1783_1, hi1783_1⟩ := at_T75 HR0_1.out x8_1 p1783 q1783
     cases e1783
     replace hx1783_0 := (HB.out.cell (World.block_lt_of_cell? w _ hx1783_0)).trans hx1783_0
     replace hx1783_1 := (HB.out.cell (World.block_lt_of_cell? w _ hx1783_1)).trans hx1783_1
     have HR1783_1 := Aside0.mk hi1783_1
     have HC1783_1 := Aside0.mk hl1783_1
     clear hi1783_1 hl1783_1
     replace p1783 := eq_true p1783
     replace q1783 := eq_true q1783
     go_wp2_with (first | ((with_reducible refine gate_dst (N := 9) rfl ?_); refine box_event ?hg (N := 9) ?hd (cs := #[.int .i64 0, .slice none 0 0]) (t := 75) ?hr ?_; (case hd => rfl); (case hg => rfl); (case hr => first | (go_simp; done) | (go_simp; rfl)); intro gb1784 hg w19 hbox hb; have n0_ := Aside0.mk (Kd.R_below (by (with_reducible repeat (first | apply Kd.R_alloc | apply Kd.R_drewN | apply Kd.R_drew)); exact HO_5.out) hb); have n1_ := Aside0.mk (Kd.R_below (by (with_reducible repeat (first | apply Kd.R_alloc | apply Kd.R_drewN | apply Kd.R_drew)); exact HO_6.out) hb); have n2_ := Aside0.mk (Kd.S_below (Kd.S_elderB (by (with_reducible repeat (first | apply Kd.S_alloc | apply Kd.S_drewN | apply Kd.S_drew)); exact HO_1783001.out) gb1784 (Nat.le_of_eq hg.symm)) hb); have n3_ := Aside0.mk (blk_below (g := gb1774) (o := .cells #[.int .i64 a0_0, .slice (some ad1783) l0_1.length c0_1] 31 (0, 0)) (by (with_reducible repeat (first | refine blk_drewN ?_ _ | refine blk_drew ?_ | refine blk_alloc ?_ _)); exact BK1774.out) hb); have n4_ := Aside0.mk (blk_below (g := gb1775) (o := .cells #[.int .i64 0, .slice none 0 0] 31 (0, 0)) (by (with_reducible repeat (first | refine blk_drewN ?_ _ | refine blk_drew ?_ | refine blk_alloc ?_ _)); exact BK1775.out) hb); have n5_ := Aside0.mk (blk_below (g := gb1782) (o := .cells #[.int .i64 (x5_1.length : Int), u1783001] 31 (0, 0)) (by (with_reducible repeat (first | refine blk_drewN ?_ _ | refine blk_drew ?_ | refine blk_alloc ?_ _)); exact BK1782.out) hb); have n6_ := Aside0.mk (below_step (by repeat (first | (with_reducible first | exact HB.out | apply below_alloc | apply pw_below_drewN | apply below_drew1 | refine below_set ?_ GE1774.out | refine below_set ?_ GE1775.out | refine below_set ?_ GE1782.out) | exact HB.out)) hb); have n7_ := Aside0.mk (hbox); have n8_ := Aside0.mk ((by rw [hg]; exact (below_size (by repeat (first | (with_reducible first | exact HB.out | apply below_alloc | apply pw_below_drewN | apply below_drew1 | refine below_set ?_ GE1774.out | refine below_set ?_ GE1775.out | refine below_set ?_ GE1782.out) | exact HB.out))) : w.heap.size ≤ gb1784)); have n9_ := Aside0.mk ((by rw [hg]; exact (below_size (by repeat (first | (with_reducible first | exact HB.out | apply below_alloc | apply pw_below_drewN | apply below_drew1 | refine below_set ?_ GE1774.out | refine below_set ?_ GE1775.out | refine below_set ?_ GE1782.out) | exact HB.out))) : w.heap.size ≤ gb1784)); have n10_ := Aside0.mk ((by rw [hg]; exact Nat.ne_of_lt (blk_lt (g := gb1774) (o := .cells #[.int .i64 a0_0, .slice (some ad1783) l0_1.length c0_1] 31 (0, 0)) (by (with_reducible repeat (first | refine blk_drewN ?_ _ | refine blk_drew ?_ | refine blk_alloc ?_ _)); exact BK1774.out)) : gb1774 ≠ gb1784)); have n11_ := Aside0.mk ((by rw [hg]; exact Nat.ne_of_gt (blk_lt (g := gb1774) (o := .cells #[.int .i64 a0_0, .slice (some ad1783) l0_1.length c0_1] 31 (0, 0)) (by (with_reducible repeat (first | refine blk_drewN ?_ _ | refine blk_drew ?_ | refine blk_alloc ?_ _)); exact BK1774.out)) : gb1784 ≠ gb1774)); have n12_ := Aside0.mk ((by rw [hg]; exact Nat.ne_of_lt (blk_lt (g := gb1775) (o := .cells #[.int .i64 0, .slice none 0 0] 31 (0, 0)) (by (with_reducible repeat (first | refine blk_drewN ?_ _ | refine blk_drew ?_ | refine blk_alloc ?_ _)); exact BK1775.out)) : gb1775 ≠ gb1784)); have n13_ := Aside0.mk ((by rw [hg]; exact Nat.ne_of_gt (blk_lt (g := gb1775) (o := .cells #[.int .i64 0, .slice none 0 0] 31 (0, 0)) (by (with_reducible repeat (first | refine blk_drewN ?_ _ | refine blk_drew ?_ | refine blk_alloc ?_ _)); exact BK1775.out)) : gb1784 ≠ gb1775)); have n14_ := Aside0.mk ((by rw [hg]; exact Nat.ne_of_lt (blk_lt (g := gb1782) (o := .cells #[.int .i64 (x5_1.length : Int), u1783001] 31 (0, 0)) (by (with_reducible repeat (first | refine blk_drewN ?_ _ | refine blk_drew ?_ | refine blk_alloc ?_ _)); exact BK1782.out)) : gb1782 ≠ gb1784)); have n15_ := Aside0.mk ((by rw [hg]; exact Nat.ne_of_gt (blk_lt (g := gb1782) (o := .cells #[.int .i64 (x5_1.length : Int), u1783001] 31 (0, 0)) (by (with_reducible repeat (first | refine blk_drewN ?_ _ | refine blk_drew ?_ | refine blk_alloc ?_ _)); exact BK1782.out)) : gb1784 ≠ gb1782)); clear HO_5; clear HO_6; clear HO_1783001; clear BK1774; clear BK1775; clear BK1782; clear HB; have HO_5 := n0_; have HO_6 := n1_; have HO_1783001 := n2_; have BK1774 := n3_; have BK1775 := n4_; have BK1782 := n5_; have HB := n6_; have BK1784 := n7_; have GW1784 := n8_; have GE1784 := n9_; have NB1774_1784 := n10_; have NB1784_1774 := n11_; have NB1775_1784 := n12_; have NB1784_1775 := n13_; have NB1782_1784 := n14_; have NB1784_1782 := n15_; clear n0_ n1_ n2_ n3_ n4_ n5_ n6_ n7_ n8_ n9_ n10_ n11_ n12_ n13_ n14_ n15_; clear hb hbox hg; have hnb20 := NB1784_1774.out; have hnc20 := NB1774_1784.out; have hnb21 := NB1784_1775.out; have hnc21 := NB1775_1784.out; have hnb22 := NB1784_1782.out; have hnc22 := NB1782_1784.out; have hcz23_0 : w19.cell? ⟨gb1784, 0, none⟩ = some (.int .i64 0) := (blk_cell BK1784.out 0).trans rfl; have hcz23_1 : w19.cell? ⟨gb1784, 1, none⟩ = some (.slice none 0 0) := (blk_cell BK1784.out 1).trans rfl; have hfz23_0 := blk_frozen BK1784.out 0; have hfz23_1 := blk_frozen BK1784.out 1))
     go_loopg [10] k1 (fun kq v10 w' => ∃ (x5_2 : List Int) (x6_2 : List Int) (x10_2 : Int) (x1785001_2 : List Int) (u1785001 : Value), v10 = .int .i64 x10_2 ∧ Aside0 (spec_l9Quotient.l1 kq x5_2 x6_2 x8_1 x10_2 a0_0 l0_1 (t1776.length : Int) x1783001_1 ((rd_T75 l0_1 x8_1).f0) x1785001_2 = some (r1, r2)) ∧ Aside0 (kq ≤ k1) ∧ Aside0 (Kd.R (Kd.int .i64) 3 w' w.heap.size (fun k_ => some k_ ≠ (v1780 : Value).ownBlock ∧ some k_ ≠ (u1785001 : Value).ownBlock) (.slice Ao9 x5_1.length co9) x5_2) ∧ Aside0 (Kd.R (Kd.int .i64) 3 w' w.heap.size (fun k_ => some k_ ≠ ((.slice Ao9 x5_1.length co9) : Value).ownBlock ∧ some k_ ≠ (u1785001 : Value).ownBlock) v1780 x6_2) ∧ Aside0 (Kd.S k75 75 w' w.heap.size (fun k_ => some k_ ≠ ((.slice Ao9 x5_1.length co9) : Value).ownBlock ∧ some k_ ≠ (v1780 : Value).ownBlock ∧ some k_ ≠ (u1785001 : Value).ownBlock ∧ k_ ≠ gb1784) u1783001 x1783001_1) ∧ Aside0 (Kd.R (Kd.int .i64) 3 w' w.heap.size (fun k_ => some k_ ≠ ((.slice Ao9 x5_1.length co9) : Value).ownBlock ∧ some k_ ≠ (v1780 : Value).ownBlock) u1785001 x1785001_2) ∧ Aside0 (w'.heap[gb1774]? = some (.cells #[.int .i64 a0_0, (.slice (some ad1783) l0_1.length c0_1)] 31 (0, 0))) ∧ Aside0 (w'.heap[gb1775]? = some (.cells #[.int .i64 0, (.slice none 0 0)] 31 (0, 0))) ∧ Aside0 (w'.heap[gb1782]? = some (.cells #[.int .i64 (x5_1.length : Int), u1783001] 31 (0, 0))) ∧ Aside0 (w'.heap[gb1784]? = some (.cells #[.int .i64 ((rd_T75 l0_1 x8_1).f0), u1785001] 75 (0, 0))) ∧ Aside0 (Below w.heap.size w w'))
     case atStart => exact ⟨(x5_1), (x6_1), (0), (([] : List Int)), (.slice none 0 0), (by first | rfl | (simp; done) | (simp [*]; done)), H', ⟨Nat.le_refl _⟩, ⟨by (try simp only [hl5_1]); (with_reducible repeat (first | apply Kd.R_alloc | apply Kd.R_drewN | apply Kd.R_drew)); exact Kd.R_mono (Kd.R_far (p := ⟨gb1784, 1, none⟩) (Kd.R_far (p := ⟨gb1784, 0, none⟩) (Kd.R_types HO_5.out BK1784.out (by decide)) (fun _ hk => by first | exact hk.2 | (simp only [ne_eq, hk, not_false_eq_true, and_self]; done)) (.int .i64 ((rd_T75 l0_1 x8_1).f0))) (fun _ hk => by first | exact hk.2 | (simp only [ne_eq, hk, not_false_eq_true, and_self]; done)) (.slice none 0 0)) (fun _ hk => ⟨hk.1, (by simp [Value.ownBlock])⟩)⟩, ⟨by (try simp only [hl5_1]); (with_reducible repeat (first | apply Kd.R_alloc | apply Kd.R_drewN | apply Kd.R_drew)); exact Kd.R_mono (Kd.R_far (p := ⟨gb1784, 1, none⟩) (Kd.R_far (p := ⟨gb1784, 0, none⟩) (Kd.R_types HO_6.out BK1784.out (by decide)) (fun _ hk => by first | exact hk.2 | (simp only [ne_eq, hk, not_false_eq_true, and_self]; done)) (.int .i64 ((rd_T75 l0_1 x8_1).f0))) (fun _ hk => by first | exact hk.2 | (simp only [ne_eq, hk, not_false_eq_true, and_self]; done)) (.slice none 0 0)) (fun _ hk => ⟨hk.1, (by simp [Value.ownBlock])⟩)⟩, ⟨by (try simp only [hl5_1]); (with_reducible repeat (first | apply Kd.S_alloc | apply Kd.S_drewN | apply Kd.S_drew)); exact Kd.S_mono (Kd.S_far (p := ⟨gb1784, 1, none⟩) (Kd.S_far (p := ⟨gb1784, 0, none⟩) (Kd.S_mono HO_1783001.out (fun k_ hk => (⟨hk, hk.2⟩ : _ ∧ k_ ≠ gb1784))) (fun _ hk => by first | exact hk.2 | (simp only [ne_eq, hk, not_false_eq_true, and_self]; done)) (.int .i64 ((rd_T75 l0_1 x8_1).f0))) (fun _ hk => by first | exact hk.2 | (simp only [ne_eq, hk, not_false_eq_true, and_self]; done)) (.slice none 0 0)) (fun _ hk => ⟨hk.1.1.1, ⟨hk.1.1.2, ⟨(by simp [Value.ownBlock]), hk.1.2⟩⟩⟩)⟩, ⟨by (try simp only [hl5_1]); first | exact Kd.R_nil _ _ _ _ _ | exact Kd.N_nil _ _ _ _ _ | exact Kd.V_nil _ _ _ _ _ | exact Kd.Q_nil _ _ _ _ _ | exact Kd.S_nil _ _ _ _ _⟩, ⟨by (try simp only [hl5_1]); (with_reducible repeat (first | refine blk_drewN ?_ _ | refine blk_drew ?_ | refine blk_alloc ?_ _)); refine blk_far ?_ NB1774_1784.out _; (with_reducible repeat (first | refine blk_drewN ?_ _ | refine blk_drew ?_ | refine blk_alloc ?_ _)); refine blk_far ?_ NB1774_1784.out _; (with_reducible repeat (first | refine blk_drewN ?_ _ | refine blk_drew ?_ | refine blk_alloc ?_ _)); exact BK1774.out⟩, ⟨by (try simp only [hl5_1]); (with_reducible repeat (first | refine blk_drewN ?_ _ | refine blk_drew ?_ | refine blk_alloc ?_ _)); refine blk_far ?_ NB1775_1784.out _; (with_reducible repeat (first | refine blk_drewN ?_ _ | refine blk_drew ?_ | refine blk_alloc ?_ _)); refine blk_far ?_ NB1775_1784.out _; (with_reducible repeat (first | refine blk_drewN ?_ _ | refine blk_drew ?_ | refine blk_alloc ?_ _)); exact BK1775.out⟩, ⟨by (try simp only [hl5_1]); (with_reducible repeat (first | refine blk_drewN ?_ _ | refine blk_drew ?_ | refine blk_alloc ?_ _)); refine blk_far ?_ NB1782_1784.out _; (with_reducible repeat (first | refine blk_drewN ?_ _ | refine blk_drew ?_ | refine blk_alloc ?_ _)); refine blk_far ?_ NB1782_1784.out _; (with_reducible repeat (first | refine blk_drewN ?_ _ | refine blk_drew ?_ | refine blk_alloc ?_ _)); exact BK1782.out⟩, ⟨by (try simp only [hl5_1]); (with_reducible repeat (first | refine blk_drewN ?_ _ | refine blk_drew ?_ | refine blk_alloc ?_ _)); refine blk_put (cs := #[.int .i64 ((rd_T75 l0_1 x8_1).f0), .slice none 0 0]) ?_ 1 _ rfl; (with_reducible repeat (first | refine blk_drewN ?_ _ | refine blk_drew ?_ | refine blk_alloc ?_ _)); refine blk_put (cs := #[.int .i64 0, .slice none 0 0]) ?_ 0 _ rfl; (with_reducible repeat (first | refine blk_drewN ?_ _ | refine blk_drew ?_ | refine blk_alloc ?_ _)); exact BK1784.out⟩, ⟨by repeat (first | (with_reducible first | exact HB.out | apply below_alloc | apply pw_below_drewN | apply below_drew1 | refine below_set ?_ GE1774.out | refine below_set ?_ GE1775.out | refine below_set ?_ GE1782.out | refine below_set ?_ GE1784.out) | exact HB.out)⟩⟩
     case round =>
      clear H'
      try clear c1
      try clear p1
      try clear q1
      try clear hx1
      try clear c2
      try clear p2
      try clear c9
      try clear c11
      try clear c12
      try clear c14
      try clear c14b0
      try clear c15
      try clear c15b0
      try clear c16
      try clear c17
      try clear p17
      try clear q17
      try clear hx17
      try clear c20
      try clear c21
      try clear c22
      try clear hcz13_0
      try clear hcz13_1
      try clear hcz18_0
      try clear hcz18_1
      try clear hcz23_0
      try clear hcz23_1
      try clear hfz13_0
      try clear hfz13_1
      try clear hfz18_0
      try clear hfz18_1
      try clear hfz23_0
      try clear hfz23_1
      try clear hx1783_0
      try clear hx1783_1
      try clear p1783
      try clear p2
      try clear q1783
      obtain ⟨x5_2, x6_2, x10_2, x1785001_2, u1785001, rfl, HA, HK2, HO_5, HO_6, HO_1783001, HO_1785001, BK1774, BK1775, BK1782, BK1784, HB⟩ := hrel
      have hl5_2 := (Kd.R_reads' HO_5.out).1
      rw [hl5_2] at HO_5
      (try simp only [hl5_2])
      (try simp only [hl5_2] at BK1774)
      (try simp only [hl5_2] at BK1775)
      (try simp only [hl5_2] at BK1782)
      (try simp only [hl5_2] at BK1784)
      (try simp only [hl5_2] at HO_6)
      (try simp only [hl5_2] at HO_1783001)
      (try simp only [hl5_2] at HO_1785001)
      cases gk with
      | zero => exact absurd HA.out (by simp [spec_l9Quotient.l1])
      | succ k2 =>
       have H := HA.out
       clear HA
       simp only [spec_l9Quotient.l1] at H
       replace H := Option.bind_eq_some_iff.mp H
       obtain ⟨t1785, A240, H⟩ := H
       replace H : (if x10_2 < t1785 then ((spec_l2Args.f k2 (x5_2.length : Int) ((rd_T75 l0_1 x8_1).f0) x10_2).bind fun t1789 => (spec_l9Quotient.l2 k2 x5_2 x6_2 x8_1 x10_2 t1789 0 a0_0 l0_1 (t1776.length : Int) x1783001_1 ((rd_T75 l0_1 x8_1).f0) x1785001_2)) else (if x1783001_1.length < 4398046511104 then (spec_l9Quotient.l0 k2 x5_2 x6_2 (wrap64 (x8_1 + 1)) a0_0 l0_1 (t1776.length : Int) (x1783001_1 ++ [(⟨((rd_T75 l0_1 x8_1).f0), x1785001_2⟩ : S75)])) else (none))) = some (r1, r2) := H
       have A24 := Aside0.mk A240
       clear A240
       by_cases c25 : x10_2 < t1785
       ·rw [if_pos c25] at H
        have c25b0 : decide (x10_2 < t1785) = true := decide_eq_true c25
        clear c25
        replace H := Option.bind_eq_some_iff.mp H
        obtain ⟨t1789, A260, H⟩ := H
        replace H : (spec_l9Quotient.l2 k2 x5_2 x6_2 x8_1 x10_2 t1789 0 a0_0 l0_1 (t1776.length : Int) x1783001_1 ((rd_T75 l0_1 x8_1).f0) x1785001_2) = some (r1, r2) := H
        have A26 := Aside0.mk A260
        clear A260
        have H' := Aside0.mk H
        clear H
        have hnb27 := NB1784_1774.out
        have hnc27 := NB1774_1784.out
        have hnb28 := NB1784_1775.out
        have hnc28 := NB1775_1784.out
        have hnb29 := NB1784_1782.out
        have hnc29 := NB1782_1784.out
        have hcz30_0 : wr.cell? ⟨gb1784, 0, none⟩ = some (.int .i64 ((rd_T75 l0_1 x8_1).f0)) := (blk_cell BK1784.out 0).trans rfl
        have hcz30_1 : wr.cell? ⟨gb1784, 1, none⟩ = some (u1785001) := (blk_cell BK1784.out 1).trans rfl
        have hfz30_0 := blk_frozen BK1784.out 0
        have hfz30_1 := blk_frozen BK1784.out 1
        go_wp2_with (first | ((with_reducible refine gate_callee (f := 131) rfl ?_); refine goesL_ (some 39) rfl rfl Try.func131 (by kernel_rfl) rfl #[.int .i64 (x5_2.length : Int), .int .i64 ((rd_T75 l0_1 x8_1).f0)] rfl (by (try simp only [List.map_toArray, List.map_cons, List.map_nil]); first | done | rfl | (simp only [List.length_drop, List.length_take]; rfl)) ?_; (with_reducible refine (spec_l2Pow.calls k2 (x5_2.length : Int) ((rd_T75 l0_1 x8_1).f0) t1785 _ A24.out).mono ?_); rintro e w' ⟨rfl, ⟨nd, rfl⟩⟩; refine ⟨_, rfl, ?_⟩) | ((with_reducible refine gate_callee (f := 124) rfl ?_); refine goesL_ (some 48) rfl rfl Try.func124 (by kernel_rfl) rfl #[.int .i64 (x5_2.length : Int), .int .i64 ((rd_T75 l0_1 x8_1).f0), .int .i64 x10_2] rfl (by (try simp only [List.map_toArray, List.map_cons, List.map_nil]); first | done | rfl | (simp only [List.length_drop, List.length_take]; rfl)) ?_; (with_reducible refine (spec_l2Args.calls k2 (x5_2.length : Int) ((rd_T75 l0_1 x8_1).f0) x10_2 t1789 _ A26.out).mono ?_); rintro e w31 ⟨v1790, rfl, ho0, hb⟩; refine ⟨_, rfl, ?_⟩; have n0_ := Aside0.mk (Kd.R_elder' (by (with_reducible repeat (first | apply Kd.R_alloc | apply Kd.R_drewN | apply Kd.R_drew)); exact HO_5.out) (Kd.R_base ho0) hb); have n1_ := Aside0.mk (Kd.R_elder' (by (with_reducible repeat (first | apply Kd.R_alloc | apply Kd.R_drewN | apply Kd.R_drew)); exact HO_6.out) (Kd.R_base ho0) hb); have n2_ := Aside0.mk (Kd.S_elder' (by (with_reducible repeat (first | apply Kd.S_alloc | apply Kd.S_drewN | apply Kd.S_drew)); exact HO_1783001.out) (Kd.R_base ho0) hb); have n3_ := Aside0.mk (Kd.R_elder' (by (with_reducible repeat (first | apply Kd.R_alloc | apply Kd.R_drewN | apply Kd.R_drew)); exact HO_1785001.out) (Kd.R_base ho0) hb); have n4_ := Aside0.mk (Kd.R_lower (Kd.R_new' (Kd.R_new' (Kd.R_new' ho0 (Kd.R_lt (by (with_reducible repeat (first | apply Kd.R_alloc | apply Kd.R_drewN | apply Kd.R_drew)); exact HO_5.out))) (Kd.R_lt (by (with_reducible repeat (first | apply Kd.R_alloc | apply Kd.R_drewN | apply Kd.R_drew)); exact HO_6.out))) (Kd.R_lt (by (with_reducible repeat (first | apply Kd.R_alloc | apply Kd.R_drewN | apply Kd.R_drew)); exact HO_1785001.out))) (below_size (by repeat (first | (with_reducible first | exact HB.out | apply below_alloc | apply pw_below_drewN | apply below_drew1 | refine below_set ?_ GE1774.out | refine below_set ?_ GE1775.out | refine below_set ?_ GE1782.out | refine below_set ?_ GE1784.out) | exact HB.out)))); have n5_ := Aside0.mk (blk_below (g := gb1774) (o := .cells #[.int .i64 a0_0, .slice (some ad1783) l0_1.length c0_1] 31 (0, 0)) (by (with_reducible repeat (first | refine blk_drewN ?_ _ | refine blk_drew ?_ | refine blk_alloc ?_ _)); exact BK1774.out) hb); have n6_ := Aside0.mk (blk_below (g := gb1775) (o := .cells #[.int .i64 0, .slice none 0 0] 31 (0, 0)) (by (with_reducible repeat (first | refine blk_drewN ?_ _ | refine blk_drew ?_ | refine blk_alloc ?_ _)); exact BK1775.out) hb); have n7_ := Aside0.mk (blk_below (g := gb1782) (o := .cells #[.int .i64 (x5_2.length : Int), u1783001] 31 (0, 0)) (by (with_reducible repeat (first | refine blk_drewN ?_ _ | refine blk_drew ?_ | refine blk_alloc ?_ _)); exact BK1782.out) hb); have n8_ := Aside0.mk (blk_below (g := gb1784) (o := .cells #[.int .i64 ((rd_T75 l0_1 x8_1).f0), u1785001] 75 (0, 0)) (by (with_reducible repeat (first | refine blk_drewN ?_ _ | refine blk_drew ?_ | refine blk_alloc ?_ _)); exact BK1784.out) hb); have n9_ := Aside0.mk (below_step (by repeat (first | (with_reducible first | exact HB.out | apply below_alloc | apply pw_below_drewN | apply below_drew1 | refine below_set ?_ GE1774.out | refine below_set ?_ GE1775.out | refine below_set ?_ GE1782.out | refine below_set ?_ GE1784.out) | exact HB.out)) hb); clear HO_5; clear HO_6; clear HO_1783001; clear HO_1785001; clear BK1774; clear BK1775; clear BK1782; clear BK1784; clear HB; have HO_5 := n0_; have HO_6 := n1_; have HO_1783001 := n2_; have HO_1785001 := n3_; have HO1791 := n4_; have BK1774 := n5_; have BK1775 := n6_; have BK1782 := n7_; have BK1784 := n8_; have HB := n9_; clear n0_ n1_ n2_ n3_ n4_ n5_ n6_ n7_ n8_ n9_; (try clear hb); (try clear hb2); (try clear hk); (try clear hi); (try clear ho0)))
        go_loopg [12] k2 (fun kq v12 w' => ∃ (x11_3 : List Int) (x12_3 : Int), v12 = .int .i64 x12_3 ∧ Aside0 (spec_l9Quotient.l2 kq x5_2 x6_2 x8_1 x10_2 x11_3 x12_3 a0_0 l0_1 (t1776.length : Int) x1783001_1 ((rd_T75 l0_1 x8_1).f0) x1785001_2 = some (r1, r2)) ∧ Aside0 (kq ≤ k2) ∧ Aside0 (Kd.R (Kd.int .i64) 3 w' w.heap.size (fun k_ => some k_ ≠ (v1780 : Value).ownBlock ∧ some k_ ≠ (v1790 : Value).ownBlock ∧ some k_ ≠ (u1785001 : Value).ownBlock) (.slice Ao9 x5_2.length co9) x5_2) ∧ Aside0 (Kd.R (Kd.int .i64) 3 w' w.heap.size (fun k_ => some k_ ≠ ((.slice Ao9 x5_2.length co9) : Value).ownBlock ∧ some k_ ≠ (v1790 : Value).ownBlock ∧ some k_ ≠ (u1785001 : Value).ownBlock) v1780 x6_2) ∧ Aside0 (Kd.R (Kd.int .i64) 3 w' w.heap.size (fun k_ => some k_ ≠ ((.slice Ao9 x5_2.length co9) : Value).ownBlock ∧ some k_ ≠ (v1780 : Value).ownBlock ∧ some k_ ≠ (u1785001 : Value).ownBlock) v1790 x11_3) ∧ Aside0 (Kd.S k75 75 w' w.heap.size (fun k_ => some k_ ≠ ((.slice Ao9 x5_2.length co9) : Value).ownBlock ∧ some k_ ≠ (v1780 : Value).ownBlock ∧ some k_ ≠ (v1790 : Value).ownBlock ∧ some k_ ≠ (u1785001 : Value).ownBlock ∧ k_ ≠ gb1784) u1783001 x1783001_1) ∧ Aside0 (Kd.R (Kd.int .i64) 3 w' w.heap.size (fun k_ => some k_ ≠ ((.slice Ao9 x5_2.length co9) : Value).ownBlock ∧ some k_ ≠ (v1780 : Value).ownBlock ∧ some k_ ≠ (v1790 : Value).ownBlock) u1785001 x1785001_2) ∧ Aside0 (w'.heap[gb1774]? = some (.cells #[.int .i64 a0_0, (.slice (some ad1783) l0_1.length c0_1)] 31 (0, 0))) ∧ Aside0 (w'.heap[gb1775]? = some (.cells #[.int .i64 0, (.slice none 0 0)] 31 (0, 0))) ∧ Aside0 (w'.heap[gb1782]? = some (.cells #[.int .i64 (x5_2.length : Int), u1783001] 31 (0, 0))) ∧ Aside0 (w'.heap[gb1784]? = some (.cells #[.int .i64 ((rd_T75 l0_1 x8_1).f0), u1785001] 75 (0, 0))) ∧ Aside0 (Below w.heap.size w w'))
        case atStart => exact ⟨(t1789), (0), (by first | rfl | (simp; done) | (simp [*]; done)), H', ⟨Nat.le_refl _⟩, ⟨by (try simp only [hl5_1]); (try simp only [hl5_2]); (with_reducible repeat (first | apply Kd.R_alloc | apply Kd.R_drewN | apply Kd.R_drew)); exact Kd.R_mono HO_5.out (fun _ hk => ⟨hk.1.1, ⟨hk.2, hk.1.2⟩⟩)⟩, ⟨by (try simp only [hl5_1]); (try simp only [hl5_2]); (with_reducible repeat (first | apply Kd.R_alloc | apply Kd.R_drewN | apply Kd.R_drew)); exact Kd.R_mono HO_6.out (fun _ hk => ⟨hk.1.1, ⟨hk.2, hk.1.2⟩⟩)⟩, ⟨by (try simp only [hl5_1]); (try simp only [hl5_2]); (with_reducible repeat (first | apply Kd.R_alloc | apply Kd.R_drewN | apply Kd.R_drew)); exact Kd.R_mono HO1791.out (fun _ hk => ⟨hk.1.1.2, ⟨hk.1.2, hk.2⟩⟩)⟩, ⟨by (try simp only [hl5_1]); (try simp only [hl5_2]); (with_reducible repeat (first | apply Kd.S_alloc | apply Kd.S_drewN | apply Kd.S_drew)); exact Kd.S_mono HO_1783001.out (fun _ hk => ⟨hk.1.1, ⟨hk.1.2.1, ⟨hk.2, ⟨hk.1.2.2.1, hk.1.2.2.2⟩⟩⟩⟩)⟩, ⟨by (try simp only [hl5_1]); (try simp only [hl5_2]); (with_reducible repeat (first | apply Kd.R_alloc | apply Kd.R_drewN | apply Kd.R_drew)); exact Kd.R_mono HO_1785001.out (fun _ hk => ⟨hk.1.1, ⟨hk.1.2, hk.2⟩⟩)⟩, ⟨by (try simp only [hl5_1]); (try simp only [hl5_2]); (with_reducible repeat (first | refine blk_drewN ?_ _ | refine blk_drew ?_ | refine blk_alloc ?_ _)); exact BK1774.out⟩, ⟨by (try simp only [hl5_1]); (try simp only [hl5_2]); (with_reducible repeat (first | refine blk_drewN ?_ _ | refine blk_drew ?_ | refine blk_alloc ?_ _)); exact BK1775.out⟩, ⟨by (try simp only [hl5_1]); (try simp only [hl5_2]); (with_reducible repeat (first | refine blk_drewN ?_ _ | refine blk_drew ?_ | refine blk_alloc ?_ _)); exact BK1782.out⟩, ⟨by (try simp only [hl5_1]); (try simp only [hl5_2]); (with_reducible repeat (first | refine blk_drewN ?_ _ | refine blk_drew ?_ | refine blk_alloc ?_ _)); exact BK1784.out⟩, ⟨by repeat (first | (with_reducible first | exact HB.out | apply below_alloc | apply pw_below_drewN | apply below_drew1 | refine below_set ?_ GE1774.out | refine below_set ?_ GE1775.out | refine below_set ?_ GE1782.out | refine below_set ?_ GE1784.out) | exact HB.out)⟩⟩
        case round =>
         clear H'
         try clear c1
         try clear p1
         try clear q1
         try clear hx1
         try clear c2
         try clear p2
         try clear p6
         try clear c9
         try clear c11
         try clear c12
         try clear c13
         try clear c14
         try clear c14b0
         try clear c15
         try clear c15b0
         try clear c16
         try clear c17
         try clear p17
         try clear q17
         try clear hx17
         try clear c20
         try clear c21
         try clear c22
         try clear c25
         try clear c25b0
         try clear c27
         try clear c28
         try clear c29
         try clear hcz13_0
         try clear hcz13_1
         try clear hcz18_0
         try clear hcz18_1
         try clear hcz23_0
         try clear hcz23_1
         try clear hcz30_0
         try clear hcz30_1
         try clear hfz13_0
         try clear hfz13_1
         try clear hfz18_0
         try clear hfz18_1
         try clear hfz23_0
         try clear hfz23_1
         try clear hfz30_0
         try clear hfz30_1
         try clear hx1783_0
         try clear hx1783_1
         try clear p1
         try clear p17
         try clear p1783
         try clear p2
         try clear q1
         try clear q17
         try clear q1783
         obtain ⟨x11_3, x12_3, rfl, HA, HK3, HO_5, HO_6, HO_11, HO_1783001, HO_1785001, BK1774, BK1775, BK1782, BK1784, HB⟩ := hrel
         cases gk with
         | zero => exact absurd HA.out (by simp [spec_l9Quotient.l2])
         | succ k3 =>
          have H := HA.out
          clear HA
          simp only [spec_l9Quotient.l2] at H
          by_cases c32 : x12_3 < (x11_3.length : Int)
          ·rw [if_pos c32] at H
           have c32b0 : decide (x12_3 < (x11_3.length : Int)) = true := decide_eq_true c32
           (try simp only [hl5_1, hl5_2] at c32b0)
           clear c32
           by_cases c33 : 0 ≤ x12_3
           ·rw [if_pos c33] at H
            have c33b0 : decide (0 ≤ x12_3) = true := decide_eq_true c33
            clear c33
            by_cases c34 : 0 ≤ (rd x11_3 x12_3)
            ·rw [if_pos c34] at H
             have c34b0 : decide (0 ≤ (rd x11_3 x12_3)) = true := decide_eq_true c34
             clear c34
             by_cases c35 : (rd x11_3 x12_3) < (x5_2.length : Int)
             ·rw [if_pos c35] at H
              have c35b0 : decide ((rd x11_3 x12_3) < (x5_2.length : Int)) = true := decide_eq_true c35
              (try simp only [hl5_1, hl5_2] at c35b0)
              clear c35
              obtain ⟨y1794, hy1794⟩ : ∃ y_ : List Int, y_ = (x11_3.set (x12_3 : Int).toNat (rd x5_2 (rd x11_3 x12_3))) := ⟨_, rfl⟩
              replace H : (spec_l9Quotient.l2 k3 x5_2 x6_2 x8_1 x10_2 y1794 (wrap64 (x12_3 + 1)) a0_0 l0_1 (t1776.length : Int) x1783001_1 ((rd_T75 l0_1 x8_1).f0) x1785001_2) = some (r1, r2) := by first | (rw [hy1794]; with_reducible exact H) | (have H2_ := (Option.bind_some _ _).symm.trans H; rw [hy1794]; with_reducible exact H2_) | (have H2_ := (Option.bind_some _ _).symm.trans H; with_reducible exact H2_) | with_reducible exact H | (rw [hy1794]; exact H) | exact H
              have Ny1794 := Aside0.mk hy1794
              clear hy1794
              have H' := Aside0.mk H
              clear H
              obtain ⟨Ao37, co37, eo37⟩ := Kd.R_slice HO_11.out
              subst eo37
              have p1792 : 0 ≤ (x12_3 : Int) := of_decide_eq_true (by first | (with_reducible assumption) | assumption)
              have q1792 : x12_3 < (x11_3.length : Int) := of_decide_eq_true (by first | (with_reducible assumption) | assumption)
              obtain ⟨ad1792, e1792, hx1792_0⟩ := Kd.at_int (Kd.R_reads' HO_11.out).2.2 x12_3 p1792 q1792
              cases e1792
              replace p1792 := eq_true p1792
              replace q1792 := eq_true q1792
              have p1793 : 0 ≤ ((rd x11_3 x12_3) : Int) := of_decide_eq_true (by first | (with_reducible assumption) | assumption)
              have q1793 : (rd x11_3 x12_3) < (x5_2.length : Int) := of_decide_eq_true (by first | (with_reducible assumption) | assumption)
              obtain ⟨ad1793, e1793, hx1793_0⟩ := Kd.at_int (Kd.R_reads' HO_5.out).2.2 (rd x11_3 x12_3) p1793 q1793
              cases e1793
              replace p1793 := eq_true p1793
              replace q1793 := eq_true q1793
              have p36 : 0 ≤ (x12_3 : Int) := of_decide_eq_true (by first | (with_reducible assumption) | assumption)
              have q36 : (x12_3 : Int) < ((x11_3.length : Int) : Int) := of_decide_eq_true (by first | (with_reducible assumption) | assumption)
              obtain ⟨go36, co36, eo36, gb36, gl36, cl36, HG36⟩ := Kd.R_form HO_11.out (by omega)
              (first | cases eo36 | (injection eo36 with ea_ en_ ec_; (first | subst ea_ | (injection ea_ with ea_; subst ea_)); subst ec_; clear en_))
              have GB36 := Aside0.mk gb36
              have GG36 := Aside0.mk HG36
              clear gb36 gl36 HG36
              (first | simp only [add_plain] at hx1792_0 | skip)
              obtain ⟨hx36_0, hf36_0⟩ := Kd.R_celln 0 HO_11.out (x12_3 : Int) p36 q36
              replace p36 := eq_true p36
              replace q36 := eq_true q36
              have HP38 := Kd.R_putg HO_11.out (x12_3 : Int) (rd x5_2 (rd x11_3 x12_3))
              go_wp2_with (first | ((with_reducible refine gate_store (t := 3) (p := 64) rfl ?_); refine store_event (t := 3) (p := 64) (v := ?vo_w39) (w1 := (wr.setCell ⟨go36, (x12_3 : Int).toNat, none⟩ (.int .i64 (rd x5_2 (rd x11_3 x12_3))))) ?hg ?ho ?hn ?hr ?_; (case ho => rfl); (case hg => rfl); (case hn => rfl); (case hr => first | (go_simp; done) | (go_simp; rfl)); intro w39 hw; have hg : wr.grownBy w39 (some go36) := (by rw [hw]; exact HP38.2); have hp_ : Kd.R (Kd.int .i64) 3 w39 w.heap.size (fun k_ => some k_ ≠ (.slice (some ad1793) x5_2.length co9 : Value).ownBlock ∧ some k_ ≠ (v1780 : Value).ownBlock ∧ some k_ ≠ (u1785001 : Value).ownBlock) (.slice (some ⟨go36, 0, none⟩) x11_3.length co37) y1794 := (by rw [hw, Ny1794.out]; exact HP38.1); clear HP38; have n0_ := Aside0.mk (Kd.R_after (v := (.slice (some ⟨go36, 0, none⟩) x11_3.length co37)) (v1 := (.slice (some ⟨go36, 0, none⟩) x11_3.length co37)) (ok := (fun k_ => some k_ ≠ (v1780 : Value).ownBlock ∧ some k_ ≠ (u1785001 : Value).ownBlock)) (by (with_reducible repeat (first | apply Kd.R_alloc | apply Kd.R_drewN | apply Kd.R_drew)); exact Kd.R_mono HO_5.out (fun _ hk => by first | exact ⟨⟨hk.1, hk.2.2⟩, hk.2.1⟩ | (simp only [ne_eq, hk, not_false_eq_true, and_self]; done))) hg (.inl rfl)); have n1_ := Aside0.mk (Kd.R_after (v := (.slice (some ⟨go36, 0, none⟩) x11_3.length co37)) (v1 := (.slice (some ⟨go36, 0, none⟩) x11_3.length co37)) (ok := (fun k_ => some k_ ≠ (.slice (some ad1793) x5_2.length co9 : Value).ownBlock ∧ some k_ ≠ (u1785001 : Value).ownBlock)) (by (with_reducible repeat (first | apply Kd.R_alloc | apply Kd.R_drewN | apply Kd.R_drew)); exact Kd.R_mono HO_6.out (fun _ hk => by first | exact ⟨⟨hk.1, hk.2.2⟩, hk.2.1⟩ | (simp only [ne_eq, hk, not_false_eq_true, and_self]; done))) hg (.inl rfl)); have n2_ := Aside0.mk (hp_); have n3_ := Aside0.mk (Kd.S_after (v := (.slice (some ⟨go36, 0, none⟩) x11_3.length co37)) (v1 := (.slice (some ⟨go36, 0, none⟩) x11_3.length co37)) (ok := (fun k_ => some k_ ≠ (.slice (some ad1793) x5_2.length co9 : Value).ownBlock ∧ some k_ ≠ (v1780 : Value).ownBlock ∧ some k_ ≠ (u1785001 : Value).ownBlock ∧ k_ ≠ gb1784)) (by (with_reducible repeat (first | apply Kd.S_alloc | apply Kd.S_drewN | apply Kd.S_drew)); exact Kd.S_mono HO_1783001.out (fun _ hk => by first | exact ⟨⟨hk.1, ⟨hk.2.1, ⟨hk.2.2.2.1, hk.2.2.2.2⟩⟩⟩, hk.2.2.1⟩ | (simp only [ne_eq, hk, not_false_eq_true, and_self]; done))) hg (.inl rfl)); have n4_ := Aside0.mk (Kd.R_after (v := (.slice (some ⟨go36, 0, none⟩) x11_3.length co37)) (v1 := (.slice (some ⟨go36, 0, none⟩) x11_3.length co37)) (ok := (fun k_ => some k_ ≠ (.slice (some ad1793) x5_2.length co9 : Value).ownBlock ∧ some k_ ≠ (v1780 : Value).ownBlock)) (by (with_reducible repeat (first | apply Kd.R_alloc | apply Kd.R_drewN | apply Kd.R_drew)); exact Kd.R_mono HO_1785001.out (fun _ hk => by first | exact ⟨⟨hk.1, hk.2.1⟩, hk.2.2⟩ | (simp only [ne_eq, hk, not_false_eq_true, and_self]; done))) hg (.inl rfl)); have n5_ := Aside0.mk (blk_grown (g := gb1774) (o := .cells #[.int .i64 a0_0, .slice (some ad1783) l0_1.length c0_1] 31 (0, 0)) (by (with_reducible repeat (first | refine blk_drewN ?_ _ | refine blk_drew ?_ | refine blk_alloc ?_ _)); exact BK1774.out) hg (Kd.R_ne HO_11.out BK1774.out (by decide))); have n6_ := Aside0.mk (blk_grown (g := gb1775) (o := .cells #[.int .i64 0, .slice none 0 0] 31 (0, 0)) (by (with_reducible repeat (first | refine blk_drewN ?_ _ | refine blk_drew ?_ | refine blk_alloc ?_ _)); exact BK1775.out) hg (Kd.R_ne HO_11.out BK1775.out (by decide))); have n7_ := Aside0.mk (blk_grown (g := gb1782) (o := .cells #[.int .i64 (x5_2.length : Int), u1783001] 31 (0, 0)) (by (with_reducible repeat (first | refine blk_drewN ?_ _ | refine blk_drew ?_ | refine blk_alloc ?_ _)); exact BK1782.out) hg (Kd.R_ne HO_11.out BK1782.out (by decide))); have n8_ := Aside0.mk (blk_grown (g := gb1784) (o := .cells #[.int .i64 ((rd_T75 l0_1 x8_1).f0), u1785001] 75 (0, 0)) (by (with_reducible repeat (first | refine blk_drewN ?_ _ | refine blk_drew ?_ | refine blk_alloc ?_ _)); exact BK1784.out) hg (Kd.R_ne HO_11.out BK1784.out (by decide))); have n9_ := Aside0.mk ((by rw [hw]; exact below_set (HB.out) GB36.out : Below w.heap.size w w39)); clear HO_5; clear HO_6; clear HO_11; clear HO_1783001; clear HO_1785001; clear BK1774; clear BK1775; clear BK1782; clear BK1784; clear HB; have HO_5 := n0_; have HO_6 := n1_; have HO_11 := n2_; have HO_1783001 := n3_; have HO_1785001 := n4_; have BK1774 := n5_; have BK1775 := n6_; have BK1782 := n7_; have BK1784 := n8_; have HB := n9_; clear n0_ n1_ n2_ n3_ n4_ n5_ n6_ n7_ n8_ n9_; clear hg hw hp_))
              go_roundg k3
              case measure => have := HK1.out; have := HK2.out; have := HK3.out; omega
              case rel => exact ⟨(y1794), (wrap64 (x12_3 + 1)), (by first | rfl | (simp; done) | (simp [*]; done)), H', ⟨by have := HK1.out; have := HK2.out; have := HK3.out; omega⟩, ⟨by (try simp only [hl5_1]); (try simp only [hl5_2]); (with_reducible repeat (first | apply Kd.R_alloc | apply Kd.R_drewN | apply Kd.R_drew)); exact Kd.R_mono HO_5.out (fun _ hk => ⟨hk.1.1, ⟨hk.2, hk.1.2⟩⟩)⟩, ⟨by (try simp only [hl5_1]); (try simp only [hl5_2]); (with_reducible repeat (first | apply Kd.R_alloc | apply Kd.R_drewN | apply Kd.R_drew)); exact Kd.R_mono HO_6.out (fun _ hk => ⟨hk.1.1, ⟨hk.2, hk.1.2⟩⟩)⟩, ⟨by (try simp only [hl5_1]); (try simp only [hl5_2]); (with_reducible repeat (first | apply Kd.R_alloc | apply Kd.R_drewN | apply Kd.R_drew)); exact HO_11.out⟩, ⟨by (try simp only [hl5_1]); (try simp only [hl5_2]); (with_reducible repeat (first | apply Kd.S_alloc | apply Kd.S_drewN | apply Kd.S_drew)); exact Kd.S_mono HO_1783001.out (fun _ hk => ⟨hk.1.1, ⟨hk.1.2.1, ⟨hk.2, ⟨hk.1.2.2.1, hk.1.2.2.2⟩⟩⟩⟩)⟩, ⟨by (try simp only [hl5_1]); (try simp only [hl5_2]); (with_reducible repeat (first | apply Kd.R_alloc | apply Kd.R_drewN | apply Kd.R_drew)); exact Kd.R_mono HO_1785001.out (fun _ hk => ⟨hk.1.1, ⟨hk.1.2, hk.2⟩⟩)⟩, ⟨by (try simp only [hl5_1]); (try simp only [hl5_2]); (with_reducible repeat (first | refine blk_drewN ?_ _ | refine blk_drew ?_ | refine blk_alloc ?_ _)); exact BK1774.out⟩, ⟨by (try simp only [hl5_1]); (try simp only [hl5_2]); (with_reducible repeat (first | refine blk_drewN ?_ _ | refine blk_drew ?_ | refine blk_alloc ?_ _)); exact BK1775.out⟩, ⟨by (try simp only [hl5_1]); (try simp only [hl5_2]); (with_reducible repeat (first | refine blk_drewN ?_ _ | refine blk_drew ?_ | refine blk_alloc ?_ _)); exact BK1782.out⟩, ⟨by (try simp only [hl5_1]); (try simp only [hl5_2]); (with_reducible repeat (first | refine blk_drewN ?_ _ | refine blk_drew ?_ | refine blk_alloc ?_ _)); exact BK1784.out⟩, ⟨by repeat (first | (with_reducible first | exact HB.out | apply below_alloc | apply pw_below_drewN | apply below_drew1 | refine below_set ?_ GE1774.out | refine below_set ?_ GE1775.out | refine below_set ?_ GE1782.out | refine below_set ?_ GE1784.out) | exact HB.out)⟩⟩
             ·rw [if_neg c35] at H
              exact absurd H (by simp)
            ·rw [if_neg c34] at H
             exact absurd H (by simp)
           ·rw [if_neg c33] at H
            exact absurd H (by simp)
          ·rw [if_neg c32] at H
           have c32b0 : decide (x12_3 < (x11_3.length : Int)) = false := decide_eq_false c32
           (try simp only [hl5_1, hl5_2] at c32b0)
           clear c32
           replace H := Option.bind_eq_some_iff.mp H
           obtain ⟨t1795, A400, H⟩ := H
           replace H : (if 0 ≤ t1795 then (if t1795 < (x6_2.length : Int) then (if x1785001_2.length < 17592186044416 then (spec_l9Quotient.l1 k3 x5_2 x6_2 x8_1 (wrap64 (x10_2 + 1)) a0_0 l0_1 (t1776.length : Int) x1783001_1 ((rd_T75 l0_1 x8_1).f0) (x1785001_2 ++ [rd x6_2 t1795])) else (none)) else (none)) else (none)) = some (r1, r2) := H
           have A40 := Aside0.mk A400
           clear A400
           by_cases c41 : 0 ≤ t1795
           ·rw [if_pos c41] at H
            have c41b0 : decide (0 ≤ t1795) = true := decide_eq_true c41
            clear c41
            by_cases c42 : t1795 < (x6_2.length : Int)
            ·rw [if_pos c42] at H
             have c42b0 : decide (t1795 < (x6_2.length : Int)) = true := decide_eq_true c42
             (try simp only [hl5_1, hl5_2] at c42b0)
             clear c42
             by_cases c43 : x1785001_2.length < 17592186044416
             ·rw [if_pos c43] at H
              have LMc43 := Aside0.mk c43
              clear c43
              obtain ⟨y1797, hy1797⟩ : ∃ y_ : List Int, y_ = (x1785001_2 ++ [rd x6_2 t1795]) := ⟨_, rfl⟩
              replace H : (spec_l9Quotient.l1 k3 x5_2 x6_2 x8_1 (wrap64 (x10_2 + 1)) a0_0 l0_1 (t1776.length : Int) x1783001_1 ((rd_T75 l0_1 x8_1).f0) y1797) = some (r1, r2) := by first | (rw [hy1797]; with_reducible exact H) | (have H2_ := (Option.bind_some _ _).symm.trans H; rw [hy1797]; with_reducible exact H2_) | (have H2_ := (Option.bind_some _ _).symm.trans H; with_reducible exact H2_) | with_reducible exact H | (rw [hy1797]; exact H) | exact H
              have Ny1797 := Aside0.mk hy1797
              clear hy1797
              have H' := Aside0.mk H
              clear H
              obtain ⟨Ao44, co44, eo44⟩ := Kd.R_slice HO_11.out
              subst eo44
              try go_wp2
              have n0_ := Aside0.mk (Kd.R_drew HO_5.out)
              have n1_ := Aside0.mk (Kd.R_drew HO_6.out)
              have n2_ := Aside0.mk (Kd.R_drew HO_11.out)
              have n3_ := Aside0.mk (Kd.S_drew HO_1783001.out)
              have n4_ := Aside0.mk (Kd.R_drew HO_1785001.out)
              have n5_ := Aside0.mk (blk_drew BK1774.out)
              have n6_ := Aside0.mk (blk_drew BK1775.out)
              have n7_ := Aside0.mk (blk_drew BK1782.out)
              have n8_ := Aside0.mk (blk_drew BK1784.out)
              have n9_ := Aside0.mk (below_drew1 HB.out)
              clear HO_5
              clear HO_6
              clear HO_11
              clear HO_1783001
              clear HO_1785001
              clear BK1774
              clear BK1775
              clear BK1782
              clear BK1784
              clear HB
              have HO_5 := n0_
              have HO_6 := n1_
              have HO_11 := n2_
              have HO_1783001 := n3_
              have HO_1785001 := n4_
              have BK1774 := n5_
              have BK1775 := n6_
              have BK1782 := n7_
              have BK1784 := n8_
              have HB := n9_
              clear n0_ n1_ n2_ n3_ n4_ n5_ n6_ n7_ n8_ n9_
              have p1796 : 0 ≤ (t1795 : Int) := of_decide_eq_true (by first | (with_reducible assumption) | assumption)
              have q1796 : t1795 < (x6_2.length : Int) := of_decide_eq_true (by first | (with_reducible assumption) | assumption)
              obtain ⟨Ao47, co47, eo47⟩ := Kd.R_slice HO_6.out
              (first | subst eo47 | (injection eo47 with f1_ f2_ f3_; have f4_ := f1_.symm; have f5_ := f3_.symm; clear f1_ f2_ f3_; subst f4_; subst f5_))
              obtain ⟨ad1796, e1796, hx1796_0⟩ := Kd.at_int (Kd.R_reads' HO_6.out).2.2 t1795 p1796 q1796
              cases e1796
              replace p1796 := eq_true p1796
              replace q1796 := eq_true q1796
              refine start_ (n := 13) (S := fun w' => w'.cell? ⟨gb1784, 0, none⟩ = some (.int .i64 ((rd_T75 l0_1 x8_1).f0)) ∧ w'.cell? ⟨gb1784, 1, none⟩ = some (u1785001) ∧ w'.cell? ⟨gb1774, 0, none⟩ = some (.int .i64 a0_0) ∧ w'.cell? ⟨gb1774, 1, none⟩ = some (.slice (some ad1783) l0_1.length c0_1) ∧ w'.cell? (ad1796.add (t1795).toNat) = some (.int .i64 (rd x6_2 t1795))) (ds := [10, 12]) #[false, false, false, false, false, false, false, false, false, false, false, false, false] (by kernel_rfl) rfl rfl ⟨(blk_cell BK1784.out 0).trans rfl, (blk_cell BK1784.out 1).trans rfl, (blk_cell BK1774.out 0).trans rfl, (blk_cell BK1774.out 1).trans rfl, hx1796_0⟩ (fun hHeld => ?_); refine with_tabW spec_l9Quotient.tab15 spec_l9Quotient.bits15 (fun HT_ HW_ => ?_)
              generalize wr.drew = w45 at HO_5 HO_6 HO_11 HO_1783001 HO_1785001 BK1774 BK1775 BK1782 BK1784 HB hx1796_0 hHeld ⊢
              refine pure_ (i := 0) (N := some 65) (v := ?_) (a' := ?_) #[true, false, false, false, false, false, false, false, false, false, false, false, false] rfl rfl (any_of HT_.out (by kernel_rfl)) (fun _ _ _ h => h) (Or.inl ⟨by rfl, ?_⟩) ?_ ?_
              rotate_left
              ·intro w'
               go_simp
               with_reducible rfl
              rotate_left
              ·simp only [Act.put, List.setIfInBounds_toArray, List.set_cons_zero, List.set_cons_succ, i64_w, i32_w]
               rfl
              refine pure_ (i := 2) (N := some 67) (v := ?_) (a' := ?_) #[true, false, true, false, false, false, false, false, false, false, false, false, false] rfl rfl (any_of HT_.out (by kernel_rfl)) (fun _ _ _ h => h) (Or.inl ⟨by rfl, ?_⟩) ?_ ?_
              rotate_left
              ·intro w'
               go_simp
               with_reducible rfl
              rotate_left
              ·simp only [Act.put, List.setIfInBounds_toArray, List.set_cons_zero, List.set_cons_succ, i64_w, i32_w]
               rfl
              refine pure_ (i := 4) (N := some 69) (v := ?_) (a' := ?_) #[true, false, true, false, true, false, false, false, false, false, false, false, false] rfl rfl (any_of HT_.out (by kernel_rfl)) (fun _ _ _ h => h) (Or.inl ⟨by rfl, ?_⟩) ?_ ?_
              rotate_left
              ·intro w'
               go_simp
               with_reducible rfl
              rotate_left
              ·simp only [Act.put, List.setIfInBounds_toArray, List.set_cons_zero, List.set_cons_succ, i64_w, i32_w]
               rfl
              refine pure_ (i := 5) (N := some 70) (v := ?_) (a' := ?_) #[true, false, true, false, true, true, false, false, false, false, false, false, false] rfl rfl (any_of HT_.out (by kernel_rfl)) (fun _ _ _ h => h) (Or.inl ⟨by rfl, ?_⟩) ?_ ?_
              rotate_left
              ·intro w'
               go_simp
               with_reducible rfl
              rotate_left
              ·simp only [Act.put, List.setIfInBounds_toArray, List.set_cons_zero, List.set_cons_succ, i64_w, i32_w]
               rfl
              refine take_ (i := 1) (N := some 66) (v := ?_) (a' := ?_) #[true, true, true, false, true, true, false, false, false, false, false, false, false] rfl rfl (take_ofW HT_.out HW_.out (by kernel_rfl)) (fun _ _ _ h => h) (Or.inl ⟨by rfl, ?_⟩) hHeld ?_ ?_
              rotate_left
              ·rintro w' ⟨s0, s1, s2, s3, s4⟩
               go_simp
               with_reducible rfl
              rotate_left
              ·simp only [Act.put, List.setIfInBounds_toArray, List.set_cons_zero, List.set_cons_succ, i64_w, i32_w]
               rfl
              refine take_ (i := 3) (N := some 68) (v := ?_) (a' := ?_) #[true, true, true, true, true, true, false, false, false, false, false, false, false] rfl rfl (take_ofW HT_.out HW_.out (by kernel_rfl)) (fun _ _ _ h => h) (Or.inl ⟨by rfl, ?_⟩) hHeld ?_ ?_
              rotate_left
              ·rintro w' ⟨s0, s1, s2, s3, s4⟩
               go_simp
               with_reducible rfl
              rotate_left
              ·simp only [Act.put, List.setIfInBounds_toArray, List.set_cons_zero, List.set_cons_succ, i64_w, i32_w]
               rfl
              refine one_ (i := 6) (N := some 71) #[true, true, true, true, true, true, true, false, false, false, false, false, false] rfl rfl (one_of HT_.out (by kernel_rfl)) (by decide) (fun K hK => ?_)
              refine goes_ Try.func125 (by kernel_rfl) rfl #[.agg #[.int .i64 a0_0, .slice (some ad1783) l0_1.length c0_1], .int .i64 x8_1, .slice Ao44 x11_3.length co44] (by rfl) rfl rfl (by (try simp only [List.map_toArray, List.map_cons, List.map_nil]); first | done | rfl | (simp only [List.length_drop, List.length_take]; rfl)) ?_
              with_reducible refine (spec_l2Value.calls k3 a0_0 _ _ l0_1 x8_1 _ _ x11_3 t1795 _ ?side1 ?side2 ?side3 ?side4 A40.out).mono ?_
              (case side1 => repeat (first | exact (Kd.C_below HR0_1.out HB.out) | (with_reducible refine Kd.C_alloc ?_ _) | (with_reducible refine Kd.C_drewN ?_ _) | (with_reducible refine Kd.C_drew ?_)))
              (case side2 => exact HC0_1.out)
              (case side3 => repeat (first | exact (Kd.R_reads' HO_11.out).2.2 | (with_reducible refine Kd.C_alloc ?_ _) | (with_reducible refine Kd.C_drewN ?_ _) | (with_reducible refine Kd.C_drew ?_)))
              (case side4 => exact (Kd.R_reads' HO_11.out).2.1)
              rintro e w46 ⟨rfl, hb⟩
              have HS4_ := (hb.cell (World.block_lt_of_cell? _ _ (hHeld.2.2.2.2))).trans (hHeld.2.2.2.2)
              refine ⟨_, rfl, ?_⟩
              have n0_ := Aside0.mk (Kd.R_below (by (with_reducible repeat (first | apply Kd.R_alloc | apply Kd.R_drewN | apply Kd.R_drew)); exact HO_5.out) hb)
              have n1_ := Aside0.mk (Kd.R_below (by (with_reducible repeat (first | apply Kd.R_alloc | apply Kd.R_drewN | apply Kd.R_drew)); exact HO_6.out) hb)
              have n2_ := Aside0.mk (Kd.R_below (by (with_reducible repeat (first | apply Kd.R_alloc | apply Kd.R_drewN | apply Kd.R_drew)); exact HO_11.out) hb)
              have n3_ := Aside0.mk (Kd.S_below (by (with_reducible repeat (first | apply Kd.S_alloc | apply Kd.S_drewN | apply Kd.S_drew)); exact HO_1783001.out) hb)
              have n4_ := Aside0.mk (Kd.R_below (by (with_reducible repeat (first | apply Kd.R_alloc | apply Kd.R_drewN | apply Kd.R_drew)); exact HO_1785001.out) hb)
              have n5_ := Aside0.mk (blk_below (g := gb1774) (o := .cells #[.int .i64 a0_0, .slice (some ad1783) l0_1.length c0_1] 31 (0, 0)) (by (with_reducible repeat (first | refine blk_drewN ?_ _ | refine blk_drew ?_ | refine blk_alloc ?_ _)); exact BK1774.out) hb)
              have n6_ := Aside0.mk (blk_below (g := gb1775) (o := .cells #[.int .i64 0, .slice none 0 0] 31 (0, 0)) (by (with_reducible repeat (first | refine blk_drewN ?_ _ | refine blk_drew ?_ | refine blk_alloc ?_ _)); exact BK1775.out) hb)
              have n7_ := Aside0.mk (blk_below (g := gb1782) (o := .cells #[.int .i64 (x5_2.length : Int), u1783001] 31 (0, 0)) (by (with_reducible repeat (first | refine blk_drewN ?_ _ | refine blk_drew ?_ | refine blk_alloc ?_ _)); exact BK1782.out) hb)
              have n8_ := Aside0.mk (blk_below (g := gb1784) (o := .cells #[.int .i64 ((rd_T75 l0_1 x8_1).f0), u1785001] 75 (0, 0)) (by (with_reducible repeat (first | refine blk_drewN ?_ _ | refine blk_drew ?_ | refine blk_alloc ?_ _)); exact BK1784.out) hb)
              have n9_ := Aside0.mk (below_step (by repeat (first | (with_reducible first | exact HB.out | apply below_alloc | apply pw_below_drewN | apply below_drew1 | refine below_set ?_ GE1774.out | refine below_set ?_ GE1775.out | refine below_set ?_ GE1782.out | refine below_set ?_ GE1784.out) | exact HB.out)) hb)
              clear HO_5
              clear HO_6
              clear HO_11
              clear HO_1783001
              clear HO_1785001
              clear BK1774
              clear BK1775
              clear BK1782
              clear BK1784
              clear HB
              have HO_5 := n0_
              have HO_6 := n1_
              have HO_11 := n2_
              have HO_1783001 := n3_
              have HO_1785001 := n4_
              have BK1774 := n5_
              have BK1775 := n6_
              have BK1782 := n7_
              have BK1784 := n8_
              have HB := n9_
              clear n0_ n1_ n2_ n3_ n4_ n5_ n6_ n7_ n8_ n9_
              (try clear hb)
              (try clear hb2)
              (try clear hk)
              (try clear hi)
              refine hK.out _ _ ⟨(blk_cell BK1784.out 0).trans rfl, (blk_cell BK1784.out 1).trans rfl, (blk_cell BK1774.out 0).trans rfl, (blk_cell BK1774.out 1).trans rfl, HS4_⟩ (fun hHeld => ?_)
              clear hK K
              refine norm_ (a' := ?_) ?_ ?_
              rotate_left
              ·show Act.put _ (some 71) _ = _
               simp only [Act.put, List.setIfInBounds_toArray, List.set_cons_zero, List.set_cons_succ, i64_w, i32_w]
               rfl
              refine pure_ (i := 7) (N := some 72) (v := ?_) (a' := ?_) #[true, true, true, true, true, true, true, true, false, false, false, false, false] rfl rfl (any_of HT_.out (by kernel_rfl)) (fun _ _ _ h => h) (Or.inl ⟨by rfl, ?_⟩) ?_ ?_
              rotate_left
              ·intro w'
               go_simp
               with_reducible rfl
              rotate_left
              ·simp only [Act.put, List.setIfInBounds_toArray, List.set_cons_zero, List.set_cons_succ, i64_w, i32_w]
               rfl
              refine take_ (i := 8) (N := some 73) (v := ?_) (a' := ?_) #[true, true, true, true, true, true, true, true, true, false, false, false, false] rfl rfl (take_ofW HT_.out HW_.out (by kernel_rfl)) (fun _ _ _ h => h) (Or.inl ⟨by rfl, ?_⟩) hHeld ?_ ?_
              rotate_left
              ·rintro w' ⟨s0, s1, s2, s3, s4⟩
               go_simp
               with_reducible rfl
              rotate_left
              ·simp only [Act.put, List.setIfInBounds_toArray, List.set_cons_zero, List.set_cons_succ, i64_w, i32_w]
               rfl
              refine one_ (i := 9) (N := some 74) #[true, true, true, true, true, true, true, true, true, true, false, false, false] rfl rfl (one_of HT_.out (by kernel_rfl)) (by decide) (fun K hK => ?_)
              refine value_ (w1 := ?_) (v := ?_) (by rfl) rfl ?_ ?_
              rotate_left 2
              ·go_simp
               constructor
               ·rfl
               ·rfl
              refine hK.out _ _ ⟨(blk_cell (blk_alloc BK1784.out _) 0).trans rfl, (blk_cell (blk_alloc BK1784.out _) 1).trans rfl, (blk_cell (blk_alloc BK1774.out _) 0).trans rfl, (blk_cell (blk_alloc BK1774.out _) 1).trans rfl, (World.cell?_alloc_lt _ _ _ (World.block_lt_of_cell? _ _ (hHeld.2.2.2.2))).trans (hHeld.2.2.2.2)⟩ (fun hHeld => ?_)
              clear hK K
              refine norm_ (a' := ?_) ?_ ?_
              rotate_left
              ·show Act.put _ (some 74) _ = _
               simp only [Act.put, List.setIfInBounds_toArray, List.set_cons_zero, List.set_cons_succ, i64_w, i32_w]
               rfl
              refine last_ (i := 10) (N := some 75) #[true, true, true, true, true, true, true, true, true, true, true, false, false] rfl rfl (one_of HT_.out (by kernel_rfl)) (by decide) (fun K hK => ?_)
              refine Kd.R_append_step (Kd.int .i64) (w0 := w) w.heap.size (by rfl) (.tmp 66) (.tmp 74) 25 3 (.int .i64 0) 8 rfl Try.underlying25 info3 rfl (by decide) (by omega) u1785001 x1785001_2 (rd x6_2 t1795) [.int .i64 (rd x6_2 t1795)] (fun k_ => some k_ ≠ (.slice Ao9 x5_2.length co9 : Value).ownBlock ∧ some k_ ≠ (.slice (some ad1796) x6_2.length co47 : Value).ownBlock ∧ some k_ ≠ (.slice Ao44 x11_3.length co44 : Value).ownBlock) (fun _ => False) rfl rfl ?aP (fun _ hk => hk.elim) ?aF ?aO ?aB ?aS ?aL ?_
              (case aP => exact rfl)
              (case aB => exact (by repeat (first | (with_reducible first | exact HB.out | apply below_alloc | apply pw_below_drewN | apply below_drew1 | refine below_set ?_ GE1774.out | refine below_set ?_ GE1775.out | refine below_set ?_ GE1782.out | refine below_set ?_ GE1784.out) | exact HB.out)))
              (case aF => exact (fun k_ hk => ⟨Kd.fresh' (Kd.R_lt (by (with_reducible repeat (first | apply Kd.R_alloc | apply Kd.R_drewN | apply Kd.R_drew)); exact HO_5.out)) k_ hk, Kd.fresh' (Kd.R_lt (by (with_reducible repeat (first | apply Kd.R_alloc | apply Kd.R_drewN | apply Kd.R_drew)); exact HO_6.out)) k_ hk, Kd.fresh' (Kd.R_lt (by (with_reducible repeat (first | apply Kd.R_alloc | apply Kd.R_drewN | apply Kd.R_drew)); exact HO_11.out)) k_ hk⟩))
              (case aO => exact (by (with_reducible repeat (first | apply Kd.R_alloc | apply Kd.R_drewN | apply Kd.R_drew)); exact HO_1785001.out))
              (case aS => exact (below_size (by repeat (first | (with_reducible first | exact HB.out | apply below_alloc | apply pw_below_drewN | apply below_drew1 | refine below_set ?_ GE1774.out | refine below_set ?_ GE1775.out | refine below_set ?_ GE1782.out | refine below_set ?_ GE1784.out) | exact HB.out))))
              (case aL => have := LMc43.out; omega)
              intro v1798 w48 ho hb hg hat
              rw [← Ny1797.out] at ho
              have n0_ := Aside0.mk (Kd.R_after (ok := (fun k_ => some k_ ≠ (.slice (some ad1796) x6_2.length co47 : Value).ownBlock ∧ some k_ ≠ (.slice Ao44 x11_3.length co44 : Value).ownBlock)) (by (with_reducible repeat (first | apply Kd.R_alloc | apply Kd.R_drewN | apply Kd.R_drew)); exact Kd.R_mono HO_5.out (fun _ hk => by first | exact ⟨⟨hk.1, hk.2.1⟩, hk.2.2⟩ | (simp only [ne_eq, hk, not_false_eq_true, and_self]; done))) hg hat)
              have n1_ := Aside0.mk (Kd.R_after (ok := (fun k_ => some k_ ≠ (.slice Ao9 x5_2.length co9 : Value).ownBlock ∧ some k_ ≠ (.slice Ao44 x11_3.length co44 : Value).ownBlock)) (by (with_reducible repeat (first | apply Kd.R_alloc | apply Kd.R_drewN | apply Kd.R_drew)); exact Kd.R_mono HO_6.out (fun _ hk => by first | exact ⟨⟨hk.1, hk.2.1⟩, hk.2.2⟩ | (simp only [ne_eq, hk, not_false_eq_true, and_self]; done))) hg hat)
              have n2_ := Aside0.mk (Kd.R_after (ok := (fun k_ => some k_ ≠ (.slice Ao9 x5_2.length co9 : Value).ownBlock ∧ some k_ ≠ (.slice (some ad1796) x6_2.length co47 : Value).ownBlock)) (by (with_reducible repeat (first | apply Kd.R_alloc | apply Kd.R_drewN | apply Kd.R_drew)); exact Kd.R_mono HO_11.out (fun _ hk => by first | exact ⟨⟨hk.1, hk.2.1⟩, hk.2.2⟩ | (simp only [ne_eq, hk, not_false_eq_true, and_self]; done))) hg hat)
              have n3_ := Aside0.mk (Kd.S_after (ok := (fun k_ => some k_ ≠ (.slice Ao9 x5_2.length co9 : Value).ownBlock ∧ some k_ ≠ (.slice (some ad1796) x6_2.length co47 : Value).ownBlock ∧ some k_ ≠ (.slice Ao44 x11_3.length co44 : Value).ownBlock ∧ k_ ≠ gb1784)) (by (with_reducible repeat (first | apply Kd.S_alloc | apply Kd.S_drewN | apply Kd.S_drew)); exact Kd.S_mono HO_1783001.out (fun _ hk => by first | exact ⟨⟨hk.1, ⟨hk.2.1, ⟨hk.2.2.1, hk.2.2.2.2⟩⟩⟩, hk.2.2.2.1⟩ | (simp only [ne_eq, hk, not_false_eq_true, and_self]; done))) hg hat)
              have n4_ := Aside0.mk (blk_grown (g := gb1774) (o := .cells #[.int .i64 a0_0, .slice (some ad1783) l0_1.length c0_1] 31 (0, 0)) (by (with_reducible repeat (first | refine blk_drewN ?_ _ | refine blk_drew ?_ | refine blk_alloc ?_ _)); exact BK1774.out) hg (Kd.R_ne HO_1785001.out BK1774.out (by decide)))
              have n5_ := Aside0.mk (blk_grown (g := gb1775) (o := .cells #[.int .i64 0, .slice none 0 0] 31 (0, 0)) (by (with_reducible repeat (first | refine blk_drewN ?_ _ | refine blk_drew ?_ | refine blk_alloc ?_ _)); exact BK1775.out) hg (Kd.R_ne HO_1785001.out BK1775.out (by decide)))
              have n6_ := Aside0.mk (blk_grown (g := gb1782) (o := .cells #[.int .i64 (x5_2.length : Int), u1783001] 31 (0, 0)) (by (with_reducible repeat (first | refine blk_drewN ?_ _ | refine blk_drew ?_ | refine blk_alloc ?_ _)); exact BK1782.out) hg (Kd.R_ne HO_1785001.out BK1782.out (by decide)))
              have n7_ := Aside0.mk (blk_grown (g := gb1784) (o := .cells #[.int .i64 ((rd_T75 l0_1 x8_1).f0), u1785001] 75 (0, 0)) (by (with_reducible repeat (first | refine blk_drewN ?_ _ | refine blk_drew ?_ | refine blk_alloc ?_ _)); exact BK1784.out) hg (Kd.R_ne HO_1785001.out BK1784.out (by decide)))
              have n8_ := Aside0.mk (hb)
              have n9_ := Aside0.mk (ho)
              clear HO_5
              clear HO_6
              clear HO_11
              clear HO_1783001
              clear BK1774
              clear BK1775
              clear BK1782
              clear BK1784
              clear HB
              clear HO_1785001
              have HO_5 := n0_
              have HO_6 := n1_
              have HO_11 := n2_
              have HO_1783001 := n3_
              have BK1774 := n4_
              have BK1775 := n5_
              have BK1782 := n6_
              have BK1784 := n7_
              have HB := n8_
              have HO1799 := n9_
              clear n0_ n1_ n2_ n3_ n4_ n5_ n6_ n7_ n8_ n9_
              clear ho hb hg hat
              obtain ⟨Ao49, co49, eo49⟩ := Kd.R_slice HO1799.out
              (first | subst eo49 | (injection eo49 with f1_ f2_ f3_; have f4_ := f1_.symm; have f5_ := f3_.symm; clear f1_ f2_ f3_; subst f4_; subst f5_))
              refine hK.out _ _ ?_
              clear hK K
              refine norm_ (a' := ?_) ?_ ?_
              rotate_left
              ·show Act.put _ (some 75) _ = _
               simp only [Act.put, List.setIfInBounds_toArray, List.set_cons_zero, List.set_cons_succ, i64_w, i32_w]
               rfl
              refine pure_ (i := 11) (N := some 76) (v := ?_) (a' := ?_) #[true, true, true, true, true, true, true, true, true, true, true, true, false] rfl rfl (any_of HT_.out (by kernel_rfl)) (fun _ _ _ h => h) (Or.inl ⟨by rfl, ?_⟩) ?_ ?_
              rotate_left
              ·intro w'
               go_simp
               with_reducible rfl
              rotate_left
              ·simp only [Act.put, List.setIfInBounds_toArray, List.set_cons_zero, List.set_cons_succ, i64_w, i32_w]
               rfl
              refine last_ (i := 12) (N := none) #[true, true, true, true, true, true, true, true, true, true, true, true, true] rfl rfl (one_of HT_.out (by kernel_rfl)) (by decide) (fun K hK => ?_)
              have hs50 : w48.cell? ⟨gb1784, 1, none⟩ = some (u1785001) := (blk_cell BK1784.out 1).trans rfl
              have hfs50 := blk_frozen BK1784.out 1
              have hns50_0 := NB1774_1784.out
              have hns50_1 := NB1775_1784.out
              have hns50_2 := NB1782_1784.out
              have hms50_0 := NB1784_1774.out
              have hms50_1 := NB1784_1775.out
              have hms50_2 := NB1784_1782.out
              refine skip_ (w1 := ?_) (by rfl) rfl ?_ ?_
              rotate_left
              ·go_simp
               rfl
              refine hK.out _ _ ?_
              clear hK K
              refine done_ (done_of HT_.out (by kernel_rfl)) ?_
              try go_wp2
              (try simp only [← hl5_2])
              go_roundg k3
              case measure => have := HK1.out; have := HK2.out; have := HK3.out; omega
              case rel => exact ⟨(x5_2), (x6_2), (wrap64 (x10_2 + 1)), (y1797), (.slice Ao49 y1797.length co49), (by first | rfl | (simp; done) | (simp [*]; done)), H', ⟨by have := HK1.out; have := HK2.out; have := HK3.out; omega⟩, ⟨by (try simp only [hl5_1]); (try simp only [hl5_2]); (with_reducible repeat (first | apply Kd.R_alloc | apply Kd.R_drewN | apply Kd.R_drew)); exact Kd.R_mono (Kd.R_far (p := ⟨gb1784, 1, none⟩) (Kd.R_types HO_5.out BK1784.out (by decide)) (fun _ hk => by first | exact hk.2 | (simp only [ne_eq, hk, not_false_eq_true, and_self]; done)) (.slice Ao49 y1797.length co49)) (fun _ hk => by first | exact ⟨hk.1.1.1, hk.1.2⟩ | (simp only [ne_eq, hk, not_false_eq_true, and_self]; done))⟩, ⟨by (try simp only [hl5_1]); (try simp only [hl5_2]); (with_reducible repeat (first | apply Kd.R_alloc | apply Kd.R_drewN | apply Kd.R_drew)); exact Kd.R_mono (Kd.R_far (p := ⟨gb1784, 1, none⟩) (Kd.R_types HO_6.out BK1784.out (by decide)) (fun _ hk => by first | exact hk.2 | (simp only [ne_eq, hk, not_false_eq_true, and_self]; done)) (.slice Ao49 y1797.length co49)) (fun _ hk => by first | exact ⟨hk.1.1.1, hk.1.2⟩ | (simp only [ne_eq, hk, not_false_eq_true, and_self]; done))⟩, ⟨by (try simp only [hl5_1]); (try simp only [hl5_2]); (with_reducible repeat (first | apply Kd.S_alloc | apply Kd.S_drewN | apply Kd.S_drew)); exact Kd.S_mono (Kd.S_far (p := ⟨gb1784, 1, none⟩) (Kd.S_mono HO_1783001.out (fun k_ hk => (⟨hk, hk.1.2.2.2⟩ : _ ∧ k_ ≠ gb1784))) (fun _ hk => by first | exact hk.2 | (simp only [ne_eq, hk, not_false_eq_true, and_self]; done)) (.slice Ao49 y1797.length co49)) (fun _ hk => by first | exact ⟨hk.1.1.1, ⟨hk.1.1.2.1, ⟨hk.1.2, hk.1.1.2.2.2⟩⟩⟩ | (simp only [ne_eq, hk, not_false_eq_true, and_self]; done))⟩, ⟨by (try simp only [hl5_1]); (try simp only [hl5_2]); (with_reducible repeat (first | apply Kd.R_alloc | apply Kd.R_drewN | apply Kd.R_drew)); exact Kd.R_mono (Kd.R_far (p := ⟨gb1784, 1, none⟩) (Kd.R_types HO1799.out BK1784.out (by decide)) (fun _ hk => by first | exact hk.2 | (simp only [ne_eq, hk, not_false_eq_true, and_self]; done)) (.slice Ao49 y1797.length co49)) (fun _ hk => by first | exact ⟨hk.1.1, hk.1.2.1⟩ | (simp only [ne_eq, hk, not_false_eq_true, and_self]; done))⟩, ⟨by (try simp only [hl5_1]); (try simp only [hl5_2]); (with_reducible repeat (first | refine blk_drewN ?_ _ | refine blk_drew ?_ | refine blk_alloc ?_ _)); refine blk_far ?_ NB1774_1784.out _; (with_reducible repeat (first | refine blk_drewN ?_ _ | refine blk_drew ?_ | refine blk_alloc ?_ _)); exact BK1774.out⟩, ⟨by (try simp only [hl5_1]); (try simp only [hl5_2]); (with_reducible repeat (first | refine blk_drewN ?_ _ | refine blk_drew ?_ | refine blk_alloc ?_ _)); refine blk_far ?_ NB1775_1784.out _; (with_reducible repeat (first | refine blk_drewN ?_ _ | refine blk_drew ?_ | refine blk_alloc ?_ _)); exact BK1775.out⟩, ⟨by (try simp only [hl5_1]); (try simp only [hl5_2]); (with_reducible repeat (first | refine blk_drewN ?_ _ | refine blk_drew ?_ | refine blk_alloc ?_ _)); refine blk_far ?_ NB1782_1784.out _; (with_reducible repeat (first | refine blk_drewN ?_ _ | refine blk_drew ?_ | refine blk_alloc ?_ _)); exact BK1782.out⟩, ⟨by (try simp only [hl5_1]); (try simp only [hl5_2]); (with_reducible repeat (first | refine blk_drewN ?_ _ | refine blk_drew ?_ | refine blk_alloc ?_ _)); refine blk_put (cs := #[.int .i64 ((rd_T75 l0_1 x8_1).f0), u1785001]) ?_ 1 _ rfl; (with_reducible repeat (first | refine blk_drewN ?_ _ | refine blk_drew ?_ | refine blk_alloc ?_ _)); exact BK1784.out⟩, ⟨by repeat (first | (with_reducible first | exact HB.out | apply below_alloc | apply pw_below_drewN | apply below_drew1 | refine below_set ?_ GE1774.out | refine below_set ?_ GE1775.out | refine below_set ?_ GE1782.out | refine below_set ?_ GE1784.out) | exact HB.out)⟩⟩
             ·rw [if_neg c43] at H
              exact absurd H (by simp)
            ·rw [if_neg c42] at H
             exact absurd H (by simp)
           ·rw [if_neg c41] at H
            exact absurd H (by simp)
       ·rw [if_neg c25] at H
        have c25b0 : decide (x10_2 < t1785) = false := decide_eq_false c25
        clear c25
        by_cases c51 : x1783001_1.length < 4398046511104
        ·rw [if_pos c51] at H
         have LMc51 := Aside0.mk c51
         clear c51
         obtain ⟨y1786, hy1786⟩ : ∃ y_ : List (S75), y_ = (x1783001_1 ++ [(⟨((rd_T75 l0_1 x8_1).f0), x1785001_2⟩ : S75)]) := ⟨_, rfl⟩
         replace H : (spec_l9Quotient.l0 k2 x5_2 x6_2 (wrap64 (x8_1 + 1)) a0_0 l0_1 (t1776.length : Int) y1786) = some (r1, r2) := by first | (rw [hy1786]; with_reducible exact H) | (have H2_ := (Option.bind_some _ _).symm.trans H; rw [hy1786]; with_reducible exact H2_) | (have H2_ := (Option.bind_some _ _).symm.trans H; with_reducible exact H2_) | with_reducible exact H | (rw [hy1786]; exact H) | exact H
         have Ny1786 := Aside0.mk hy1786
         clear hy1786
         have H' := Aside0.mk H
         clear H
         have hnb52 := NB1784_1774.out
         have hnc52 := NB1774_1784.out
         have hnb53 := NB1784_1775.out
         have hnc53 := NB1775_1784.out
         have hnb54 := NB1784_1782.out
         have hnc54 := NB1782_1784.out
         have hcz55_0 : wr.cell? ⟨gb1784, 0, none⟩ = some (.int .i64 ((rd_T75 l0_1 x8_1).f0)) := (blk_cell BK1784.out 0).trans rfl
         have hcz55_1 : wr.cell? ⟨gb1784, 1, none⟩ = some (u1785001) := (blk_cell BK1784.out 1).trans rfl
         have hfz55_0 := blk_frozen BK1784.out 0
         have hfz55_1 := blk_frozen BK1784.out 1
         go_wp2_with (first | ((with_reducible refine gate_callee (f := 131) rfl ?_); refine goesL_ (some 39) rfl rfl Try.func131 (by kernel_rfl) rfl #[.int .i64 (x5_2.length : Int), .int .i64 ((rd_T75 l0_1 x8_1).f0)] rfl (by (try simp only [List.map_toArray, List.map_cons, List.map_nil]); first | done | rfl | (simp only [List.length_drop, List.length_take]; rfl)) ?_; (with_reducible refine (spec_l2Pow.calls k2 (x5_2.length : Int) ((rd_T75 l0_1 x8_1).f0) t1785 _ A24.out).mono ?_); rintro e w' ⟨rfl, ⟨nd, rfl⟩⟩; refine ⟨_, rfl, ?_⟩; (try (rw [drewN_self wr]; generalize hq_ : World.drewN wr _ = wr; have n0_ : Aside0 (Kd.S k75 75 wr w.heap.size (fun k_ => some k_ ≠ (u1785001 : Value).ownBlock ∧ some k_ ≠ (.slice Ao9 x5_2.length co9 : Value).ownBlock ∧ some k_ ≠ (v1780 : Value).ownBlock ∧ k_ ≠ gb1784) u1783001 x1783001_1) := ⟨by rw [← hq_]; exact (by (with_reducible repeat (first | apply Kd.S_alloc | apply Kd.S_drewN | apply Kd.S_drew)); exact Kd.S_mono HO_1783001.out (fun _ hk => by first | exact ⟨hk.2.2.1, ⟨hk.1, ⟨hk.2.1, hk.2.2.2⟩⟩⟩ | (simp only [ne_eq, hk, not_false_eq_true, and_self]; done)))⟩; have n1_ : Aside0 (Kd.R (Kd.int .i64) 3 wr w.heap.size (fun k_ => some k_ ≠ (.slice Ao9 x5_2.length co9 : Value).ownBlock ∧ some k_ ≠ (v1780 : Value).ownBlock) u1785001 x1785001_2) := ⟨by rw [← hq_]; exact (by (with_reducible repeat (first | apply Kd.R_alloc | apply Kd.R_drewN | apply Kd.R_drew)); exact HO_1785001.out)⟩; have n2_ : Aside0 (Kd.R (Kd.int .i64) 3 wr w.heap.size (fun k_ => some k_ ≠ (u1785001 : Value).ownBlock ∧ some k_ ≠ (v1780 : Value).ownBlock) (.slice Ao9 x5_2.length co9) x5_2) := ⟨by rw [← hq_]; exact (by (with_reducible repeat (first | apply Kd.R_alloc | apply Kd.R_drewN | apply Kd.R_drew)); exact Kd.R_mono HO_5.out (fun _ hk => by first | exact ⟨hk.2, hk.1⟩ | (simp only [ne_eq, hk, not_false_eq_true, and_self]; done)))⟩; have n3_ : Aside0 (Kd.R (Kd.int .i64) 3 wr w.heap.size (fun k_ => some k_ ≠ (u1785001 : Value).ownBlock ∧ some k_ ≠ (.slice Ao9 x5_2.length co9 : Value).ownBlock) v1780 x6_2) := ⟨by rw [← hq_]; exact (by (with_reducible repeat (first | apply Kd.R_alloc | apply Kd.R_drewN | apply Kd.R_drew)); exact Kd.R_mono HO_6.out (fun _ hk => by first | exact ⟨hk.2, hk.1⟩ | (simp only [ne_eq, hk, not_false_eq_true, and_self]; done)))⟩; have n4_ : Aside0 (wr.heap[gb1774]? = some (.cells #[.int .i64 a0_0, .slice (some ad1783) l0_1.length c0_1] 31 (0, 0))) := ⟨by rw [← hq_]; exact (by (with_reducible repeat (first | refine blk_drewN ?_ _ | refine blk_drew ?_ | refine blk_alloc ?_ _)); exact BK1774.out)⟩; have n5_ : Aside0 (wr.heap[gb1775]? = some (.cells #[.int .i64 0, .slice none 0 0] 31 (0, 0))) := ⟨by rw [← hq_]; exact (by (with_reducible repeat (first | refine blk_drewN ?_ _ | refine blk_drew ?_ | refine blk_alloc ?_ _)); exact BK1775.out)⟩; have n6_ : Aside0 (wr.heap[gb1782]? = some (.cells #[.int .i64 (x5_2.length : Int), u1783001] 31 (0, 0))) := ⟨by rw [← hq_]; exact (by (with_reducible repeat (first | refine blk_drewN ?_ _ | refine blk_drew ?_ | refine blk_alloc ?_ _)); exact BK1782.out)⟩; have n7_ : Aside0 (wr.heap[gb1784]? = some (.cells #[.int .i64 ((rd_T75 l0_1 x8_1).f0), u1785001] 75 (0, 0))) := ⟨by rw [← hq_]; exact (by (with_reducible repeat (first | refine blk_drewN ?_ _ | refine blk_drew ?_ | refine blk_alloc ?_ _)); exact BK1784.out)⟩; have n8_ : Aside0 (Below w.heap.size w wr) := ⟨by rw [← hq_]; exact (by repeat (first | (with_reducible first | exact HB.out | apply below_alloc | apply pw_below_drewN | apply below_drew1 | refine below_set ?_ GE1774.out | refine below_set ?_ GE1775.out | refine below_set ?_ GE1782.out | refine below_set ?_ GE1784.out) | exact HB.out))⟩; clear HO_1783001 HO_1785001 HO_5 HO_6 BK1774 BK1775 BK1782 BK1784 HB hq_; have HO_1783001 := n0_; have HO_1785001 := n1_; have HO_5 := n2_; have HO_6 := n3_; have BK1774 := n4_; have BK1775 := n5_; have BK1782 := n6_; have BK1784 := n7_; have HB := n8_; clear n0_ n1_ n2_ n3_ n4_ n5_ n6_ n7_ n8_; have hczq_gb1774_0 : wr.cell? ⟨gb1774, 0, none⟩ = some (.int .i64 a0_0) := (blk_cell BK1774.out 0).trans rfl; have hfzq_gb1774_0 := blk_frozen BK1774.out 0; have hczq_gb1774_1 : wr.cell? ⟨gb1774, 1, none⟩ = some (.slice (some ad1783) l0_1.length c0_1) := (blk_cell BK1774.out 1).trans rfl; have hfzq_gb1774_1 := blk_frozen BK1774.out 1; have hczq_gb1775_0 : wr.cell? ⟨gb1775, 0, none⟩ = some (.int .i64 0) := (blk_cell BK1775.out 0).trans rfl; have hfzq_gb1775_0 := blk_frozen BK1775.out 0; have hczq_gb1775_1 : wr.cell? ⟨gb1775, 1, none⟩ = some (.slice none 0 0) := (blk_cell BK1775.out 1).trans rfl; have hfzq_gb1775_1 := blk_frozen BK1775.out 1; have hczq_gb1782_0 : wr.cell? ⟨gb1782, 0, none⟩ = some (.int .i64 (x5_2.length : Int)) := (blk_cell BK1782.out 0).trans rfl; have hfzq_gb1782_0 := blk_frozen BK1782.out 0; have hczq_gb1782_1 : wr.cell? ⟨gb1782, 1, none⟩ = some (u1783001) := (blk_cell BK1782.out 1).trans rfl; have hfzq_gb1782_1 := blk_frozen BK1782.out 1; have hczq_gb1784_0 : wr.cell? ⟨gb1784, 0, none⟩ = some (.int .i64 ((rd_T75 l0_1 x8_1).f0)) := (blk_cell BK1784.out 0).trans rfl; have hfzq_gb1784_0 := blk_frozen BK1784.out 0; have hczq_gb1784_1 : wr.cell? ⟨gb1784, 1, none⟩ = some (u1785001) := (blk_cell BK1784.out 1).trans rfl; have hfzq_gb1784_1 := blk_frozen BK1784.out 1)); have hnb56 := NB1782_1774.out; have hnc56 := NB1774_1782.out; have hnb57 := NB1782_1775.out; have hnc57 := NB1775_1782.out; have hcz58_0 : wr.cell? ⟨gb1782, 0, none⟩ = some (.int .i64 (x5_2.length : Int)) := (blk_cell BK1782.out 0).trans rfl; have hcz58_1 : wr.cell? ⟨gb1782, 1, none⟩ = some (u1783001) := (blk_cell BK1782.out 1).trans rfl; have hfz58_0 := blk_frozen BK1782.out 0; have hfz58_1 := blk_frozen BK1782.out 1; obtain ⟨Ao60, co60, eo60⟩ := Kd.R_slice HO_1785001.out; subst eo60) | ((with_reducible refine gate_builtin (b := .append) (xs := #[.tmp 78, .tmp 80]) rfl ?_); at_builtin; refine Kd.S_append k75 (w0 := w) w.heap.size rfl (.tmp 78) (.tmp 80) 29 75 (.agg #[(.int .i64 0), (.slice none 0 0)]) 32 rfl Try.underlying29 info75 rfl (by decide) (by omega) u1783001 x1783001_1 (⟨((rd_T75 l0_1 x8_1).f0), x1785001_2⟩ : S75) [.int .i64 ((rd_T75 l0_1 x8_1).f0), .slice Ao60 x1785001_2.length co60] (fun k_ => some k_ ≠ (.slice Ao9 x5_2.length co9 : Value).ownBlock ∧ some k_ ≠ (v1780 : Value).ownBlock ∧ k_ ≠ gb1784) (fun k_ => some k_ = (.slice Ao60 x1785001_2.length co60 : Value).ownBlock) rfl rfl ?aP (fun k_ hk_ => ((Kd.R_mono (ok' := fun k_ => ((fun k_ => some k_ ≠ (.slice Ao9 x5_2.length co9 : Value).ownBlock ∧ some k_ ≠ (v1780 : Value).ownBlock ∧ k_ ≠ gb1784)) k_ ∧ some k_ ≠ (u1783001 : Value).ownBlock) (Kd.R_types (Kd.R_apart' (HO_1785001.out) (Kd.S_typed HO_1783001.out) (by decide)) BK1784.out (by decide)) (fun k_ hk => ⟨⟨hk.1.1.1, ⟨hk.1.1.2, hk.2⟩⟩, hk.1.2⟩))).1 k_ hk_.symm) ?aF ?aO ?aB ?aS ?aL ?_; (case aP => exact k75_mkM _ _ _ (⟨((rd_T75 l0_1 x8_1).f0), x1785001_2⟩ : S75) (Kd.R_mono (Kd.R_tight rfl (Kd.R_mono (ok' := fun k_ => ((fun k_ => some k_ ≠ (.slice Ao9 x5_2.length co9 : Value).ownBlock ∧ some k_ ≠ (v1780 : Value).ownBlock ∧ k_ ≠ gb1784)) k_ ∧ some k_ ≠ (u1783001 : Value).ownBlock) (Kd.R_types (Kd.R_apart' (HO_1785001.out) (Kd.S_typed HO_1783001.out) (by decide)) BK1784.out (by decide)) (fun k_ hk => ⟨⟨hk.1.1.1, ⟨hk.1.1.2, hk.2⟩⟩, hk.1.2⟩))) (fun _ h_ => h_))); (case aB => exact (by repeat (first | (with_reducible first | exact HB.out | apply below_alloc | apply pw_below_drewN | apply below_drew1 | refine below_set ?_ GE1774.out | refine below_set ?_ GE1775.out | refine below_set ?_ GE1782.out | refine below_set ?_ GE1784.out) | exact HB.out))); (case aF => exact (fun k_ hk => ⟨Kd.fresh' (Kd.R_lt (by (with_reducible repeat (first | apply Kd.R_alloc | apply Kd.R_drewN | apply Kd.R_drew)); exact HO_5.out)) k_ hk, Kd.fresh' (Kd.R_lt (by (with_reducible repeat (first | apply Kd.R_alloc | apply Kd.R_drewN | apply Kd.R_drew)); exact HO_6.out)) k_ hk, Kd.freshB (g := gb1784) (o := .cells #[.int .i64 ((rd_T75 l0_1 x8_1).f0), .slice Ao60 x1785001_2.length co60] 75 (0, 0)) (by (with_reducible repeat (first | refine blk_drewN ?_ _ | refine blk_drew ?_ | refine blk_alloc ?_ _)); exact BK1784.out) k_ hk⟩)); (case aO => exact (by (with_reducible repeat (first | apply Kd.S_alloc | apply Kd.S_drewN | apply Kd.S_drew)); exact Kd.S_mono HO_1783001.out (fun k_ hk => by first | exact ⟨⟨hk.1, ⟨hk.2.1, hk.2.2.2⟩⟩, fun e_ => hk.2.2.1 e_⟩ | (simp [hk]; done) | (simp_all; done)))); (case aS => exact (below_size (by repeat (first | (with_reducible first | exact HB.out | apply below_alloc | apply pw_below_drewN | apply below_drew1 | refine below_set ?_ GE1774.out | refine below_set ?_ GE1775.out | refine below_set ?_ GE1782.out | refine below_set ?_ GE1784.out) | exact HB.out)))); (case aL => have := LMc51.out; omega); intro v1787 w59 ho hb hg hat; rw [← Ny1786.out] at ho; have n0_ := Aside0.mk (Kd.R_over' (by (with_reducible repeat (first | apply Kd.R_alloc | apply Kd.R_drewN | apply Kd.R_drew)); exact HO_5.out) (Kd.S_typed (by (with_reducible repeat (first | apply Kd.S_alloc | apply Kd.S_drewN | apply Kd.S_drew)); exact HO_1783001.out)) (by decide) hg); have n1_ := Aside0.mk (Kd.R_over' (by (with_reducible repeat (first | apply Kd.R_alloc | apply Kd.R_drewN | apply Kd.R_drew)); exact HO_6.out) (Kd.S_typed (by (with_reducible repeat (first | apply Kd.S_alloc | apply Kd.S_drewN | apply Kd.S_drew)); exact HO_1783001.out)) (by decide) hg); have n2_ := Aside0.mk (blk_grown (g := gb1774) (o := .cells #[.int .i64 a0_0, .slice (some ad1783) l0_1.length c0_1] 31 (0, 0)) (by (with_reducible repeat (first | refine blk_drewN ?_ _ | refine blk_drew ?_ | refine blk_alloc ?_ _)); exact BK1774.out) hg (Kd.S_ne HO_1783001.out BK1774.out (by decide))); have n3_ := Aside0.mk (blk_grown (g := gb1775) (o := .cells #[.int .i64 0, .slice none 0 0] 31 (0, 0)) (by (with_reducible repeat (first | refine blk_drewN ?_ _ | refine blk_drew ?_ | refine blk_alloc ?_ _)); exact BK1775.out) hg (Kd.S_ne HO_1783001.out BK1775.out (by decide))); have n4_ := Aside0.mk (blk_grown (g := gb1782) (o := .cells #[.int .i64 (x5_2.length : Int), u1783001] 31 (0, 0)) (by (with_reducible repeat (first | refine blk_drewN ?_ _ | refine blk_drew ?_ | refine blk_alloc ?_ _)); exact BK1782.out) hg (Kd.S_ne HO_1783001.out BK1782.out (by decide))); have n5_ := Aside0.mk (blk_grown (g := gb1784) (o := .cells #[.int .i64 ((rd_T75 l0_1 x8_1).f0), .slice Ao60 x1785001_2.length co60] 75 (0, 0)) (by (with_reducible repeat (first | refine blk_drewN ?_ _ | refine blk_drew ?_ | refine blk_alloc ?_ _)); exact BK1784.out) hg (Kd.S_away HO_1783001.out (fun _ hk => by first | exact hk.2.2.2 | (simp only [ne_eq, hk, not_false_eq_true, and_self]; done)))); have n6_ := Aside0.mk (hb); have n7_ := Aside0.mk (ho); clear HO_5; clear HO_6; clear BK1774; clear BK1775; clear BK1782; clear BK1784; clear HB; clear HO_1783001; clear HO_1785001; have HO_5 := n0_; have HO_6 := n1_; have BK1774 := n2_; have BK1775 := n3_; have BK1782 := n4_; have BK1784 := n5_; have HB := n6_; have HO1788 := n7_; clear n0_ n1_ n2_ n3_ n4_ n5_ n6_ n7_; clear ho hb hg hat; obtain ⟨Ao61, co61, eo61⟩ := Kd.S_slice HO1788.out; subst eo61; have hcz62_0 : w59.cell? ⟨gb1782, 0, none⟩ = some (.int .i64 (x5_2.length : Int)) := (blk_cell BK1782.out 0).trans rfl; have hcz62_1 : w59.cell? ⟨gb1782, 1, none⟩ = some (u1783001) := (blk_cell BK1782.out 1).trans rfl; have hfz62_0 := blk_frozen BK1782.out 0; have hfz62_1 := blk_frozen BK1782.out 1))
         (try simp only [← hl5_1, ← hl5_2])
         go_roundg k2
         case measure => have := HK1.out; have := HK2.out; omega
         case rel => exact ⟨(x5_2), (x6_2), (wrap64 (x8_1 + 1)), (y1786), (.slice Ao61 y1786.length co61), (by first | rfl | (simp; done) | (simp [*]; done)), H', ⟨by have := HK1.out; have := HK2.out; omega⟩, ⟨by (try simp only [hl5_1]); (try simp only [hl5_2]); (with_reducible repeat (first | apply Kd.R_alloc | apply Kd.R_drewN | apply Kd.R_drew)); exact Kd.R_mono (Kd.R_far (p := ⟨gb1782, 1, none⟩) (Kd.R_types HO_5.out BK1782.out (by decide)) (fun _ hk => by first | exact hk.2 | (simp only [ne_eq, hk, not_false_eq_true, and_self]; done)) (.slice Ao61 y1786.length co61)) (fun _ hk => by first | exact hk.1.1 | (simp only [ne_eq, hk, not_false_eq_true, and_self]; done))⟩, ⟨by (try simp only [hl5_1]); (try simp only [hl5_2]); (with_reducible repeat (first | apply Kd.R_alloc | apply Kd.R_drewN | apply Kd.R_drew)); exact Kd.R_mono (Kd.R_far (p := ⟨gb1782, 1, none⟩) (Kd.R_types HO_6.out BK1782.out (by decide)) (fun _ hk => by first | exact hk.2 | (simp only [ne_eq, hk, not_false_eq_true, and_self]; done)) (.slice Ao61 y1786.length co61)) (fun _ hk => by first | exact hk.1.1 | (simp only [ne_eq, hk, not_false_eq_true, and_self]; done))⟩, ⟨by (try simp only [hl5_1]); (try simp only [hl5_2]); (with_reducible repeat (first | apply Kd.S_alloc | apply Kd.S_drewN | apply Kd.S_drew)); exact Kd.S_mono (Kd.S_far (p := ⟨gb1782, 1, none⟩) (Kd.S_types HO1788.out BK1782.out (by decide)) (fun _ hk => by first | exact hk.2 | (simp only [ne_eq, hk, not_false_eq_true, and_self]; done)) (.slice Ao61 y1786.length co61)) (fun _ hk => by first | exact ⟨hk.1.1, hk.1.2.1⟩ | (simp only [ne_eq, hk, not_false_eq_true, and_self]; done))⟩, ⟨by (try simp only [hl5_1]); (try simp only [hl5_2]); (with_reducible repeat (first | refine blk_drewN ?_ _ | refine blk_drew ?_ | refine blk_alloc ?_ _)); refine blk_far ?_ NB1774_1782.out _; (with_reducible repeat (first | refine blk_drewN ?_ _ | refine blk_drew ?_ | refine blk_alloc ?_ _)); exact BK1774.out⟩, ⟨by (try simp only [hl5_1]); (try simp only [hl5_2]); (with_reducible repeat (first | refine blk_drewN ?_ _ | refine blk_drew ?_ | refine blk_alloc ?_ _)); refine blk_far ?_ NB1775_1782.out _; (with_reducible repeat (first | refine blk_drewN ?_ _ | refine blk_drew ?_ | refine blk_alloc ?_ _)); exact BK1775.out⟩, ⟨by (try simp only [hl5_1]); (try simp only [hl5_2]); (with_reducible repeat (first | refine blk_drewN ?_ _ | refine blk_drew ?_ | refine blk_alloc ?_ _)); refine blk_put (cs := #[.int .i64 (x5_2.length : Int), u1783001]) ?_ 1 _ rfl; (with_reducible repeat (first | refine blk_drewN ?_ _ | refine blk_drew ?_ | refine blk_alloc ?_ _)); exact BK1782.out⟩, ⟨by repeat (first | (with_reducible first | exact HB.out | apply below_alloc | apply pw_below_drewN | apply below_drew1 | refine below_set ?_ GE1774.out | refine below_set ?_ GE1775.out | refine below_set ?_ GE1782.out | refine below_set ?_ GE1784.out) | exact HB.out)⟩⟩
        ·rw [if_neg c51] at H
         exact absurd H (by simp)
    ·rw [if_neg c15] at H
     exact absurd H (by simp)
   ·rw [if_neg c14] at H
    have c14b0 : decide (x8_1 < (l0_1.length : Int)) = false := decide_eq_false c14
    (try simp only [hl5_1] at c14b0)
    clear c14
    simp only [Option.some.injEq, Prod.mk.injEq] at H
    obtain ⟨rfl, rfl⟩ := H
    have hnb63 := NB1774_1775.out
    have hnc63 := NB1775_1774.out
    have hnb64 := NB1774_1782.out
    have hnc64 := NB1782_1774.out
    have hcz65_0 : wr.cell? ⟨gb1774, 0, none⟩ = some (.int .i64 a0_0) := (blk_cell BK1774.out 0).trans rfl
    have hcz65_1 : wr.cell? ⟨gb1774, 1, none⟩ = some (.slice A0_1 l0_1.length c0_1) := (blk_cell BK1774.out 1).trans rfl
    have hfz65_0 := blk_frozen BK1774.out 0
    have hfz65_1 := blk_frozen BK1774.out 1
    have hnb66 := NB1782_1775.out
    have hnc66 := NB1775_1782.out
    have hcz67_0 : wr.cell? ⟨gb1782, 0, none⟩ = some (.int .i64 (x5_1.length : Int)) := (blk_cell BK1782.out 0).trans rfl
    have hcz67_1 : wr.cell? ⟨gb1782, 1, none⟩ = some (u1783001) := (blk_cell BK1782.out 1).trans rfl
    have hfz67_0 := blk_frozen BK1782.out 0
    have hfz67_1 := blk_frozen BK1782.out 1
    have hcz68_0 : wr.cell? ⟨gb1775, 0, none⟩ = some (.int .i64 0) := (blk_cell BK1775.out 0).trans rfl
    have hcz68_1 : wr.cell? ⟨gb1775, 1, none⟩ = some (.slice none 0 0) := (blk_cell BK1775.out 1).trans rfl
    have hfz68_0 := blk_frozen BK1775.out 0
    have hfz68_1 := blk_frozen BK1775.out 1
    obtain ⟨Ao69, co69, eo69⟩ := Kd.S_slice HO_1783001.out
    subst eo69
    go_wp2
    refine bodyPost_ret (results_cell_row rfl _ _ gb1775 31 #[.int .i64 (x5_1.length : Int), .slice Ao69 x1783001_1.length co69] (0, 0) _ rfl (by (with_reducible repeat (first | refine blk_drewN ?_ _ | refine blk_drew ?_ | refine blk_alloc ?_ _)); refine blk_put (cs := #[.int .i64 (x5_1.length : Int), .slice none 0 0]) ?_ 1 _ rfl; (with_reducible repeat (first | refine blk_drewN ?_ _ | refine blk_drew ?_ | refine blk_alloc ?_ _)); refine blk_put (cs := #[.int .i64 0, .slice none 0 0]) ?_ 0 _ rfl; (with_reducible repeat (first | refine blk_drewN ?_ _ | refine blk_drew ?_ | refine blk_alloc ?_ _)); exact BK1775.out) Try.underlying31 rfl (by kernel_rfl)) rfl ?_
    exact ⟨_, by first | rfl | (simp [errW_none, errW_some] <;> rfl) | (simp [*, errW_none, errW_some] <;> rfl), by (with_reducible repeat (first | apply Kd.S_alloc | apply Kd.S_drewN | apply Kd.S_drew)); exact Kd.S_mono (Kd.S_far (p := ⟨gb1775, 1, none⟩) (Kd.S_far (p := ⟨gb1775, 0, none⟩) (Kd.S_types HO_1783001.out BK1775.out (by decide)) (fun _ hk => hk.2) (.int .i64 (x5_1.length : Int))) (fun _ hk => hk.2) (.slice Ao69 x1783001_1.length co69)) (fun _ hk => trivial), by repeat (first | (with_reducible first | exact HB.out | apply below_alloc | apply pw_below_drewN | apply below_drew1 | refine below_set ?_ GE1774.out | refine below_set ?_ GE1775.out | refine below_set ?_ GE1782.out) | exact HB.out)⟩
end Go.Proofs.Ytnnbgfphinemfaa.Q

namespace Go.Proofs.Ytnnbgfphinemfaa.Q
open Go.RowKit Go.Proofs.YtnnbgfphinemfaaW.PrintWords Go.Proofs.YtnnbgfphinemfaaW.PrintLast Go.Proofs.YtnnbgfphinemfaaW.PrintMore
attribute [local go_sem] max2_int min2_int max_two min_two max_three min_three max_four min_four
set_option linter.unusedVariables false
set_option linter.unusedSimpArgs false
mutual
def spec_l9Kernel.l0 : Nat → List Int → List Int → Int → Option (List Int)
 | 0, _, _, _ => none
 | k + 1, x0, x3, x4 => if x4 < (x0.length : Int) then (spec_l9Kernel.l1 k x0 x3 x4 0) else (some x3)
def spec_l9Kernel.l1 : Nat → List Int → List Int → Int → Int → Option (List Int)
 | 0, _, _, _, _ => none
 | k + 1, x0, x3, x4, x5 => if 0 ≤ x5 then (if x5 < (x0.length : Int) then (if 0 ≤ x4 then (if x4 < (x0.length : Int) then (if (rd x0 x5) = (rd x0 x4) then (if x3.length < 17592186044416 then (spec_l9Kernel.l0 k x0 (x3 ++ [x5]) (wrap64 (x4 + 1))) else (none)) else (spec_l9Kernel.l1 k x0 x3 x4 (wrap64 (x5 + 1)))) else (none)) else (none)) else (none)) else (none)
end
def spec_l9Kernel.f (k : Nat) (l0 : List Int) : Option (List Int) := spec_l9Kernel.l0 k l0 (([] : List Int)) 0
theorem spec_l9Kernel.mono_l : ∀ k, (∀ y0 y1 y2, LeO (spec_l9Kernel.l0 k y0 y1 y2) (spec_l9Kernel.l0 (k + 1) y0 y1 y2)) ∧ (∀ y0 y1 y2 y3, LeO (spec_l9Kernel.l1 k y0 y1 y2 y3) (spec_l9Kernel.l1 (k + 1) y0 y1 y2 y3))
 | 0 => ⟨fun _ _ _ r h => by simp [spec_l9Kernel.l0] at h, fun _ _ _ _ r h => by simp [spec_l9Kernel.l1] at h⟩
 | k + 1 => by
  obtain ⟨ih0, ih1⟩ := spec_l9Kernel.mono_l k
  refine ⟨?_, ?_⟩
  ·intro y0 y1 y2
   unfold spec_l9Kernel.l0
   repeat' first
   | (with_reducible exact ih0 _ _ _)
   | (with_reducible exact ih1 _ _ _ _)
   | (with_reducible exact LeO.refl _)
   | (with_reducible exact LeO.none _)
   | (with_reducible refine LeO.ite ?_ ?_)
   | (with_reducible refine LeO.bind ?_ (fun _ => ?_))
   | exact ih0 _ _ _
   | exact ih1 _ _ _ _
   | exact LeO.none _
   | refine LeO.ite ?_ ?_
   | refine LeO.bind ?_ (fun _ => ?_)
  ·intro y0 y1 y2 y3
   unfold spec_l9Kernel.l1
   repeat' first
   | (with_reducible exact ih0 _ _ _)
   | (with_reducible exact ih1 _ _ _ _)
   | (with_reducible exact LeO.refl _)
   | (with_reducible exact LeO.none _)
   | (with_reducible refine LeO.ite ?_ ?_)
   | (with_reducible refine LeO.bind ?_ (fun _ => ?_))
   | exact ih0 _ _ _
   | exact ih1 _ _ _ _
   | exact LeO.none _
   | refine LeO.ite ?_ ?_
   | refine LeO.bind ?_ (fun _ => ?_)
theorem spec_l9Kernel.mono : ∀ a0 k, LeO (spec_l9Kernel.f k a0) (spec_l9Kernel.f (k + 1) a0) := by
 intro a0 k
 obtain ⟨ih0, ih1⟩ := spec_l9Kernel.mono_l k
 unfold spec_l9Kernel.f
 repeat' first
   | (with_reducible exact ih0 _ _ _)
   | (with_reducible exact ih1 _ _ _ _)
   | (with_reducible exact LeO.refl _)
   | (with_reducible exact LeO.none _)
   | (with_reducible refine LeO.ite ?_ ?_)
   | (with_reducible refine LeO.bind ?_ (fun _ => ?_))
   | exact ih0 _ _ _
   | exact ih1 _ _ _ _
   | exact LeO.none _
   | refine LeO.ite ?_ ?_
   | refine LeO.bind ?_ (fun _ => ?_)
set_option maxHeartbeats 8000000 in
set_option maxRecDepth 100000 in
theorem spec_l9Kernel.calls (k : Nat) (A0 : Option Addr) (c0 : Nat) (l0 : List Int) (r : List Int) (w : World) (hr0 : Kd.C (Kd.int .i64) w A0 l0.length l0) (hc0 : l0.length ≤ c0) (h : spec_l9Kernel.f k l0 = some r) :
  Calls Try.prog 161 #[.slice A0 l0.length c0] w fun e w' => ∃ v0_ : Value, e = .returned (v0_) ∧ Kd.R (Kd.int .i64) 3 w' w.heap.size (fun _ => True) v0_ r ∧ Below w.heap.size w w' := by
 have HR0 := Aside0.mk hr0
 have HC0 := Aside0.mk hc0
 clear hr0 hc0
 have HB := Aside0.mk (Below.refl w.heap.size w)
 have H : (spec_l9Kernel.l0 k l0 (([] : List Int)) 0) = some r := h
 clear h
 obtain ⟨y1544, hy1544⟩ : ∃ y_ : List Int, y_ = (([] : List Int)) := ⟨_, rfl⟩
 replace H : (spec_l9Kernel.l0 k l0 y1544 0) = some r := by first | (rw [hy1544]; with_reducible exact H) | (have H2_ := (Option.bind_some _ _).symm.trans H; rw [hy1544]; with_reducible exact H2_) | (have H2_ := (Option.bind_some _ _).symm.trans H; with_reducible exact H2_) | with_reducible exact H | (rw [hy1544]; exact H) | exact H
 have Ny1544 := Aside0.mk hy1544
 clear hy1544
 have H' := Aside0.mk H
 clear H
 go_enter Try.func161, Try.ntmps161
 go_wp2_with (first | ((with_reducible refine gate_dst (N := 6) rfl ?_); refine Kd.R_lit (Kd.int .i64) _ 3 ?hg (N := 6) ?hd (xs := ([] : List Int)) (inner := []) (ok := fun _ => True) (okp := fun _ => True) ?hr ?hp (fun _ hk => hk) trivial (Below.refl _ _) (Nat.le_refl _) (by simp) ?_; (case hd => rfl); (case hg => rfl); (case hr => first | (go_simp; done) | (go_simp; rfl)); (case hp => exact (Reps.none _ _)); intro v1545 w2 ho3 hb hg_ hnew_; clear hg_ hnew_; (first | rw [← Ny1544.out] at ho3 | (simp only [Int.reduceToNat] at ho3; rw [← Ny1544.out] at ho3)); have n0_ := Aside0.mk (Kd.R_lower ho3 (below_size (by repeat (first | (with_reducible first | exact HB.out | apply below_alloc | apply pw_below_drewN | apply below_drew1) | exact HB.out)))); have n1_ := Aside0.mk (below_step (by repeat (first | (with_reducible first | exact HB.out | apply below_alloc | apply pw_below_drewN | apply below_drew1) | exact HB.out)) hb); clear HB; have HO1546 := n0_; have HB := n1_; clear n0_ n1_; clear hb ho3))
 repeat (go_quiet (first | ((with_reducible refine gate_dst (N := 6) rfl ?_); refine Kd.R_lit (Kd.int .i64) _ 3 ?hg (N := 6) ?hd (xs := ([] : List Int)) (inner := []) (ok := fun _ => True) (okp := fun _ => True) ?hr ?hp (fun _ hk => hk) trivial (Below.refl _ _) (Nat.le_refl _) (by simp) ?_; (case hd => rfl); (case hg => rfl); (case hr => first | (go_simp; done) | (go_simp; rfl)); (case hp => exact (Reps.none _ _)); intro v1545 w2 ho3 hb hg_ hnew_; clear hg_ hnew_; (first | rw [← Ny1544.out] at ho3 | (simp only [Int.reduceToNat] at ho3; rw [← Ny1544.out] at ho3)); have n0_ := Aside0.mk (Kd.R_lower ho3 (below_size (by repeat (first | (with_reducible first | exact HB.out | apply below_alloc | apply pw_below_drewN | apply below_drew1) | exact HB.out)))); have n1_ := Aside0.mk (below_step (by repeat (first | (with_reducible first | exact HB.out | apply below_alloc | apply pw_below_drewN | apply below_drew1) | exact HB.out)) hb); clear HB; have HO1546 := n0_; have HB := n1_; clear n0_ n1_; clear hb ho3)); try go_wp2_with (first | ((with_reducible refine gate_dst (N := 6) rfl ?_); refine Kd.R_lit (Kd.int .i64) _ 3 ?hg (N := 6) ?hd (xs := ([] : List Int)) (inner := []) (ok := fun _ => True) (okp := fun _ => True) ?hr ?hp (fun _ hk => hk) trivial (Below.refl _ _) (Nat.le_refl _) (by simp) ?_; (case hd => rfl); (case hg => rfl); (case hr => first | (go_simp; done) | (go_simp; rfl)); (case hp => exact (Reps.none _ _)); intro v1545 w2 ho3 hb hg_ hnew_; clear hg_ hnew_; (first | rw [← Ny1544.out] at ho3 | (simp only [Int.reduceToNat] at ho3; rw [← Ny1544.out] at ho3)); have n0_ := Aside0.mk (Kd.R_lower ho3 (below_size (by repeat (first | (with_reducible first | exact HB.out | apply below_alloc | apply pw_below_drewN | apply below_drew1) | exact HB.out)))); have n1_ := Aside0.mk (below_step (by repeat (first | (with_reducible first | exact HB.out | apply below_alloc | apply pw_below_drewN | apply below_drew1) | exact HB.out)) hb); clear HB; have HO1546 := n0_; have HB := n1_; clear n0_ n1_; clear hb ho3)))
 go_loopg [3, 4] k (fun kq v3 v4 w' => ∃ (x3_1 : List Int) (x4_1 : Int), v4 = .int .i64 x4_1 ∧ Aside0 (spec_l9Kernel.l0 kq l0 x3_1 x4_1 = some r) ∧ Aside0 (kq ≤ k) ∧ Aside0 (Kd.R (Kd.int .i64) 3 w' w.heap.size (fun _ => True) v3 x3_1) ∧ Aside0 (Below w.heap.size w w'))
 case atStart => exact ⟨(y1544), (0), (by first | rfl | (simp; done) | (simp [*]; done)), H', ⟨Nat.le_refl _⟩, ⟨by (with_reducible repeat (first | apply Kd.R_alloc | apply Kd.R_drewN | apply Kd.R_drew)); exact HO1546.out⟩, ⟨by repeat (first | (with_reducible first | exact HB.out | apply below_alloc | apply pw_below_drewN | apply below_drew1) | exact HB.out)⟩⟩
 case round =>
  clear H'
  try clear c1
  try clear p2
  obtain ⟨x3_1, x4_1, rfl, HA, HK1, HO_3, HB⟩ := hrel
  cases gk with
  | zero => exact absurd HA.out (by simp [spec_l9Kernel.l0])
  | succ k1 =>
   have H := HA.out
   clear HA
   simp only [spec_l9Kernel.l0] at H
   by_cases c4 : x4_1 < (l0.length : Int)
   ·rw [if_pos c4] at H
    have c4b0 : decide (x4_1 < (l0.length : Int)) = true := decide_eq_true c4
    clear c4
    have H' := Aside0.mk H
    clear H
    go_wp2
    repeat (go_quiet (fail); try go_wp2)
    go_loopg [5] k1 (fun kq v5 w' => ∃ (x5_2 : Int), v5 = .int .i64 x5_2 ∧ Aside0 (spec_l9Kernel.l1 kq l0 x3_1 x4_1 x5_2 = some r) ∧ Aside0 (kq ≤ k1) ∧ Aside0 (Kd.R (Kd.int .i64) 3 w' w.heap.size (fun _ => True) u3 x3_1) ∧ Aside0 (Below w.heap.size w w'))
    case atStart => exact ⟨(0), (by first | rfl | (simp; done) | (simp [*]; done)), H', ⟨Nat.le_refl _⟩, ⟨by (with_reducible repeat (first | apply Kd.R_alloc | apply Kd.R_drewN | apply Kd.R_drew)); exact HO_3.out⟩, ⟨by repeat (first | (with_reducible first | exact HB.out | apply below_alloc | apply pw_below_drewN | apply below_drew1) | exact HB.out)⟩⟩
    case round =>
     clear H'
     try clear c1
     try clear p2
     try clear c4
     try clear c4b0
     try clear p2
     obtain ⟨x5_2, rfl, HA, HK2, HO_3, HB⟩ := hrel
     cases gk with
     | zero => exact absurd HA.out (by simp [spec_l9Kernel.l1])
     | succ k2 =>
      have H := HA.out
      clear HA
      simp only [spec_l9Kernel.l1] at H
      by_cases c5 : 0 ≤ x5_2
      ·rw [if_pos c5] at H
       have c5b0 : decide (0 ≤ x5_2) = true := decide_eq_true c5
       clear c5
       by_cases c6 : x5_2 < (l0.length : Int)
       ·rw [if_pos c6] at H
        have c6b0 : decide (x5_2 < (l0.length : Int)) = true := decide_eq_true c6
        clear c6
        by_cases c7 : 0 ≤ x4_1
        ·rw [if_pos c7] at H
         have c7b0 : decide (0 ≤ x4_1) = true := decide_eq_true c7
         clear c7
         by_cases c8 : x4_1 < (l0.length : Int)
         ·rw [if_pos c8] at H
          have c8b0 : decide (x4_1 < (l0.length : Int)) = true := decide_eq_true c8
          clear c8
          by_cases c9 : (rd l0 x5_2) = (rd l0 x4_1)
          ·rw [if_pos c9] at H
           have c9b0 : ((rd l0 x5_2) == (rd l0 x4_1)) = true := beq_iff_eq.mpr c9
           have c9b1 : ((rd l0 x5_2) != (rd l0 x4_1)) = false := bne_eq_false_iff_eq.mpr c9
           clear c9
           by_cases c10 : x3_1.length < 17592186044416
           ·rw [if_pos c10] at H
            have LMc10 := Aside0.mk c10
            clear c10
            obtain ⟨y1549, hy1549⟩ : ∃ y_ : List Int, y_ = (x3_1 ++ [x5_2]) := ⟨_, rfl⟩
            replace H : (spec_l9Kernel.l0 k2 l0 y1549 (wrap64 (x4_1 + 1))) = some r := by first | (rw [hy1549]; with_reducible exact H) | (have H2_ := (Option.bind_some _ _).symm.trans H; rw [hy1549]; with_reducible exact H2_) | (have H2_ := (Option.bind_some _ _).symm.trans H; with_reducible exact H2_) | with_reducible exact H | (rw [hy1549]; exact H) | exact H
            have Ny1549 := Aside0.mk hy1549
            clear hy1549
            have H' := Aside0.mk H
            clear H
            have p1547 : 0 ≤ (x5_2 : Int) := of_decide_eq_true (by first | (with_reducible assumption) | assumption)
            have q1547 : x5_2 < (l0.length : Int) := of_decide_eq_true (by first | (with_reducible assumption) | assumption)
            obtain ⟨ad1547, e1547, hx1547_0⟩ := Kd.at_int HR0.out x5_2 p1547 q1547
            cases e1547
            replace hx1547_0 := (HB.out.cell (World.block_lt_of_cell? w _ hx1547_0)).trans hx1547_0
            replace p1547 := eq_true p1547
            replace q1547 := eq_true q1547
            have p1548 : 0 ≤ (x4_1 : Int) := of_decide_eq_true (by first | (with_reducible assumption) | assumption)
            have q1548 : x4_1 < (l0.length : Int) := of_decide_eq_true (by first | (with_reducible assumption) | assumption)
            obtain ⟨ad1548, e1548, hx1548_0⟩ := Kd.at_int HR0.out x4_1 p1548 q1548
            obtain rfl : ad1547 = ad1548 := (by injection e1548)
            replace hx1548_0 := (HB.out.cell (World.block_lt_of_cell? w _ hx1548_0)).trans hx1548_0
            replace p1548 := eq_true p1548
            replace q1548 := eq_true q1548
            go_wp2_with (first | ((with_reducible refine gate_builtin (b := .append) (xs := #[.tmp 24, .tmp 26]) rfl ?_); at_builtin; refine Kd.R_append (Kd.int .i64) (w0 := w) w.heap.size rfl (.tmp 24) (.tmp 26) 25 3 (.int .i64 0) 8 rfl Try.underlying25 info3 rfl (by decide) (by omega) u3 x3_1 x5_2 [.int .i64 x5_2] (fun _ => True) (fun _ => False) rfl rfl ?aP (fun _ hk => hk.elim) ?aF ?aO ?aB ?aS ?aL ?_; (case aP => exact rfl); (case aB => exact (by repeat (first | (with_reducible first | exact HB.out | apply below_alloc | apply pw_below_drewN | apply below_drew1) | exact HB.out))); (case aF => exact (fun _ _ => trivial)); (case aO => exact (by (with_reducible repeat (first | apply Kd.R_alloc | apply Kd.R_drewN | apply Kd.R_drew)); exact HO_3.out)); (case aS => exact (below_size (by repeat (first | (with_reducible first | exact HB.out | apply below_alloc | apply pw_below_drewN | apply below_drew1) | exact HB.out)))); (case aL => have := LMc10.out; omega); intro v1550 w11 ho hb hg hat; rw [← Ny1549.out] at ho; have n0_ := Aside0.mk (hb); have n1_ := Aside0.mk (ho); clear HB; clear HO_3; have HB := n0_; have HO1551 := n1_; clear n0_ n1_; clear ho hb hg hat))
            repeat (go_quiet (first | ((with_reducible refine gate_builtin (b := .append) (xs := #[.tmp 24, .tmp 26]) rfl ?_); at_builtin; refine Kd.R_append (Kd.int .i64) (w0 := w) w.heap.size rfl (.tmp 24) (.tmp 26) 25 3 (.int .i64 0) 8 rfl Try.underlying25 info3 rfl (by decide) (by omega) u3 x3_1 x5_2 [.int .i64 x5_2] (fun _ => True) (fun _ => False) rfl rfl ?aP (fun _ hk => hk.elim) ?aF ?aO ?aB ?aS ?aL ?_; (case aP => exact rfl); (case aB => exact (by repeat (first | (with_reducible first | exact HB.out | apply below_alloc | apply pw_below_drewN | apply below_drew1) | exact HB.out))); (case aF => exact (fun _ _ => trivial)); (case aO => exact (by (with_reducible repeat (first | apply Kd.R_alloc | apply Kd.R_drewN | apply Kd.R_drew)); exact HO_3.out)); (case aS => exact (below_size (by repeat (first | (with_reducible first | exact HB.out | apply below_alloc | apply pw_below_drewN | apply below_drew1) | exact HB.out)))); (case aL => have := LMc10.out; omega); intro v1550 w11 ho hb hg hat; rw [← Ny1549.out] at ho; have n0_ := Aside0.mk (hb); have n1_ := Aside0.mk (ho); clear HB; clear HO_3; have HB := n0_; have HO1551 := n1_; clear n0_ n1_; clear ho hb hg hat)); try go_wp2_with (first | ((with_reducible refine gate_builtin (b := .append) (xs := #[.tmp 24, .tmp 26]) rfl ?_); at_builtin; refine Kd.R_append (Kd.int .i64) (w0 := w) w.heap.size rfl (.tmp 24) (.tmp 26) 25 3 (.int .i64 0) 8 rfl Try.underlying25 info3 rfl (by decide) (by omega) u3 x3_1 x5_2 [.int .i64 x5_2] (fun _ => True) (fun _ => False) rfl rfl ?aP (fun _ hk => hk.elim) ?aF ?aO ?aB ?aS ?aL ?_; (case aP => exact rfl); (case aB => exact (by repeat (first | (with_reducible first | exact HB.out | apply below_alloc | apply pw_below_drewN | apply below_drew1) | exact HB.out))); (case aF => exact (fun _ _ => trivial)); (case aO => exact (by (with_reducible repeat (first | apply Kd.R_alloc | apply Kd.R_drewN | apply Kd.R_drew)); exact HO_3.out)); (case aS => exact (below_size (by repeat (first | (with_reducible first | exact HB.out | apply below_alloc | apply pw_below_drewN | apply below_drew1) | exact HB.out)))); (case aL => have := LMc10.out; omega); intro v1550 w11 ho hb hg hat; rw [← Ny1549.out] at ho; have n0_ := Aside0.mk (hb); have n1_ := Aside0.mk (ho); clear HB; clear HO_3; have HB := n0_; have HO1551 := n1_; clear n0_ n1_; clear ho hb hg hat)))
            go_roundg k2
            case measure => have := HK1.out; have := HK2.out; omega
            case rel => exact ⟨(y1549), (wrap64 (x4_1 + 1)), (by first | rfl | (simp; done) | (simp [*]; done)), H', ⟨by have := HK1.out; have := HK2.out; omega⟩, ⟨by (with_reducible repeat (first | apply Kd.R_alloc | apply Kd.R_drewN | apply Kd.R_drew)); exact HO1551.out⟩, ⟨by repeat (first | (with_reducible first | exact HB.out | apply below_alloc | apply pw_below_drewN | apply below_drew1) | exact HB.out)⟩⟩
           ·rw [if_neg c10] at H
            exact absurd H (by simp)
          ·rw [if_neg c9] at H
           have c9b0 : ((rd l0 x5_2) == (rd l0 x4_1)) = false := beq_eq_false_iff_ne.mpr c9
           have c9b1 : ((rd l0 x5_2) != (rd l0 x4_1)) = true := bne_iff_ne.mpr c9
           have H' := Aside0.mk H
           clear H
           have p1547 : 0 ≤ (x5_2 : Int) := of_decide_eq_true (by first | (with_reducible assumption) | assumption)
           have q1547 : x5_2 < (l0.length : Int) := of_decide_eq_true (by first | (with_reducible assumption) | assumption)
           obtain ⟨ad1547, e1547, hx1547_0⟩ := Kd.at_int HR0.out x5_2 p1547 q1547
           cases e1547
           replace hx1547_0 := (HB.out.cell (World.block_lt_of_cell? w _ hx1547_0)).trans hx1547_0
           replace p1547 := eq_true p1547
           replace q1547 := eq_true q1547
           have p1548 : 0 ≤ (x4_1 : Int) := of_decide_eq_true (by first | (with_reducible assumption) | assumption)
           have q1548 : x4_1 < (l0.length : Int) := of_decide_eq_true (by first | (with_reducible assumption) | assumption)
           obtain ⟨ad1548, e1548, hx1548_0⟩ := Kd.at_int HR0.out x4_1 p1548 q1548
           obtain rfl : ad1547 = ad1548 := (by injection e1548)
           replace hx1548_0 := (HB.out.cell (World.block_lt_of_cell? w _ hx1548_0)).trans hx1548_0
           replace p1548 := eq_true p1548
           replace q1548 := eq_true q1548
           go_wp2
           repeat (go_quiet (fail); try go_wp2)
           go_roundg k2
           case measure => have := HK1.out; have := HK2.out; omega
           case rel => exact ⟨(wrap64 (x5_2 + 1)), (by first | rfl | (simp; done) | (simp [*]; done)), H', ⟨by have := HK1.out; have := HK2.out; omega⟩, ⟨by (with_reducible repeat (first | apply Kd.R_alloc | apply Kd.R_drewN | apply Kd.R_drew)); exact HO_3.out⟩, ⟨by repeat (first | (with_reducible first | exact HB.out | apply below_alloc | apply pw_below_drewN | apply below_drew1) | exact HB.out)⟩⟩
         ·rw [if_neg c8] at H
          exact absurd H (by simp)
        ·rw [if_neg c7] at H
         exact absurd H (by simp)
       ·rw [if_neg c6] at H
        exact absurd H (by simp)
      ·rw [if_neg c5] at H
       exact absurd H (by simp)
   ·rw [if_neg c4] at H
    have c4b0 : decide (x4_1 < (l0.length : Int)) = false := decide_eq_false c4
    clear c4
    obtain rfl := Option.some.inj H
    go_wp2
    repeat (go_quiet (fail); try go_wp2)
    go_ret
    exact ⟨_, by first | rfl | (simp [errW_none, errW_some] <;> rfl) | (simp [*, errW_none, errW_some] <;> rfl), by (with_reducible repeat (first | apply Kd.R_alloc | apply Kd.R_drewN | apply Kd.R_drew)); exact HO_3.out, by repeat (first | (with_reducible first | exact HB.out | apply below_alloc | apply pw_below_drewN | apply below_drew1) | exact HB.out)⟩
end Go.Proofs.Ytnnbgfphinemfaa.Q

namespace Go.Proofs.Ytnnbgfphinemfaa.Q
open Go.RowKit Go.Proofs.YtnnbgfphinemfaaW.PrintWords Go.Proofs.YtnnbgfphinemfaaW.PrintLast Go.Proofs.YtnnbgfphinemfaaW.PrintMore
attribute [local go_sem] max2_int min2_int max_two min_two max_three min_three max_four min_four
set_option linter.unusedVariables false
set_option linter.unusedSimpArgs false
def spec_l9Lift.l0 : Nat → List Int → List Int → List Int → List Int → Int → Option (List Int)
 | 0, _, _, _, _, _ => none
 | k + 1, x0, x1, x5, x6, x7 => if x7 < (x0.length : Int) then (if 0 ≤ x7 then (if x7 < (x5.length : Int) then (if 0 ≤ (rd x5 x7) then (if (rd x5 x7) < (x1.length : Int) then (if x6.length < 17592186044416 then (spec_l9Lift.l0 k x0 x1 x5 (x6 ++ [rd x1 (rd x5 x7)]) (wrap64 (x7 + 1))) else (none)) else (none)) else (none)) else (none)) else (none)) else ((spec_l9Kernel.f k x6).bind fun t1811 => (some t1811))
def spec_l9Lift.f (k : Nat) (l0 : List Int) (l1 : List Int) : Option (List Int) := (spec_l9Map.f k l0).bind fun t1800 => (spec_l9Lift.l0 k l0 l1 t1800 (([] : List Int)) 0)
theorem spec_l9Lift.mono_l : ∀ k, (∀ y0 y1 y2 y3 y4, LeO (spec_l9Lift.l0 k y0 y1 y2 y3 y4) (spec_l9Lift.l0 (k + 1) y0 y1 y2 y3 y4))
 | 0 => fun _ _ _ _ _ r h => by simp [spec_l9Lift.l0] at h
 | k + 1 => by
  have ih0 := spec_l9Lift.mono_l k
  ·intro y0 y1 y2 y3 y4
   unfold spec_l9Lift.l0
   repeat' first
   | (with_reducible exact ih0 _ _ _ _ _)
   | (with_reducible exact spec_l9Kernel.mono _ _)
   | (with_reducible exact spec_l9Map.mono _ _)
   | (with_reducible exact LeO.refl _)
   | (with_reducible exact LeO.none _)
   | (with_reducible refine LeO.ite ?_ ?_)
   | (with_reducible refine LeO.bind ?_ (fun _ => ?_))
   | exact ih0 _ _ _ _ _
   | exact spec_l9Kernel.mono _ _
   | exact spec_l9Map.mono _ _
   | exact LeO.none _
   | refine LeO.ite ?_ ?_
   | refine LeO.bind ?_ (fun _ => ?_)
theorem spec_l9Lift.mono : ∀ a0 a1 k, LeO (spec_l9Lift.f k a0 a1) (spec_l9Lift.f (k + 1) a0 a1) := by
 intro a0 a1 k
 have ih0 := spec_l9Lift.mono_l k
 unfold spec_l9Lift.f
 repeat' first
   | (with_reducible exact ih0 _ _ _ _ _)
   | (with_reducible exact spec_l9Kernel.mono _ _)
   | (with_reducible exact spec_l9Map.mono _ _)
   | (with_reducible exact LeO.refl _)
   | (with_reducible exact LeO.none _)
   | (with_reducible refine LeO.ite ?_ ?_)
   | (with_reducible refine LeO.bind ?_ (fun _ => ?_))
   | exact ih0 _ _ _ _ _
   | exact spec_l9Kernel.mono _ _
   | exact spec_l9Map.mono _ _
   | exact LeO.none _
   | refine LeO.ite ?_ ?_
   | refine LeO.bind ?_ (fun _ => ?_)
set_option maxHeartbeats 8000000 in
set_option maxRecDepth 100000 in
theorem spec_l9Lift.calls (k : Nat) (A0 : Option Addr) (c0 : Nat) (l0 : List Int) (A1 : Option Addr) (c1 : Nat) (l1 : List Int) (r : List Int) (w : World) (hr0 : Kd.C (Kd.int .i64) w A0 l0.length l0) (hc0 : l0.length ≤ c0) (hr1 : Kd.C (Kd.int .i64) w A1 l1.length l1) (hc1 : l1.length ≤ c1) (h : spec_l9Lift.f k l0 l1 = some r) :
  Calls Try.prog 119 #[.slice A0 l0.length c0, .slice A1 l1.length c1] w fun e w' => ∃ v0_ : Value, e = .returned (v0_) ∧ Kd.R (Kd.int .i64) 3 w' w.heap.size (fun _ => True) v0_ r ∧ Below w.heap.size w w' := by
 have HR0 := Aside0.mk hr0
 have HC0 := Aside0.mk hc0
 clear hr0 hc0
 have HR1 := Aside0.mk hr1
 have HC1 := Aside0.mk hc1
 clear hr1 hc1
 have HB := Aside0.mk (Below.refl w.heap.size w)
 have H : ((spec_l9Map.f k l0).bind fun t1800 => (spec_l9Lift.l0 k l0 l1 t1800 (([] : List Int)) 0)) = some r := h
 clear h
 replace H := Option.bind_eq_some_iff.mp H
 obtain ⟨t1800, A30, H⟩ := H
 replace H : (spec_l9Lift.l0 k l0 l1 t1800 (([] : List Int)) 0) = some r := H
 have A3 := Aside0.mk A30
 clear A30
 obtain ⟨y1803, hy1803⟩ : ∃ y_ : List Int, y_ = (([] : List Int)) := ⟨_, rfl⟩
 replace H : (spec_l9Lift.l0 k l0 l1 t1800 y1803 0) = some r := by first | (rw [hy1803]; with_reducible exact H) | (have H2_ := (Option.bind_some _ _).symm.trans H; rw [hy1803]; with_reducible exact H2_) | (have H2_ := (Option.bind_some _ _).symm.trans H; with_reducible exact H2_) | with_reducible exact H | (rw [hy1803]; exact H) | exact H
 have Ny1803 := Aside0.mk hy1803
 clear hy1803
 have H' := Aside0.mk H
 clear H
 go_enter Try.func119, Try.ntmps119
 go_wp2_with (first | ((with_reducible refine gate_callee (f := 90) rfl ?_); refine goesL_ (some 9) rfl rfl Try.func90 (by kernel_rfl) rfl #[.slice A0 l0.length c0] rfl (by (try simp only [List.map_toArray, List.map_cons, List.map_nil]); first | done | rfl | (simp only [List.length_drop, List.length_take]; rfl)) ?_; (with_reducible refine (spec_l9Map.calls k _ _ l0 t1800 _ ?side1 ?side2 A3.out).mono ?_); (case side1 => repeat (first | exact HR0.out | (with_reducible refine Kd.C_alloc ?_ _) | (with_reducible refine Kd.C_drewN ?_ _) | (with_reducible refine Kd.C_drew ?_))); (case side2 => exact HC0.out); rintro e w4 ⟨v1801, rfl, ho0, hb⟩; refine ⟨_, rfl, ?_⟩; have n0_ := Aside0.mk (Kd.R_lower ho0 (below_size (by repeat (first | (with_reducible first | exact HB.out | apply below_alloc | apply pw_below_drewN | apply below_drew1) | exact HB.out)))); have n1_ := Aside0.mk (below_step (by repeat (first | (with_reducible first | exact HB.out | apply below_alloc | apply pw_below_drewN | apply below_drew1) | exact HB.out)) hb); clear HB; have HO1802 := n0_; have HB := n1_; clear n0_ n1_; (try clear hb); (try clear hb2); (try clear hk); (try clear hi); (try clear ho0)) | ((with_reducible refine gate_dst (N := 10) rfl ?_); refine Kd.R_lit (Kd.int .i64) _ 3 ?hg (N := 10) ?hd (xs := ([] : List Int)) (inner := []) (ok := fun _ => True) (okp := fun _ => True) ?hr ?hp (fun _ hk => hk) trivial (Below.refl _ _) (Nat.le_refl _) (by simp) ?_; (case hd => rfl); (case hg => rfl); (case hr => first | (go_simp; done) | (go_simp; rfl)); (case hp => exact (Reps.none _ _)); intro v1804 w5 ho6 hb hg_ hnew_; clear hg_ hnew_; (first | rw [← Ny1803.out] at ho6 | (simp only [Int.reduceToNat] at ho6; rw [← Ny1803.out] at ho6)); have n0_ := Aside0.mk (Kd.R_elder' (by (with_reducible repeat (first | apply Kd.R_alloc | apply Kd.R_drewN | apply Kd.R_drew)); exact HO1802.out) (Kd.R_base ho6) hb); have n1_ := Aside0.mk (Kd.R_lower (Kd.R_new' ho6 (Kd.R_lt (by (with_reducible repeat (first | apply Kd.R_alloc | apply Kd.R_drewN | apply Kd.R_drew)); exact HO1802.out))) (below_size (by repeat (first | (with_reducible first | exact HB.out | apply below_alloc | apply pw_below_drewN | apply below_drew1) | exact HB.out)))); have n2_ := Aside0.mk (below_step (by repeat (first | (with_reducible first | exact HB.out | apply below_alloc | apply pw_below_drewN | apply below_drew1) | exact HB.out)) hb); clear HO1802; clear HB; have HO1802 := n0_; have HO1805 := n1_; have HB := n2_; clear n0_ n1_ n2_; clear hb ho6))
 go_loopg [6, 7] k (fun kq v6 v7 w' => ∃ (x6_1 : List Int) (x7_1 : Int), v7 = .int .i64 x7_1 ∧ Aside0 (spec_l9Lift.l0 kq l0 l1 t1800 x6_1 x7_1 = some r) ∧ Aside0 (kq ≤ k) ∧ Aside0 (Kd.R (Kd.int .i64) 3 w' w.heap.size (fun k_ => some k_ ≠ (v6 : Value).ownBlock) v1801 t1800) ∧ Aside0 (Kd.R (Kd.int .i64) 3 w' w.heap.size (fun k_ => some k_ ≠ (v1801 : Value).ownBlock) v6 x6_1) ∧ Aside0 (Below w.heap.size w w'))
 case atStart => exact ⟨(y1803), (0), (by first | rfl | (simp; done) | (simp [*]; done)), H', ⟨Nat.le_refl _⟩, ⟨by (with_reducible repeat (first | apply Kd.R_alloc | apply Kd.R_drewN | apply Kd.R_drew)); exact Kd.R_mono HO1802.out (fun _ hk => hk.2)⟩, ⟨by (with_reducible repeat (first | apply Kd.R_alloc | apply Kd.R_drewN | apply Kd.R_drew)); exact Kd.R_mono HO1805.out (fun _ hk => hk.2)⟩, ⟨by repeat (first | (with_reducible first | exact HB.out | apply below_alloc | apply pw_below_drewN | apply below_drew1) | exact HB.out)⟩⟩
 case round =>
  clear H'
  try clear c1
  try clear p2
  obtain ⟨x6_1, x7_1, rfl, HA, HK1, HO_5, HO_6, HB⟩ := hrel
  cases gk with
  | zero => exact absurd HA.out (by simp [spec_l9Lift.l0])
  | succ k1 =>
   have H := HA.out
   clear HA
   simp only [spec_l9Lift.l0] at H
   by_cases c7 : x7_1 < (l0.length : Int)
   ·rw [if_pos c7] at H
    have c7b0 : decide (x7_1 < (l0.length : Int)) = true := decide_eq_true c7
    clear c7
    by_cases c8 : 0 ≤ x7_1
    ·rw [if_pos c8] at H
     have c8b0 : decide (0 ≤ x7_1) = true := decide_eq_true c8
     clear c8
     by_cases c9 : x7_1 < (t1800.length : Int)
     ·rw [if_pos c9] at H
      have c9b0 : decide (x7_1 < (t1800.length : Int)) = true := decide_eq_true c9
      clear c9
      by_cases c10 : 0 ≤ (rd t1800 x7_1)
      ·rw [if_pos c10] at H
       have c10b0 : decide (0 ≤ (rd t1800 x7_1)) = true := decide_eq_true c10
       clear c10
       by_cases c11 : (rd t1800 x7_1) < (l1.length : Int)
       ·rw [if_pos c11] at H
        have c11b0 : decide ((rd t1800 x7_1) < (l1.length : Int)) = true := decide_eq_true c11
        clear c11
        by_cases c12 : x6_1.length < 17592186044416
        ·rw [if_pos c12] at H
         have LMc12 := Aside0.mk c12
         clear c12
         obtain ⟨y1808, hy1808⟩ : ∃ y_ : List Int, y_ = (x6_1 ++ [rd l1 (rd t1800 x7_1)]) := ⟨_, rfl⟩
         replace H : (spec_l9Lift.l0 k1 l0 l1 t1800 y1808 (wrap64 (x7_1 + 1))) = some r := by first | (rw [hy1808]; with_reducible exact H) | (have H2_ := (Option.bind_some _ _).symm.trans H; rw [hy1808]; with_reducible exact H2_) | (have H2_ := (Option.bind_some _ _).symm.trans H; with_reducible exact H2_) | with_reducible exact H | (rw [hy1808]; exact H) | exact H
         have Ny1808 := Aside0.mk hy1808
         clear hy1808
         have H' := Aside0.mk H
         clear H
         obtain ⟨Ao13, co13, eo13⟩ := Kd.R_slice HO_5.out
         subst eo13
         have p1806 : 0 ≤ (x7_1 : Int) := of_decide_eq_true (by first | (with_reducible assumption) | assumption)
         have q1806 : x7_1 < (t1800.length : Int) := of_decide_eq_true (by first | (with_reducible assumption) | assumption)
         obtain ⟨ad1806, e1806, hx1806_0⟩ := Kd.at_int (Kd.R_reads' HO_5.out).2.2 x7_1 p1806 q1806
         cases e1806
         replace p1806 := eq_true p1806
         replace q1806 := eq_true q1806
         have p1807 : 0 ≤ ((rd t1800 x7_1) : Int) := of_decide_eq_true (by first | (with_reducible assumption) | assumption)
         have q1807 : (rd t1800 x7_1) < (l1.length : Int) := of_decide_eq_true (by first | (with_reducible assumption) | assumption)
         obtain ⟨ad1807, e1807, hx1807_0⟩ := Kd.at_int HR1.out (rd t1800 x7_1) p1807 q1807
         cases e1807
         replace hx1807_0 := (HB.out.cell (World.block_lt_of_cell? w _ hx1807_0)).trans hx1807_0
         replace p1807 := eq_true p1807
         replace q1807 := eq_true q1807
         go_wp2_with (first | ((with_reducible refine gate_builtin (b := .append) (xs := #[.tmp 17, .tmp 25]) rfl ?_); at_builtin; refine Kd.R_append (Kd.int .i64) (w0 := w) w.heap.size rfl (.tmp 17) (.tmp 25) 25 3 (.int .i64 0) 8 rfl Try.underlying25 info3 rfl (by decide) (by omega) u6 x6_1 (rd l1 (rd t1800 x7_1)) [.int .i64 (rd l1 (rd t1800 x7_1))] (fun k_ => some k_ ≠ (.slice (some ad1806) t1800.length co13 : Value).ownBlock) (fun _ => False) rfl rfl ?aP (fun _ hk => hk.elim) ?aF ?aO ?aB ?aS ?aL ?_; (case aP => exact rfl); (case aB => exact (by repeat (first | (with_reducible first | exact HB.out | apply below_alloc | apply pw_below_drewN | apply below_drew1) | exact HB.out))); (case aF => exact (fun k_ hk => Kd.fresh' (Kd.R_lt (by (with_reducible repeat (first | apply Kd.R_alloc | apply Kd.R_drewN | apply Kd.R_drew)); exact HO_5.out)) k_ hk)); (case aO => exact (by (with_reducible repeat (first | apply Kd.R_alloc | apply Kd.R_drewN | apply Kd.R_drew)); exact HO_6.out)); (case aS => exact (below_size (by repeat (first | (with_reducible first | exact HB.out | apply below_alloc | apply pw_below_drewN | apply below_drew1) | exact HB.out)))); (case aL => have := LMc12.out; omega); intro v1809 w14 ho hb hg hat; rw [← Ny1808.out] at ho; have n0_ := Aside0.mk (Kd.R_after (ok := (fun _ => True)) (by (with_reducible repeat (first | apply Kd.R_alloc | apply Kd.R_drewN | apply Kd.R_drew)); exact Kd.R_mono HO_5.out (fun _ hk => ⟨trivial, hk⟩)) hg hat); have n1_ := Aside0.mk (hb); have n2_ := Aside0.mk (ho); clear HO_5; clear HB; clear HO_6; have HO_5 := n0_; have HB := n1_; have HO1810 := n2_; clear n0_ n1_ n2_; clear ho hb hg hat))
         go_roundg k1
         case measure => have := HK1.out; omega
         case rel => exact ⟨(y1808), (wrap64 (x7_1 + 1)), (by first | rfl | (simp; done) | (simp [*]; done)), H', ⟨by have := HK1.out; omega⟩, ⟨by (with_reducible repeat (first | apply Kd.R_alloc | apply Kd.R_drewN | apply Kd.R_drew)); exact Kd.R_mono HO_5.out (fun _ hk => hk.2)⟩, ⟨by (with_reducible repeat (first | apply Kd.R_alloc | apply Kd.R_drewN | apply Kd.R_drew)); exact HO1810.out⟩, ⟨by repeat (first | (with_reducible first | exact HB.out | apply below_alloc | apply pw_below_drewN | apply below_drew1) | exact HB.out)⟩⟩
        ·rw [if_neg c12] at H
         exact absurd H (by simp)
       ·rw [if_neg c11] at H
        exact absurd H (by simp)
      ·rw [if_neg c10] at H
       exact absurd H (by simp)
     ·rw [if_neg c9] at H
      exact absurd H (by simp)
    ·rw [if_neg c8] at H
     exact absurd H (by simp)
   ·rw [if_neg c7] at H
    have c7b0 : decide (x7_1 < (l0.length : Int)) = false := decide_eq_false c7
    clear c7
    replace H := Option.bind_eq_some_iff.mp H
    obtain ⟨t1811, A150, H⟩ := H
    replace H : (some t1811) = some r := H
    have A15 := Aside0.mk A150
    clear A150
    obtain rfl := Option.some.inj H
    obtain ⟨Ao16, co16, eo16⟩ := Kd.R_slice HO_6.out
    subst eo16
    go_wp2_with (first | ((with_reducible refine gate_callee (f := 161) rfl ?_); refine goesL_ (some 28) rfl rfl Try.func161 (by kernel_rfl) rfl #[.slice Ao16 x6_1.length co16] rfl (by (try simp only [List.map_toArray, List.map_cons, List.map_nil]); first | done | rfl | (simp only [List.length_drop, List.length_take]; rfl)) ?_; (with_reducible refine (spec_l9Kernel.calls k1 _ _ x6_1 t1811 _ ?side1 ?side2 A15.out).mono ?_); (case side1 => repeat (first | exact (Kd.R_reads' HO_6.out).2.2 | (with_reducible refine Kd.C_alloc ?_ _) | (with_reducible refine Kd.C_drewN ?_ _) | (with_reducible refine Kd.C_drew ?_))); (case side2 => exact (Kd.R_reads' HO_6.out).2.1); rintro e w17 ⟨v1812, rfl, ho0, hb⟩; refine ⟨_, rfl, ?_⟩; have n0_ := Aside0.mk (Kd.R_elder' (by (with_reducible repeat (first | apply Kd.R_alloc | apply Kd.R_drewN | apply Kd.R_drew)); exact HO_5.out) (Kd.R_base ho0) hb); have n1_ := Aside0.mk (Kd.R_elder' (by (with_reducible repeat (first | apply Kd.R_alloc | apply Kd.R_drewN | apply Kd.R_drew)); exact HO_6.out) (Kd.R_base ho0) hb); have n2_ := Aside0.mk (Kd.R_lower (Kd.R_new' (Kd.R_new' ho0 (Kd.R_lt (by (with_reducible repeat (first | apply Kd.R_alloc | apply Kd.R_drewN | apply Kd.R_drew)); exact HO_5.out))) (Kd.R_lt (by (with_reducible repeat (first | apply Kd.R_alloc | apply Kd.R_drewN | apply Kd.R_drew)); exact HO_6.out))) (below_size (by repeat (first | (with_reducible first | exact HB.out | apply below_alloc | apply pw_below_drewN | apply below_drew1) | exact HB.out)))); have n3_ := Aside0.mk (below_step (by repeat (first | (with_reducible first | exact HB.out | apply below_alloc | apply pw_below_drewN | apply below_drew1) | exact HB.out)) hb); clear HO_5; clear HO_6; clear HB; have HO_5 := n0_; have HO_6 := n1_; have HO1813 := n2_; have HB := n3_; clear n0_ n1_ n2_ n3_; (try clear hb); (try clear hb2); (try clear hk); (try clear hi); (try clear ho0)))
    go_ret
    exact ⟨_, by first | rfl | (simp [errW_none, errW_some] <;> rfl) | (simp [*, errW_none, errW_some] <;> rfl), by (with_reducible repeat (first | apply Kd.R_alloc | apply Kd.R_drewN | apply Kd.R_drew)); exact Kd.R_mono HO1813.out (fun _ hk => trivial), by repeat (first | (with_reducible first | exact HB.out | apply below_alloc | apply pw_below_drewN | apply below_drew1) | exact HB.out)⟩
end Go.Proofs.Ytnnbgfphinemfaa.Q

namespace Go.Proofs.Ytnnbgfphinemfaa.Q
open Go.RowKit Go.Proofs.YtnnbgfphinemfaaW.PrintWords Go.Proofs.YtnnbgfphinemfaaW.PrintLast Go.Proofs.YtnnbgfphinemfaaW.PrintMore
attribute [local go_sem] max2_int min2_int max_two min_two max_three min_three max_four min_four
set_option linter.unusedVariables false
set_option linter.unusedSimpArgs false
def spec_LiftCongruence.f (k : Nat) (a0_0 : Int) (l0_1 : List (S75)) (l1 : List Int) (l2 : List Int) : Option (List Int × Bool) := (spec_l9Takes.f k a0_0 l0_1 l1).bind fun t1815 => (if t1815 = true then ((spec_l9Quotient.f k a0_0 l0_1 l1).bind fun bt1816 => ((spec_l6Is.f k bt1816.1 bt1816.2 l2).bind fun t1820 => (if t1820 = true then ((spec_l9Lift.f k l1 l2).bind fun t1821 => (some (t1821, true))) else (some ((([] : List Int)), false))))) else (some ((([] : List Int)), false)))
theorem spec_LiftCongruence.mono : ∀ a0 a1 a2 a3 k, LeO (spec_LiftCongruence.f k a0 a1 a2 a3) (spec_LiftCongruence.f (k + 1) a0 a1 a2 a3) := by
 intro a0 a1 a2 a3 k
 unfold spec_LiftCongruence.f
 repeat' first
   | (with_reducible exact spec_l6Is.mono _ _ _ _)
   | (with_reducible exact spec_l9Lift.mono _ _ _)
   | (with_reducible exact spec_l9Quotient.mono _ _ _ _)
   | (with_reducible exact spec_l9Takes.mono _ _ _ _)
   | (with_reducible exact LeO.refl _)
   | (with_reducible exact LeO.none _)
   | (with_reducible refine LeO.ite ?_ ?_)
   | (with_reducible refine LeO.bind ?_ (fun _ => ?_))
   | exact spec_l6Is.mono _ _ _ _
   | exact spec_l9Lift.mono _ _ _
   | exact spec_l9Quotient.mono _ _ _ _
   | exact spec_l9Takes.mono _ _ _ _
   | exact LeO.none _
   | refine LeO.ite ?_ ?_
   | refine LeO.bind ?_ (fun _ => ?_)
set_option maxHeartbeats 8000000 in
set_option maxRecDepth 100000 in
theorem spec_LiftCongruence.calls (k : Nat) (a0_0 : Int) (A0_1 : Option Addr) (c0_1 : Nat) (l0_1 : List (S75)) (A1 : Option Addr) (c1 : Nat) (l1 : List Int) (A2 : Option Addr) (c2 : Nat) (l2 : List Int) (r1 : List Int) (r2 : Bool) (w : World) (hr0_1 : Kd.C k75 w A0_1 l0_1.length l0_1) (hc0_1 : l0_1.length ≤ c0_1) (hr1 : Kd.C (Kd.int .i64) w A1 l1.length l1) (hc1 : l1.length ≤ c1) (hr2 : Kd.C (Kd.int .i64) w A2 l2.length l2) (hc2 : l2.length ≤ c2) (h : spec_LiftCongruence.f k a0_0 l0_1 l1 l2 = some (r1, r2)) :
  Calls Try.prog 55 #[.agg #[.int .i64 a0_0, .slice A0_1 l0_1.length c0_1], .slice A1 l1.length c1, .slice A2 l2.length c2] w fun e w' => ∃ v0_ : Value, e = .returned (.tuple #[v0_, .bool r2]) ∧ Kd.R (Kd.int .i64) 3 w' w.heap.size (fun _ => True) v0_ r1 ∧ Below w.heap.size w w' := by
 have hu31 := Try.underlying31
 have HR0_1 := Aside0.mk hr0_1
 have HC0_1 := Aside0.mk hc0_1
 clear hr0_1 hc0_1
 have HR1 := Aside0.mk hr1
 have HC1 := Aside0.mk hc1
 clear hr1 hc1
 have HR2 := Aside0.mk hr2
 have HC2 := Aside0.mk hc2
 clear hr2 hc2
 have HB := Aside0.mk (Below.refl w.heap.size w)
 have H : ((spec_l9Takes.f k a0_0 l0_1 l1).bind fun t1815 => (if t1815 = true then ((spec_l9Quotient.f k a0_0 l0_1 l1).bind fun bt1816 => ((spec_l6Is.f k bt1816.1 bt1816.2 l2).bind fun t1820 => (if t1820 = true then ((spec_l9Lift.f k l1 l2).bind fun t1821 => (some (t1821, true))) else (some ((([] : List Int)), false))))) else (some ((([] : List Int)), false)))) = some (r1, r2) := h
 clear h
 replace H := Option.bind_eq_some_iff.mp H
 obtain ⟨t1815, A40, H⟩ := H
 replace H : (if t1815 = true then ((spec_l9Quotient.f k a0_0 l0_1 l1).bind fun bt1816 => ((spec_l6Is.f k bt1816.1 bt1816.2 l2).bind fun t1820 => (if t1820 = true then ((spec_l9Lift.f k l1 l2).bind fun t1821 => (some (t1821, true))) else (some ((([] : List Int)), false))))) else (some ((([] : List Int)), false))) = some (r1, r2) := H
 have A4 := Aside0.mk A40
 clear A40
 by_cases c5 : t1815 = true
 ·subst c5
  have H1 : ((spec_l9Quotient.f k a0_0 l0_1 l1).bind fun bt1816 => ((spec_l6Is.f k bt1816.1 bt1816.2 l2).bind fun t1820 => (if t1820 = true then ((spec_l9Lift.f k l1 l2).bind fun t1821 => (some (t1821, true))) else (some ((([] : List Int)), false))))) = some (r1, r2) := by rw [if_pos rfl] at H; exact H
  clear H
  have H := H1
  clear H1
  replace H := Option.bind_eq_some_iff.mp H
  obtain ⟨⟨t1816, t1817⟩, A60, H⟩ := H
  replace H : ((spec_l6Is.f k t1816 t1817 l2).bind fun t1820 => (if t1820 = true then ((spec_l9Lift.f k l1 l2).bind fun t1821 => (some (t1821, true))) else (some ((([] : List Int)), false)))) = some (r1, r2) := H
  have A6 := Aside0.mk A60
  clear A60
  replace H := Option.bind_eq_some_iff.mp H
  obtain ⟨t1820, A70, H⟩ := H
  replace H : (if t1820 = true then ((spec_l9Lift.f k l1 l2).bind fun t1821 => (some (t1821, true))) else (some ((([] : List Int)), false))) = some (r1, r2) := H
  have A7 := Aside0.mk A70
  clear A70
  by_cases c8 : t1820 = true
  ·subst c8
   have H1 : ((spec_l9Lift.f k l1 l2).bind fun t1821 => (some (t1821, true))) = some (r1, r2) := by rw [if_pos rfl] at H; exact H
   clear H
   have H := H1
   clear H1
   replace H := Option.bind_eq_some_iff.mp H
   obtain ⟨t1821, A90, H⟩ := H
   replace H : (some (t1821, true)) = some (r1, r2) := H
   have A9 := Aside0.mk A90
   clear A90
   simp only [Option.some.injEq, Prod.mk.injEq] at H
   obtain ⟨rfl, rfl⟩ := H
   go_enter Try.func55, Try.ntmps55
   go_wp2_with (first | ((with_reducible refine gate_dst (N := 3) rfl ?_); refine box_event ?hg (N := 3) ?hd (cs := #[.int .i64 a0_0, .slice A0_1 l0_1.length c0_1]) (t := 31) ?hr ?_; (case hd => rfl); (case hg => rfl); (case hr => first | (go_simp; done) | (go_simp; rfl)); intro gb1814 hg w10 hbox hb; have n0_ := Aside0.mk (below_step (by repeat (first | (with_reducible first | exact HB.out | apply below_alloc | apply pw_below_drewN | apply below_drew1) | exact HB.out)) hb); have n1_ := Aside0.mk (hbox); have n2_ := Aside0.mk ((by rw [hg]; exact (below_size (by repeat (first | (with_reducible first | exact HB.out | apply below_alloc | apply pw_below_drewN | apply below_drew1) | exact HB.out))) : w.heap.size ≤ gb1814)); have n3_ := Aside0.mk ((by rw [hg]; exact (below_size (by repeat (first | (with_reducible first | exact HB.out | apply below_alloc | apply pw_below_drewN | apply below_drew1) | exact HB.out))) : w.heap.size ≤ gb1814)); clear HB; have HB := n0_; have BK1814 := n1_; have GW1814 := n2_; have GE1814 := n3_; clear n0_ n1_ n2_ n3_; clear hb hbox hg; have hcz11_0 : w10.cell? ⟨gb1814, 0, none⟩ = some (.int .i64 a0_0) := (blk_cell BK1814.out 0).trans rfl; have hcz11_1 : w10.cell? ⟨gb1814, 1, none⟩ = some (.slice A0_1 l0_1.length c0_1) := (blk_cell BK1814.out 1).trans rfl; have hfz11_0 := blk_frozen BK1814.out 0; have hfz11_1 := blk_frozen BK1814.out 1) | ((with_reducible refine gate_callee (f := 84) rfl ?_); refine goesL_ (some 10) rfl rfl Try.func84 (by kernel_rfl) rfl #[.agg #[.int .i64 a0_0, .slice A0_1 l0_1.length c0_1], .slice A1 l1.length c1] rfl (by (try simp only [List.map_toArray, List.map_cons, List.map_nil]); first | done | rfl | (simp only [List.length_drop, List.length_take]; rfl)) ?_; (with_reducible refine (spec_l9Takes.calls k a0_0 _ _ l0_1 _ _ l1 true _ ?side1 ?side2 ?side3 ?side4 A4.out).mono ?_); (case side1 => repeat (first | exact (Kd.C_below HR0_1.out HB.out) | (with_reducible refine Kd.C_alloc ?_ _) | (with_reducible refine Kd.C_drewN ?_ _) | (with_reducible refine Kd.C_drew ?_))); (case side2 => exact HC0_1.out); (case side3 => repeat (first | exact (Kd.C_below HR1.out HB.out) | (with_reducible refine Kd.C_alloc ?_ _) | (with_reducible refine Kd.C_drewN ?_ _) | (with_reducible refine Kd.C_drew ?_))); (case side4 => exact HC1.out); rintro e w12 ⟨rfl, hb⟩; refine ⟨_, rfl, ?_⟩; have n0_ := Aside0.mk (blk_below (g := gb1814) (o := .cells #[.int .i64 a0_0, .slice A0_1 l0_1.length c0_1] 31 (0, 0)) (by (with_reducible repeat (first | refine blk_drewN ?_ _ | refine blk_drew ?_ | refine blk_alloc ?_ _)); exact BK1814.out) hb); have n1_ := Aside0.mk (below_step (by repeat (first | (with_reducible first | exact HB.out | apply below_alloc | apply pw_below_drewN | apply below_drew1 | refine below_set ?_ GE1814.out) | exact HB.out)) hb); clear BK1814; clear HB; have BK1814 := n0_; have HB := n1_; clear n0_ n1_; (try clear hb); (try clear hb2); (try clear hk); (try clear hi); have hcz13_0 : w12.cell? ⟨gb1814, 0, none⟩ = some (.int .i64 a0_0) := (blk_cell BK1814.out 0).trans rfl; have hcz13_1 : w12.cell? ⟨gb1814, 1, none⟩ = some (.slice A0_1 l0_1.length c0_1) := (blk_cell BK1814.out 1).trans rfl; have hfz13_0 := blk_frozen BK1814.out 0; have hfz13_1 := blk_frozen BK1814.out 1) | (go_at_call 118; (with_reducible refine (spec_l9Quotient.calls k a0_0 _ _ l0_1 _ _ l1 t1816 t1817 _ ?side1 ?side2 ?side3 ?side4 A6.out).mono ?_); (case side1 => repeat (first | exact (Kd.C_below HR0_1.out HB.out) | (with_reducible refine Kd.C_alloc ?_ _) | (with_reducible refine Kd.C_drewN ?_ _) | (with_reducible refine Kd.C_drew ?_))); (case side2 => exact HC0_1.out); (case side3 => repeat (first | exact (Kd.C_below HR1.out HB.out) | (with_reducible refine Kd.C_alloc ?_ _) | (with_reducible refine Kd.C_drewN ?_ _) | (with_reducible refine Kd.C_drew ?_))); (case side4 => exact HC1.out); rintro e w14 ⟨v1818, rfl, ho0, hb⟩; have n0_ := Aside0.mk (Kd.S_lower ho0 (below_size (by repeat (first | (with_reducible first | exact HB.out | apply below_alloc | apply pw_below_drewN | apply below_drew1 | refine below_set ?_ GE1814.out) | exact HB.out)))); have n1_ := Aside0.mk (blk_below (g := gb1814) (o := .cells #[.int .i64 a0_0, .slice A0_1 l0_1.length c0_1] 31 (0, 0)) (by (with_reducible repeat (first | refine blk_drewN ?_ _ | refine blk_drew ?_ | refine blk_alloc ?_ _)); exact BK1814.out) hb); have n2_ := Aside0.mk (below_step (by repeat (first | (with_reducible first | exact HB.out | apply below_alloc | apply pw_below_drewN | apply below_drew1 | refine below_set ?_ GE1814.out) | exact HB.out)) hb); clear BK1814; clear HB; have HO1819 := n0_; have BK1814 := n1_; have HB := n2_; clear n0_ n1_ n2_; (try clear hb); (try clear hb2); (try clear hk); (try clear hi); (try clear ho0); obtain ⟨Ao15, co15, eo15⟩ := Kd.S_slice HO1819.out; subst eo15) | (go_at_call 85; (with_reducible refine (spec_l6Is.calls k t1816 _ _ t1817 _ _ l2 true _ ?side1 ?side2 ?side3 ?side4 A7.out).mono ?_); (case side1 => repeat (first | exact (Kd.S_reads' HO1819.out).2.2 | (with_reducible refine Kd.C_alloc ?_ _) | (with_reducible refine Kd.C_drewN ?_ _) | (with_reducible refine Kd.C_drew ?_))); (case side2 => exact (Kd.S_reads' HO1819.out).2.1); (case side3 => repeat (first | exact (Kd.C_below HR2.out HB.out) | (with_reducible refine Kd.C_alloc ?_ _) | (with_reducible refine Kd.C_drewN ?_ _) | (with_reducible refine Kd.C_drew ?_))); (case side4 => exact HC2.out); rintro e w16 ⟨rfl, hb⟩; have n0_ := Aside0.mk (Kd.S_below (by (with_reducible repeat (first | apply Kd.S_alloc | apply Kd.S_drewN | apply Kd.S_drew)); exact HO1819.out) hb); have n1_ := Aside0.mk (blk_below (g := gb1814) (o := .cells #[.int .i64 a0_0, .slice A0_1 l0_1.length c0_1] 31 (0, 0)) (by (with_reducible repeat (first | refine blk_drewN ?_ _ | refine blk_drew ?_ | refine blk_alloc ?_ _)); exact BK1814.out) hb); have n2_ := Aside0.mk (below_step (by repeat (first | (with_reducible first | exact HB.out | apply below_alloc | apply pw_below_drewN | apply below_drew1 | refine below_set ?_ GE1814.out) | exact HB.out)) hb); clear HO1819; clear BK1814; clear HB; have HO1819 := n0_; have BK1814 := n1_; have HB := n2_; clear n0_ n1_ n2_; (try clear hb); (try clear hb2); (try clear hk); (try clear hi)) | ((with_reducible refine gate_callee (f := 119) rfl ?_); refine goesL_ (some 23) rfl rfl Try.func119 (by kernel_rfl) rfl #[.slice A1 l1.length c1, .slice A2 l2.length c2] rfl (by (try simp only [List.map_toArray, List.map_cons, List.map_nil]); first | done | rfl | (simp only [List.length_drop, List.length_take]; rfl)) ?_; (with_reducible refine (spec_l9Lift.calls k _ _ l1 _ _ l2 t1821 _ ?side1 ?side2 ?side3 ?side4 A9.out).mono ?_); (case side1 => repeat (first | exact (Kd.C_below HR1.out HB.out) | (with_reducible refine Kd.C_alloc ?_ _) | (with_reducible refine Kd.C_drewN ?_ _) | (with_reducible refine Kd.C_drew ?_))); (case side2 => exact HC1.out); (case side3 => repeat (first | exact (Kd.C_below HR2.out HB.out) | (with_reducible refine Kd.C_alloc ?_ _) | (with_reducible refine Kd.C_drewN ?_ _) | (with_reducible refine Kd.C_drew ?_))); (case side4 => exact HC2.out); rintro e w17 ⟨v1822, rfl, ho0, hb⟩; refine ⟨_, rfl, ?_⟩; have n0_ := Aside0.mk (Kd.S_elder' (by (with_reducible repeat (first | apply Kd.S_alloc | apply Kd.S_drewN | apply Kd.S_drew)); exact HO1819.out) (Kd.R_base ho0) hb); have n1_ := Aside0.mk (Kd.R_lower ho0 (below_size (by repeat (first | (with_reducible first | exact HB.out | apply below_alloc | apply pw_below_drewN | apply below_drew1 | refine below_set ?_ GE1814.out) | exact HB.out)))); have n2_ := Aside0.mk (blk_below (g := gb1814) (o := .cells #[.int .i64 a0_0, .slice A0_1 l0_1.length c0_1] 31 (0, 0)) (by (with_reducible repeat (first | refine blk_drewN ?_ _ | refine blk_drew ?_ | refine blk_alloc ?_ _)); exact BK1814.out) hb); have n3_ := Aside0.mk (below_step (by repeat (first | (with_reducible first | exact HB.out | apply below_alloc | apply pw_below_drewN | apply below_drew1 | refine below_set ?_ GE1814.out) | exact HB.out)) hb); clear HO1819; clear BK1814; clear HB; have HO1819 := n0_; have HO1823 := n1_; have BK1814 := n2_; have HB := n3_; clear n0_ n1_ n2_ n3_; (try clear hb); (try clear hb2); (try clear hk); (try clear hi); (try clear ho0)))
   go_ret2
   exact ⟨_, by first | rfl | (simp [errW_none, errW_some] <;> rfl) | (simp [*, errW_none, errW_some] <;> rfl), by (with_reducible repeat (first | apply Kd.R_alloc | apply Kd.R_drewN | apply Kd.R_drew)); exact HO1823.out, by repeat (first | (with_reducible first | exact HB.out | apply below_alloc | apply pw_below_drewN | apply below_drew1 | refine below_set ?_ GE1814.out) | exact HB.out)⟩
  ·replace c8 := Bool.eq_false_iff.mpr c8
   subst c8
   have H1 : (some ((([] : List Int)), false)) = some (r1, r2) := by rw [if_neg (show ¬ (false = true) by decide)] at H; exact H
   clear H
   have H := H1
   clear H1
   obtain ⟨y1824, hy1824⟩ : ∃ y_ : List Int, y_ = (([] : List Int)) := ⟨_, rfl⟩
   replace H : (some (y1824, false)) = some (r1, r2) := by first | (rw [hy1824]; with_reducible exact H) | (have H2_ := (Option.bind_some _ _).symm.trans H; rw [hy1824]; with_reducible exact H2_) | (have H2_ := (Option.bind_some _ _).symm.trans H; with_reducible exact H2_) | with_reducible exact H | (rw [hy1824]; exact H) | exact H
   have Ny1824 := Aside0.mk hy1824
   clear hy1824
   simp only [Option.some.injEq, Prod.mk.injEq] at H
   obtain ⟨rfl, rfl⟩ := H
   go_enter Try.func55, Try.ntmps55
   go_wp2_with (first | ((with_reducible refine gate_dst (N := 3) rfl ?_); refine box_event ?hg (N := 3) ?hd (cs := #[.int .i64 a0_0, .slice A0_1 l0_1.length c0_1]) (t := 31) ?hr ?_; (case hd => rfl); (case hg => rfl); (case hr => first | (go_simp; done) | (go_simp; rfl)); intro gb1814 hg w18 hbox hb; have n0_ := Aside0.mk (below_step (by repeat (first | (with_reducible first | exact HB.out | apply below_alloc | apply pw_below_drewN | apply below_drew1) | exact HB.out)) hb); have n1_ := Aside0.mk (hbox); have n2_ := Aside0.mk ((by rw [hg]; exact (below_size (by repeat (first | (with_reducible first | exact HB.out | apply below_alloc | apply pw_below_drewN | apply below_drew1) | exact HB.out))) : w.heap.size ≤ gb1814)); have n3_ := Aside0.mk ((by rw [hg]; exact (below_size (by repeat (first | (with_reducible first | exact HB.out | apply below_alloc | apply pw_below_drewN | apply below_drew1) | exact HB.out))) : w.heap.size ≤ gb1814)); clear HB; have HB := n0_; have BK1814 := n1_; have GW1814 := n2_; have GE1814 := n3_; clear n0_ n1_ n2_ n3_; clear hb hbox hg; have hcz19_0 : w18.cell? ⟨gb1814, 0, none⟩ = some (.int .i64 a0_0) := (blk_cell BK1814.out 0).trans rfl; have hcz19_1 : w18.cell? ⟨gb1814, 1, none⟩ = some (.slice A0_1 l0_1.length c0_1) := (blk_cell BK1814.out 1).trans rfl; have hfz19_0 := blk_frozen BK1814.out 0; have hfz19_1 := blk_frozen BK1814.out 1) | ((with_reducible refine gate_callee (f := 84) rfl ?_); refine goesL_ (some 10) rfl rfl Try.func84 (by kernel_rfl) rfl #[.agg #[.int .i64 a0_0, .slice A0_1 l0_1.length c0_1], .slice A1 l1.length c1] rfl (by (try simp only [List.map_toArray, List.map_cons, List.map_nil]); first | done | rfl | (simp only [List.length_drop, List.length_take]; rfl)) ?_; (with_reducible refine (spec_l9Takes.calls k a0_0 _ _ l0_1 _ _ l1 true _ ?side1 ?side2 ?side3 ?side4 A4.out).mono ?_); (case side1 => repeat (first | exact (Kd.C_below HR0_1.out HB.out) | (with_reducible refine Kd.C_alloc ?_ _) | (with_reducible refine Kd.C_drewN ?_ _) | (with_reducible refine Kd.C_drew ?_))); (case side2 => exact HC0_1.out); (case side3 => repeat (first | exact (Kd.C_below HR1.out HB.out) | (with_reducible refine Kd.C_alloc ?_ _) | (with_reducible refine Kd.C_drewN ?_ _) | (with_reducible refine Kd.C_drew ?_))); (case side4 => exact HC1.out); rintro e w20 ⟨rfl, hb⟩; refine ⟨_, rfl, ?_⟩; have n0_ := Aside0.mk (blk_below (g := gb1814) (o := .cells #[.int .i64 a0_0, .slice A0_1 l0_1.length c0_1] 31 (0, 0)) (by (with_reducible repeat (first | refine blk_drewN ?_ _ | refine blk_drew ?_ | refine blk_alloc ?_ _)); exact BK1814.out) hb); have n1_ := Aside0.mk (below_step (by repeat (first | (with_reducible first | exact HB.out | apply below_alloc | apply pw_below_drewN | apply below_drew1 | refine below_set ?_ GE1814.out) | exact HB.out)) hb); clear BK1814; clear HB; have BK1814 := n0_; have HB := n1_; clear n0_ n1_; (try clear hb); (try clear hb2); (try clear hk); (try clear hi); have hcz21_0 : w20.cell? ⟨gb1814, 0, none⟩ = some (.int .i64 a0_0) := (blk_cell BK1814.out 0).trans rfl; have hcz21_1 : w20.cell? ⟨gb1814, 1, none⟩ = some (.slice A0_1 l0_1.length c0_1) := (blk_cell BK1814.out 1).trans rfl; have hfz21_0 := blk_frozen BK1814.out 0; have hfz21_1 := blk_frozen BK1814.out 1) | (go_at_call 118; (with_reducible refine (spec_l9Quotient.calls k a0_0 _ _ l0_1 _ _ l1 t1816 t1817 _ ?side1 ?side2 ?side3 ?side4 A6.out).mono ?_); (case side1 => repeat (first | exact (Kd.C_below HR0_1.out HB.out) | (with_reducible refine Kd.C_alloc ?_ _) | (with_reducible refine Kd.C_drewN ?_ _) | (with_reducible refine Kd.C_drew ?_))); (case side2 => exact HC0_1.out); (case side3 => repeat (first | exact (Kd.C_below HR1.out HB.out) | (with_reducible refine Kd.C_alloc ?_ _) | (with_reducible refine Kd.C_drewN ?_ _) | (with_reducible refine Kd.C_drew ?_))); (case side4 => exact HC1.out); rintro e w22 ⟨v1818, rfl, ho0, hb⟩; have n0_ := Aside0.mk (Kd.S_lower ho0 (below_size (by repeat (first | (with_reducible first | exact HB.out | apply below_alloc | apply pw_below_drewN | apply below_drew1 | refine below_set ?_ GE1814.out) | exact HB.out)))); have n1_ := Aside0.mk (blk_below (g := gb1814) (o := .cells #[.int .i64 a0_0, .slice A0_1 l0_1.length c0_1] 31 (0, 0)) (by (with_reducible repeat (first | refine blk_drewN ?_ _ | refine blk_drew ?_ | refine blk_alloc ?_ _)); exact BK1814.out) hb); have n2_ := Aside0.mk (below_step (by repeat (first | (with_reducible first | exact HB.out | apply below_alloc | apply pw_below_drewN | apply below_drew1 | refine below_set ?_ GE1814.out) | exact HB.out)) hb); clear BK1814; clear HB; have HO1819 := n0_; have BK1814 := n1_; have HB := n2_; clear n0_ n1_ n2_; (try clear hb); (try clear hb2); (try clear hk); (try clear hi); (try clear ho0); obtain ⟨Ao23, co23, eo23⟩ := Kd.S_slice HO1819.out; subst eo23) | (go_at_call 85; (with_reducible refine (spec_l6Is.calls k t1816 _ _ t1817 _ _ l2 false _ ?side1 ?side2 ?side3 ?side4 A7.out).mono ?_); (case side1 => repeat (first | exact (Kd.S_reads' HO1819.out).2.2 | (with_reducible refine Kd.C_alloc ?_ _) | (with_reducible refine Kd.C_drewN ?_ _) | (with_reducible refine Kd.C_drew ?_))); (case side2 => exact (Kd.S_reads' HO1819.out).2.1); (case side3 => repeat (first | exact (Kd.C_below HR2.out HB.out) | (with_reducible refine Kd.C_alloc ?_ _) | (with_reducible refine Kd.C_drewN ?_ _) | (with_reducible refine Kd.C_drew ?_))); (case side4 => exact HC2.out); rintro e w24 ⟨rfl, hb⟩; have n0_ := Aside0.mk (Kd.S_below (by (with_reducible repeat (first | apply Kd.S_alloc | apply Kd.S_drewN | apply Kd.S_drew)); exact HO1819.out) hb); have n1_ := Aside0.mk (blk_below (g := gb1814) (o := .cells #[.int .i64 a0_0, .slice A0_1 l0_1.length c0_1] 31 (0, 0)) (by (with_reducible repeat (first | refine blk_drewN ?_ _ | refine blk_drew ?_ | refine blk_alloc ?_ _)); exact BK1814.out) hb); have n2_ := Aside0.mk (below_step (by repeat (first | (with_reducible first | exact HB.out | apply below_alloc | apply pw_below_drewN | apply below_drew1 | refine below_set ?_ GE1814.out) | exact HB.out)) hb); clear HO1819; clear BK1814; clear HB; have HO1819 := n0_; have BK1814 := n1_; have HB := n2_; clear n0_ n1_ n2_; (try clear hb); (try clear hb2); (try clear hk); (try clear hi)) | ((with_reducible refine gate_dst (N := 20) rfl ?_); refine Kd.R_lit (Kd.int .i64) _ 3 ?hg (N := 20) ?hd (xs := ([] : List Int)) (inner := []) (ok := fun _ => True) (okp := fun _ => True) ?hr ?hp (fun _ hk => hk) trivial (Below.refl _ _) (Nat.le_refl _) (by simp) ?_; (case hd => rfl); (case hg => rfl); (case hr => first | (go_simp; done) | (go_simp; rfl)); (case hp => exact (Reps.none _ _)); intro v1825 w25 ho26 hb hg_ hnew_; clear hg_ hnew_; (first | rw [← Ny1824.out] at ho26 | (simp only [Int.reduceToNat] at ho26; rw [← Ny1824.out] at ho26)); have n0_ := Aside0.mk (Kd.S_elder' (by (with_reducible repeat (first | apply Kd.S_alloc | apply Kd.S_drewN | apply Kd.S_drew)); exact HO1819.out) (Kd.R_base ho26) hb); have n1_ := Aside0.mk (Kd.R_lower ho26 (below_size (by repeat (first | (with_reducible first | exact HB.out | apply below_alloc | apply pw_below_drewN | apply below_drew1 | refine below_set ?_ GE1814.out) | exact HB.out)))); have n2_ := Aside0.mk (blk_below (g := gb1814) (o := .cells #[.int .i64 a0_0, .slice A0_1 l0_1.length c0_1] 31 (0, 0)) (by (with_reducible repeat (first | refine blk_drewN ?_ _ | refine blk_drew ?_ | refine blk_alloc ?_ _)); exact BK1814.out) hb); have n3_ := Aside0.mk (below_step (by repeat (first | (with_reducible first | exact HB.out | apply below_alloc | apply pw_below_drewN | apply below_drew1 | refine below_set ?_ GE1814.out) | exact HB.out)) hb); clear HO1819; clear BK1814; clear HB; have HO1819 := n0_; have HO1826 := n1_; have BK1814 := n2_; have HB := n3_; clear n0_ n1_ n2_ n3_; clear hb ho26))
   go_ret2
   exact ⟨_, by first | rfl | (simp [errW_none, errW_some] <;> rfl) | (simp [*, errW_none, errW_some] <;> rfl), by (with_reducible repeat (first | apply Kd.R_alloc | apply Kd.R_drewN | apply Kd.R_drew)); exact HO1826.out, by repeat (first | (with_reducible first | exact HB.out | apply below_alloc | apply pw_below_drewN | apply below_drew1 | refine below_set ?_ GE1814.out) | exact HB.out)⟩
 ·replace c5 := Bool.eq_false_iff.mpr c5
  subst c5
  have H1 : (some ((([] : List Int)), false)) = some (r1, r2) := by rw [if_neg (show ¬ (false = true) by decide)] at H; exact H
  clear H
  have H := H1
  clear H1
  obtain ⟨y1827, hy1827⟩ : ∃ y_ : List Int, y_ = (([] : List Int)) := ⟨_, rfl⟩
  replace H : (some (y1827, false)) = some (r1, r2) := by first | (rw [hy1827]; with_reducible exact H) | (have H2_ := (Option.bind_some _ _).symm.trans H; rw [hy1827]; with_reducible exact H2_) | (have H2_ := (Option.bind_some _ _).symm.trans H; with_reducible exact H2_) | with_reducible exact H | (rw [hy1827]; exact H) | exact H
  have Ny1827 := Aside0.mk hy1827
  clear hy1827
  simp only [Option.some.injEq, Prod.mk.injEq] at H
  obtain ⟨rfl, rfl⟩ := H
  go_enter Try.func55, Try.ntmps55
  go_wp2_with (first | ((with_reducible refine gate_dst (N := 3) rfl ?_); refine box_event ?hg (N := 3) ?hd (cs := #[.int .i64 a0_0, .slice A0_1 l0_1.length c0_1]) (t := 31) ?hr ?_; (case hd => rfl); (case hg => rfl); (case hr => first | (go_simp; done) | (go_simp; rfl)); intro gb1814 hg w27 hbox hb; have n0_ := Aside0.mk (below_step (by repeat (first | (with_reducible first | exact HB.out | apply below_alloc | apply pw_below_drewN | apply below_drew1) | exact HB.out)) hb); have n1_ := Aside0.mk (hbox); have n2_ := Aside0.mk ((by rw [hg]; exact (below_size (by repeat (first | (with_reducible first | exact HB.out | apply below_alloc | apply pw_below_drewN | apply below_drew1) | exact HB.out))) : w.heap.size ≤ gb1814)); have n3_ := Aside0.mk ((by rw [hg]; exact (below_size (by repeat (first | (with_reducible first | exact HB.out | apply below_alloc | apply pw_below_drewN | apply below_drew1) | exact HB.out))) : w.heap.size ≤ gb1814)); clear HB; have HB := n0_; have BK1814 := n1_; have GW1814 := n2_; have GE1814 := n3_; clear n0_ n1_ n2_ n3_; clear hb hbox hg; have hcz28_0 : w27.cell? ⟨gb1814, 0, none⟩ = some (.int .i64 a0_0) := (blk_cell BK1814.out 0).trans rfl; have hcz28_1 : w27.cell? ⟨gb1814, 1, none⟩ = some (.slice A0_1 l0_1.length c0_1) := (blk_cell BK1814.out 1).trans rfl; have hfz28_0 := blk_frozen BK1814.out 0; have hfz28_1 := blk_frozen BK1814.out 1) | ((with_reducible refine gate_callee (f := 84) rfl ?_); refine goesL_ (some 10) rfl rfl Try.func84 (by kernel_rfl) rfl #[.agg #[.int .i64 a0_0, .slice A0_1 l0_1.length c0_1], .slice A1 l1.length c1] rfl (by (try simp only [List.map_toArray, List.map_cons, List.map_nil]); first | done | rfl | (simp only [List.length_drop, List.length_take]; rfl)) ?_; (with_reducible refine (spec_l9Takes.calls k a0_0 _ _ l0_1 _ _ l1 false _ ?side1 ?side2 ?side3 ?side4 A4.out).mono ?_); (case side1 => repeat (first | exact (Kd.C_below HR0_1.out HB.out) | (with_reducible refine Kd.C_alloc ?_ _) | (with_reducible refine Kd.C_drewN ?_ _) | (with_reducible refine Kd.C_drew ?_))); (case side2 => exact HC0_1.out); (case side3 => repeat (first | exact (Kd.C_below HR1.out HB.out) | (with_reducible refine Kd.C_alloc ?_ _) | (with_reducible refine Kd.C_drewN ?_ _) | (with_reducible refine Kd.C_drew ?_))); (case side4 => exact HC1.out); rintro e w29 ⟨rfl, hb⟩; refine ⟨_, rfl, ?_⟩; have n0_ := Aside0.mk (blk_below (g := gb1814) (o := .cells #[.int .i64 a0_0, .slice A0_1 l0_1.length c0_1] 31 (0, 0)) (by (with_reducible repeat (first | refine blk_drewN ?_ _ | refine blk_drew ?_ | refine blk_alloc ?_ _)); exact BK1814.out) hb); have n1_ := Aside0.mk (below_step (by repeat (first | (with_reducible first | exact HB.out | apply below_alloc | apply pw_below_drewN | apply below_drew1 | refine below_set ?_ GE1814.out) | exact HB.out)) hb); clear BK1814; clear HB; have BK1814 := n0_; have HB := n1_; clear n0_ n1_; (try clear hb); (try clear hb2); (try clear hk); (try clear hi)) | ((with_reducible refine gate_dst (N := 20) rfl ?_); refine Kd.R_lit (Kd.int .i64) _ 3 ?hg (N := 20) ?hd (xs := ([] : List Int)) (inner := []) (ok := fun _ => True) (okp := fun _ => True) ?hr ?hp (fun _ hk => hk) trivial (Below.refl _ _) (Nat.le_refl _) (by simp) ?_; (case hd => rfl); (case hg => rfl); (case hr => first | (go_simp; done) | (go_simp; rfl)); (case hp => exact (Reps.none _ _)); intro v1828 w30 ho31 hb hg_ hnew_; clear hg_ hnew_; (first | rw [← Ny1827.out] at ho31 | (simp only [Int.reduceToNat] at ho31; rw [← Ny1827.out] at ho31)); have n0_ := Aside0.mk (Kd.R_lower ho31 (below_size (by repeat (first | (with_reducible first | exact HB.out | apply below_alloc | apply pw_below_drewN | apply below_drew1 | refine below_set ?_ GE1814.out) | exact HB.out)))); have n1_ := Aside0.mk (blk_below (g := gb1814) (o := .cells #[.int .i64 a0_0, .slice A0_1 l0_1.length c0_1] 31 (0, 0)) (by (with_reducible repeat (first | refine blk_drewN ?_ _ | refine blk_drew ?_ | refine blk_alloc ?_ _)); exact BK1814.out) hb); have n2_ := Aside0.mk (below_step (by repeat (first | (with_reducible first | exact HB.out | apply below_alloc | apply pw_below_drewN | apply below_drew1 | refine below_set ?_ GE1814.out) | exact HB.out)) hb); clear BK1814; clear HB; have HO1829 := n0_; have BK1814 := n1_; have HB := n2_; clear n0_ n1_ n2_; clear hb ho31))
  go_ret2
  exact ⟨_, by first | rfl | (simp [errW_none, errW_some] <;> rfl) | (simp [*, errW_none, errW_some] <;> rfl), by (with_reducible repeat (first | apply Kd.R_alloc | apply Kd.R_drewN | apply Kd.R_drew)); exact HO1829.out, by repeat (first | (with_reducible first | exact HB.out | apply below_alloc | apply pw_below_drewN | apply below_drew1 | refine below_set ?_ GE1814.out) | exact HB.out)⟩
end Go.Proofs.Ytnnbgfphinemfaa.Q

namespace Go.Proofs.Ytnnbgfphinemfaa.Q
open Go.RowKit Go.Proofs.YtnnbgfphinemfaaW.PrintWords Go.Proofs.YtnnbgfphinemfaaW.PrintLast Go.Proofs.YtnnbgfphinemfaaW.PrintMore
attribute [local go_sem] max2_int min2_int max_two min_two max_three min_three max_four min_four
set_option linter.unusedVariables false
set_option linter.unusedSimpArgs false
def impl_compose.l0 : Nat → List Int → List Int → List Int → Int → Int → Option (List Int)
 | 0, _, _, _, _, _ => none
 | k + 1, x1, x5, x11, x12, x13 => if x13 < x12 then (if 0 ≤ x13 then (if x13 < (x11.length : Int) then (if 0 ≤ (rd x11 x13) then (if (rd x11 x13) < (x1.length : Int) then (if x13 < (x5.length : Int) then (impl_compose.l0 k x1 (x5.set (x13 : Int).toNat (rd x1 (rd x11 x13))) x11 x12 (wrap64 (x13 + 1))) else (none)) else (none)) else (none)) else (none)) else (none)) else (some x5)
def impl_compose.f (k : Nat) (l0 : List Int) (l1 : List Int) : Option (List Int) := if 0 ≤ (l0.length : Int) then (if ((l0.length : Int) : Int).toNat ≤ 35184372088832 then (impl_compose.l0 k l1 (List.replicate ((l0.length : Int) : Int).toNat 0) l0 (l0.length : Int) 0) else (none)) else (none)
theorem impl_compose.mono_l : ∀ k, (∀ y0 y1 y2 y3 y4, LeO (impl_compose.l0 k y0 y1 y2 y3 y4) (impl_compose.l0 (k + 1) y0 y1 y2 y3 y4))
 | 0 => fun _ _ _ _ _ r h => by simp [impl_compose.l0] at h
 | k + 1 => by
  have ih0 := impl_compose.mono_l k
  ·intro y0 y1 y2 y3 y4
   unfold impl_compose.l0
   repeat' first
   | (with_reducible exact ih0 _ _ _ _ _)
   | (with_reducible exact LeO.refl _)
   | (with_reducible exact LeO.none _)
   | (with_reducible refine LeO.ite ?_ ?_)
   | (with_reducible refine LeO.bind ?_ (fun _ => ?_))
   | exact ih0 _ _ _ _ _
   | exact LeO.none _
   | refine LeO.ite ?_ ?_
   | refine LeO.bind ?_ (fun _ => ?_)
theorem impl_compose.mono : ∀ a0 a1 k, LeO (impl_compose.f k a0 a1) (impl_compose.f (k + 1) a0 a1) := by
 intro a0 a1 k
 have ih0 := impl_compose.mono_l k
 unfold impl_compose.f
 repeat' first
   | (with_reducible exact ih0 _ _ _ _ _)
   | (with_reducible exact LeO.refl _)
   | (with_reducible exact LeO.none _)
   | (with_reducible refine LeO.ite ?_ ?_)
   | (with_reducible refine LeO.bind ?_ (fun _ => ?_))
   | exact ih0 _ _ _ _ _
   | exact LeO.none _
   | refine LeO.ite ?_ ?_
   | refine LeO.bind ?_ (fun _ => ?_)
set_option maxHeartbeats 8000000 in
set_option maxRecDepth 100000 in
theorem impl_compose.calls (k : Nat) (A0 : Option Addr) (c0 : Nat) (l0 : List Int) (A1 : Option Addr) (c1 : Nat) (l1 : List Int) (r : List Int) (w : World) (hr0 : Kd.C (Kd.int .i64) w A0 l0.length l0) (hc0 : l0.length ≤ c0) (hr1 : Kd.C (Kd.int .i64) w A1 l1.length l1) (hc1 : l1.length ≤ c1) (h : impl_compose.f k l0 l1 = some r) :
  Calls Try.prog 71 #[.slice A0 l0.length c0, .slice A1 l1.length c1] w fun e w' => ∃ v0_ : Value, e = .returned (v0_) ∧ Kd.R (Kd.int .i64) 3 w' w.heap.size (fun _ => True) v0_ r ∧ Below w.heap.size w w' := by
 have HR0 := Aside0.mk hr0
 have HC0 := Aside0.mk hc0
 clear hr0 hc0
 have HR1 := Aside0.mk hr1
 have HC1 := Aside0.mk hc1
 clear hr1 hc1
 have HB := Aside0.mk (Below.refl w.heap.size w)
 have H : (if 0 ≤ (l0.length : Int) then (if ((l0.length : Int) : Int).toNat ≤ 35184372088832 then (impl_compose.l0 k l1 (List.replicate ((l0.length : Int) : Int).toNat 0) l0 (l0.length : Int) 0) else (none)) else (none)) = some r := h
 clear h
 by_cases c3 : 0 ≤ (l0.length : Int)
 ·rw [if_pos c3] at H
  have c3b0 := eq_true c3
  have c3b1 : decide (0 ≤ (l0.length : Int)) = true := decide_eq_true c3
  clear c3
  by_cases c4 : ((l0.length : Int) : Int).toNat ≤ 35184372088832
  ·rw [if_pos c4] at H
   have c4b0 := eq_true c4
   have c4b1 : decide (((l0.length : Int) : Int).toNat ≤ 35184372088832) = true := decide_eq_true c4
   clear c4
   obtain ⟨y422, hy422⟩ : ∃ y_ : List Int, y_ = (List.replicate ((l0.length : Int) : Int).toNat 0) := ⟨_, rfl⟩
   replace H : (impl_compose.l0 k l1 y422 l0 (l0.length : Int) 0) = some r := by first | (rw [hy422]; with_reducible exact H) | (have H2_ := (Option.bind_some _ _).symm.trans H; rw [hy422]; with_reducible exact H2_) | (have H2_ := (Option.bind_some _ _).symm.trans H; with_reducible exact H2_) | with_reducible exact H | (rw [hy422]; exact H) | exact H
   have Ny422 := Aside0.mk hy422
   clear hy422
   have H' := Aside0.mk H
   clear H
   go_enter Try.func71, Try.ntmps71
   go_wp2_with (first | ((with_reducible refine gate_dst (N := 10) rfl ?_); refine Kd.R_make (Kd.int .i64) _ 3 rfl (N := 10) rfl 25 _ _ rfl (l0.length : Int) rfl rfl Try.underlying25 (.int .i64 0) 8 info3 rfl (by decide) (by omega) 0 (ok := fun _ => True) (okp := fun _ => True) rfl (fun _ hk => hk) trivial (of_decide_eq_true (by first | (with_reducible assumption) | assumption)) (Nat.le_trans (Nat.mul_le_mul_right _ (of_decide_eq_true (by first | (with_reducible assumption) | assumption) : (l0.length : Int).toNat ≤ 35184372088832)) (by omega)) (Below.refl _ _) (Nat.le_refl _) ?_; intro v423 w5 ho6 hb hg_ hnew_; clear hg_ hnew_; (first | rw [← Ny422.out] at ho6 | (simp only [Int.reduceToNat] at ho6; rw [← Ny422.out] at ho6)); have n0_ := Aside0.mk (Kd.R_lower ho6 (below_size (by repeat (first | (with_reducible first | exact HB.out | apply below_alloc | apply pw_below_drewN | apply below_drew1) | exact HB.out)))); have n1_ := Aside0.mk (below_step (by repeat (first | (with_reducible first | exact HB.out | apply below_alloc | apply pw_below_drewN | apply below_drew1) | exact HB.out)) hb); clear HB; have HO424 := n0_; have HB := n1_; clear n0_ n1_; clear hb ho6))
   go_loopg [13] k (fun kq v13 w' => ∃ (x5_1 : List Int) (x13_1 : Int), v13 = .int .i64 x13_1 ∧ Aside0 (impl_compose.l0 kq l1 x5_1 l0 (l0.length : Int) x13_1 = some r) ∧ Aside0 (kq ≤ k) ∧ Aside0 (Kd.R (Kd.int .i64) 3 w' w.heap.size (fun _ => True) v423 x5_1) ∧ Aside0 (Below w.heap.size w w'))
   case atStart => exact ⟨(y422), (0), (by first | rfl | (simp; done) | (simp [*]; done)), H', ⟨Nat.le_refl _⟩, ⟨by (with_reducible repeat (first | apply Kd.R_alloc | apply Kd.R_drewN | apply Kd.R_drew)); exact HO424.out⟩, ⟨by repeat (first | (with_reducible first | exact HB.out | apply below_alloc | apply pw_below_drewN | apply below_drew1) | exact HB.out)⟩⟩
   case round =>
    clear H'
    try clear c1
    try clear p2
    try clear c3
    try clear c3b0
    try clear c3b1
    try clear c4
    try clear c4b0
    try clear c4b1
    obtain ⟨x5_1, x13_1, rfl, HA, HK1, HO_5, HB⟩ := hrel
    cases gk with
    | zero => exact absurd HA.out (by simp [impl_compose.l0])
    | succ k1 =>
     have H := HA.out
     clear HA
     simp only [impl_compose.l0] at H
     by_cases c7 : x13_1 < (l0.length : Int)
     ·rw [if_pos c7] at H
      have c7b0 : decide (x13_1 < (l0.length : Int)) = true := decide_eq_true c7
      clear c7
      by_cases c8 : 0 ≤ x13_1
      ·rw [if_pos c8] at H
       have c8b0 : decide (0 ≤ x13_1) = true := decide_eq_true c8
       clear c8
       by_cases c9 : x13_1 < (l0.length : Int)
       ·rw [if_pos c9] at H
        have c9b0 : decide (x13_1 < (l0.length : Int)) = true := decide_eq_true c9
        clear c9
        by_cases c10 : 0 ≤ (rd l0 x13_1)
        ·rw [if_pos c10] at H
         have c10b0 : decide (0 ≤ (rd l0 x13_1)) = true := decide_eq_true c10
         clear c10
         by_cases c11 : (rd l0 x13_1) < (l1.length : Int)
         ·rw [if_pos c11] at H
          have c11b0 : decide ((rd l0 x13_1) < (l1.length : Int)) = true := decide_eq_true c11
          clear c11
          by_cases c12 : x13_1 < (x5_1.length : Int)
          ·rw [if_pos c12] at H
           have c12b0 : decide (x13_1 < (x5_1.length : Int)) = true := decide_eq_true c12
           clear c12
           obtain ⟨y427, hy427⟩ : ∃ y_ : List Int, y_ = (x5_1.set (x13_1 : Int).toNat (rd l1 (rd l0 x13_1))) := ⟨_, rfl⟩
           replace H : (impl_compose.l0 k1 l1 y427 l0 (l0.length : Int) (wrap64 (x13_1 + 1))) = some r := by first | (rw [hy427]; with_reducible exact H) | (have H2_ := (Option.bind_some _ _).symm.trans H; rw [hy427]; with_reducible exact H2_) | (have H2_ := (Option.bind_some _ _).symm.trans H; with_reducible exact H2_) | with_reducible exact H | (rw [hy427]; exact H) | exact H
           have Ny427 := Aside0.mk hy427
           clear hy427
           have H' := Aside0.mk H
           clear H
           have p425 : 0 ≤ (x13_1 : Int) := of_decide_eq_true (by first | (with_reducible assumption) | assumption)
           have q425 : x13_1 < (l0.length : Int) := of_decide_eq_true (by first | (with_reducible assumption) | assumption)
           obtain ⟨ad425, e425, hx425_0⟩ := Kd.at_int HR0.out x13_1 p425 q425
           cases e425
           replace hx425_0 := (HB.out.cell (World.block_lt_of_cell? w _ hx425_0)).trans hx425_0
           replace p425 := eq_true p425
           replace q425 := eq_true q425
           have p426 : 0 ≤ ((rd l0 x13_1) : Int) := of_decide_eq_true (by first | (with_reducible assumption) | assumption)
           have q426 : (rd l0 x13_1) < (l1.length : Int) := of_decide_eq_true (by first | (with_reducible assumption) | assumption)
           obtain ⟨ad426, e426, hx426_0⟩ := Kd.at_int HR1.out (rd l0 x13_1) p426 q426
           cases e426
           replace hx426_0 := (HB.out.cell (World.block_lt_of_cell? w _ hx426_0)).trans hx426_0
           replace p426 := eq_true p426
           replace q426 := eq_true q426
           have p13 : 0 ≤ (x13_1 : Int) := of_decide_eq_true (by first | (with_reducible assumption) | assumption)
           have q13 : (x13_1 : Int) < ((x5_1.length : Int) : Int) := of_decide_eq_true (by first | (with_reducible assumption) | assumption)
           obtain ⟨go13, co13, eo13, gb13, gl13, cl13, HG13⟩ := Kd.R_form HO_5.out (by omega)
           (first | cases eo13 | (injection eo13 with ea_ en_ ec_; (first | subst ea_ | (injection ea_ with ea_; subst ea_)); subst ec_; clear en_))
           have GB13 := Aside0.mk gb13
           have GG13 := Aside0.mk HG13
           clear gb13 gl13 HG13
           obtain ⟨hx13_0, hf13_0⟩ := Kd.R_celln 0 HO_5.out (x13_1 : Int) p13 q13
           replace p13 := eq_true p13
           replace q13 := eq_true q13
           have HP14 := Kd.R_putg HO_5.out (x13_1 : Int) (rd l1 (rd l0 x13_1))
           go_wp2_with (first | ((with_reducible refine gate_store (t := 3) (p := 24) rfl ?_); refine store_event (t := 3) (p := 24) (v := ?vo_w15) (w1 := (wr.setCell ⟨go13, (x13_1 : Int).toNat, none⟩ (.int .i64 (rd l1 (rd l0 x13_1))))) ?hg ?ho ?hn ?hr ?_; (case ho => rfl); (case hg => rfl); (case hn => rfl); (case hr => first | (go_simp; done) | (go_simp; rfl)); intro w15 hw; have hg : wr.grownBy w15 (some go13) := (by rw [hw]; exact HP14.2); have hp_ : Kd.R (Kd.int .i64) 3 w15 w.heap.size (fun _ => True) (.slice (some ⟨go13, 0, none⟩) x5_1.length co13) y427 := (by rw [hw, Ny427.out]; exact HP14.1); clear HP14; have n0_ := Aside0.mk (hp_); have n1_ := Aside0.mk ((by rw [hw]; exact below_set (HB.out) GB13.out : Below w.heap.size w w15)); clear HO_5; clear HB; have HO_5 := n0_; have HB := n1_; clear n0_ n1_; clear hg hw hp_))
           go_roundg k1
           case measure => have := HK1.out; omega
           case rel => exact ⟨(y427), (wrap64 (x13_1 + 1)), (by first | rfl | (simp; done) | (simp [*]; done)), H', ⟨by have := HK1.out; omega⟩, ⟨by (with_reducible repeat (first | apply Kd.R_alloc | apply Kd.R_drewN | apply Kd.R_drew)); exact HO_5.out⟩, ⟨by repeat (first | (with_reducible first | exact HB.out | apply below_alloc | apply pw_below_drewN | apply below_drew1) | exact HB.out)⟩⟩
          ·rw [if_neg c12] at H
           exact absurd H (by simp)
         ·rw [if_neg c11] at H
          exact absurd H (by simp)
        ·rw [if_neg c10] at H
         exact absurd H (by simp)
       ·rw [if_neg c9] at H
        exact absurd H (by simp)
      ·rw [if_neg c8] at H
       exact absurd H (by simp)
     ·rw [if_neg c7] at H
      have c7b0 : decide (x13_1 < (l0.length : Int)) = false := decide_eq_false c7
      clear c7
      obtain rfl := Option.some.inj H
      go_wp2
      go_ret
      exact ⟨_, by first | rfl | (simp [errW_none, errW_some] <;> rfl) | (simp [*, errW_none, errW_some] <;> rfl), by (with_reducible repeat (first | apply Kd.R_alloc | apply Kd.R_drewN | apply Kd.R_drew)); exact HO_5.out, by repeat (first | (with_reducible first | exact HB.out | apply below_alloc | apply pw_below_drewN | apply below_drew1) | exact HB.out)⟩
  ·rw [if_neg c4] at H
   exact absurd H (by simp)
 ·rw [if_neg c3] at H
  exact absurd H (by simp)
end Go.Proofs.Ytnnbgfphinemfaa.Q

namespace Go.Proofs.Ytnnbgfphinemfaa.Q
open Go.RowKit Go.Proofs.YtnnbgfphinemfaaW.PrintWords Go.Proofs.YtnnbgfphinemfaaW.PrintLast Go.Proofs.YtnnbgfphinemfaaW.PrintMore
attribute [local go_sem] max2_int min2_int max_two min_two max_three min_three max_four min_four
set_option linter.unusedVariables false
set_option linter.unusedSimpArgs false
mutual
def impl_kernelOf.l0 : Nat → List Int → List Int → Int → Int → Option (List Int)
 | 0, _, _, _, _ => none
 | k + 1, x0, x3, x9, x10 => if x10 < x9 then (if 0 ≤ x10 then (if x10 < (x3.length : Int) then (impl_kernelOf.l1 k x0 (x3.set (x10 : Int).toNat 0) x10 x9 x10) else (none)) else (none)) else (some x3)
def impl_kernelOf.l1 : Nat → List Int → List Int → Int → Int → Int → Option (List Int)
 | 0, _, _, _, _, _ => none
 | k + 1, x0, x3, x4, x9, x10 => if 0 ≤ x4 then (if x4 < (x3.length : Int) then (if 0 ≤ (rd x3 x4) then (if (rd x3 x4) < (x0.length : Int) then (if x4 < (x0.length : Int) then (if (rd x0 (rd x3 x4)) = (rd x0 x4) then (impl_kernelOf.l0 k x0 x3 x9 (wrap64 (x10 + 1))) else (impl_kernelOf.l1 k x0 (x3.set (x4 : Int).toNat (wrap64 ((rd x3 x4) + 1))) x4 x9 x10)) else (none)) else (none)) else (none)) else (none)) else (none)
end
def impl_kernelOf.f (k : Nat) (l0 : List Int) : Option (List Int) := if 0 ≤ (l0.length : Int) then (if ((l0.length : Int) : Int).toNat ≤ 35184372088832 then (impl_kernelOf.l0 k l0 (List.replicate ((l0.length : Int) : Int).toNat 0) (l0.length : Int) 0) else (none)) else (none)
theorem impl_kernelOf.mono_l : ∀ k, (∀ y0 y1 y2 y3, LeO (impl_kernelOf.l0 k y0 y1 y2 y3) (impl_kernelOf.l0 (k + 1) y0 y1 y2 y3)) ∧ (∀ y0 y1 y2 y3 y4, LeO (impl_kernelOf.l1 k y0 y1 y2 y3 y4) (impl_kernelOf.l1 (k + 1) y0 y1 y2 y3 y4))
 | 0 => ⟨fun _ _ _ _ r h => by simp [impl_kernelOf.l0] at h, fun _ _ _ _ _ r h => by simp [impl_kernelOf.l1] at h⟩
 | k + 1 => by
  obtain ⟨ih0, ih1⟩ := impl_kernelOf.mono_l k
  refine ⟨?_, ?_⟩
  ·intro y0 y1 y2 y3
   unfold impl_kernelOf.l0
   repeat' first
   | (with_reducible exact ih0 _ _ _ _)
   | (with_reducible exact ih1 _ _ _ _ _)
   | (with_reducible exact LeO.refl _)
   | (with_reducible exact LeO.none _)
   | (with_reducible refine LeO.ite ?_ ?_)
   | (with_reducible refine LeO.bind ?_ (fun _ => ?_))
   | exact ih0 _ _ _ _
   | exact ih1 _ _ _ _ _
   | exact LeO.none _
   | refine LeO.ite ?_ ?_
   | refine LeO.bind ?_ (fun _ => ?_)
  ·intro y0 y1 y2 y3 y4
   unfold impl_kernelOf.l1
   repeat' first
   | (with_reducible exact ih0 _ _ _ _)
   | (with_reducible exact ih1 _ _ _ _ _)
   | (with_reducible exact LeO.refl _)
   | (with_reducible exact LeO.none _)
   | (with_reducible refine LeO.ite ?_ ?_)
   | (with_reducible refine LeO.bind ?_ (fun _ => ?_))
   | exact ih0 _ _ _ _
   | exact ih1 _ _ _ _ _
   | exact LeO.none _
   | refine LeO.ite ?_ ?_
   | refine LeO.bind ?_ (fun _ => ?_)
theorem impl_kernelOf.mono : ∀ a0 k, LeO (impl_kernelOf.f k a0) (impl_kernelOf.f (k + 1) a0) := by
 intro a0 k
 obtain ⟨ih0, ih1⟩ := impl_kernelOf.mono_l k
 unfold impl_kernelOf.f
 repeat' first
   | (with_reducible exact ih0 _ _ _ _)
   | (with_reducible exact ih1 _ _ _ _ _)
   | (with_reducible exact LeO.refl _)
   | (with_reducible exact LeO.none _)
   | (with_reducible refine LeO.ite ?_ ?_)
   | (with_reducible refine LeO.bind ?_ (fun _ => ?_))
   | exact ih0 _ _ _ _
   | exact ih1 _ _ _ _ _
   | exact LeO.none _
   | refine LeO.ite ?_ ?_
   | refine LeO.bind ?_ (fun _ => ?_)
set_option maxHeartbeats 8000000 in
set_option maxRecDepth 100000 in
theorem impl_kernelOf.calls (k : Nat) (A0 : Option Addr) (c0 : Nat) (l0 : List Int) (r : List Int) (w : World) (hr0 : Kd.C (Kd.int .i64) w A0 l0.length l0) (hc0 : l0.length ≤ c0) (h : impl_kernelOf.f k l0 = some r) :
  Calls Try.prog 83 #[.slice A0 l0.length c0] w fun e w' => ∃ v0_ : Value, e = .returned (v0_) ∧ Kd.R (Kd.int .i64) 3 w' w.heap.size (fun _ => True) v0_ r ∧ Below w.heap.size w w' := by
 have HR0 := Aside0.mk hr0
 have HC0 := Aside0.mk hc0
 clear hr0 hc0
 have HB := Aside0.mk (Below.refl w.heap.size w)
 have H : (if 0 ≤ (l0.length : Int) then (if ((l0.length : Int) : Int).toNat ≤ 35184372088832 then (impl_kernelOf.l0 k l0 (List.replicate ((l0.length : Int) : Int).toNat 0) (l0.length : Int) 0) else (none)) else (none)) = some r := h
 clear h
 by_cases c2 : 0 ≤ (l0.length : Int)
 ·rw [if_pos c2] at H
  have c2b0 := eq_true c2
  have c2b1 : decide (0 ≤ (l0.length : Int)) = true := decide_eq_true c2
  clear c2
  by_cases c3 : ((l0.length : Int) : Int).toNat ≤ 35184372088832
  ·rw [if_pos c3] at H
   have c3b0 := eq_true c3
   have c3b1 : decide (((l0.length : Int) : Int).toNat ≤ 35184372088832) = true := decide_eq_true c3
   clear c3
   obtain ⟨y785, hy785⟩ : ∃ y_ : List Int, y_ = (List.replicate ((l0.length : Int) : Int).toNat 0) := ⟨_, rfl⟩
   replace H : (impl_kernelOf.l0 k l0 y785 (l0.length : Int) 0) = some r := by first | (rw [hy785]; with_reducible exact H) | (have H2_ := (Option.bind_some _ _).symm.trans H; rw [hy785]; with_reducible exact H2_) | (have H2_ := (Option.bind_some _ _).symm.trans H; with_reducible exact H2_) | with_reducible exact H | (rw [hy785]; exact H) | exact H
   have Ny785 := Aside0.mk hy785
   clear hy785
   have H' := Aside0.mk H
   clear H
   go_enter Try.func83, Try.ntmps83
   go_wp2_with (first | ((with_reducible refine gate_dst (N := 7) rfl ?_); refine Kd.R_make (Kd.int .i64) _ 3 rfl (N := 7) rfl 25 _ _ rfl (l0.length : Int) rfl rfl Try.underlying25 (.int .i64 0) 8 info3 rfl (by decide) (by omega) 0 (ok := fun _ => True) (okp := fun _ => True) rfl (fun _ hk => hk) trivial (of_decide_eq_true (by first | (with_reducible assumption) | assumption)) (Nat.le_trans (Nat.mul_le_mul_right _ (of_decide_eq_true (by first | (with_reducible assumption) | assumption) : (l0.length : Int).toNat ≤ 35184372088832)) (by omega)) (Below.refl _ _) (Nat.le_refl _) ?_; intro v786 w4 ho5 hb hg_ hnew_; clear hg_ hnew_; (first | rw [← Ny785.out] at ho5 | (simp only [Int.reduceToNat] at ho5; rw [← Ny785.out] at ho5)); have n0_ := Aside0.mk (Kd.R_lower ho5 (below_size (by repeat (first | (with_reducible first | exact HB.out | apply below_alloc | apply pw_below_drewN | apply below_drew1) | exact HB.out)))); have n1_ := Aside0.mk (below_step (by repeat (first | (with_reducible first | exact HB.out | apply below_alloc | apply pw_below_drewN | apply below_drew1) | exact HB.out)) hb); clear HB; have HO787 := n0_; have HB := n1_; clear n0_ n1_; clear hb ho5))
   repeat (go_quiet (first | ((with_reducible refine gate_dst (N := 7) rfl ?_); refine Kd.R_make (Kd.int .i64) _ 3 rfl (N := 7) rfl 25 _ _ rfl (l0.length : Int) rfl rfl Try.underlying25 (.int .i64 0) 8 info3 rfl (by decide) (by omega) 0 (ok := fun _ => True) (okp := fun _ => True) rfl (fun _ hk => hk) trivial (of_decide_eq_true (by first | (with_reducible assumption) | assumption)) (Nat.le_trans (Nat.mul_le_mul_right _ (of_decide_eq_true (by first | (with_reducible assumption) | assumption) : (l0.length : Int).toNat ≤ 35184372088832)) (by omega)) (Below.refl _ _) (Nat.le_refl _) ?_; intro v786 w4 ho5 hb hg_ hnew_; clear hg_ hnew_; (first | rw [← Ny785.out] at ho5 | (simp only [Int.reduceToNat] at ho5; rw [← Ny785.out] at ho5)); have n0_ := Aside0.mk (Kd.R_lower ho5 (below_size (by repeat (first | (with_reducible first | exact HB.out | apply below_alloc | apply pw_below_drewN | apply below_drew1) | exact HB.out)))); have n1_ := Aside0.mk (below_step (by repeat (first | (with_reducible first | exact HB.out | apply below_alloc | apply pw_below_drewN | apply below_drew1) | exact HB.out)) hb); clear HB; have HO787 := n0_; have HB := n1_; clear n0_ n1_; clear hb ho5)); try go_wp2_with (first | ((with_reducible refine gate_dst (N := 7) rfl ?_); refine Kd.R_make (Kd.int .i64) _ 3 rfl (N := 7) rfl 25 _ _ rfl (l0.length : Int) rfl rfl Try.underlying25 (.int .i64 0) 8 info3 rfl (by decide) (by omega) 0 (ok := fun _ => True) (okp := fun _ => True) rfl (fun _ hk => hk) trivial (of_decide_eq_true (by first | (with_reducible assumption) | assumption)) (Nat.le_trans (Nat.mul_le_mul_right _ (of_decide_eq_true (by first | (with_reducible assumption) | assumption) : (l0.length : Int).toNat ≤ 35184372088832)) (by omega)) (Below.refl _ _) (Nat.le_refl _) ?_; intro v786 w4 ho5 hb hg_ hnew_; clear hg_ hnew_; (first | rw [← Ny785.out] at ho5 | (simp only [Int.reduceToNat] at ho5; rw [← Ny785.out] at ho5)); have n0_ := Aside0.mk (Kd.R_lower ho5 (below_size (by repeat (first | (with_reducible first | exact HB.out | apply below_alloc | apply pw_below_drewN | apply below_drew1) | exact HB.out)))); have n1_ := Aside0.mk (below_step (by repeat (first | (with_reducible first | exact HB.out | apply below_alloc | apply pw_below_drewN | apply below_drew1) | exact HB.out)) hb); clear HB; have HO787 := n0_; have HB := n1_; clear n0_ n1_; clear hb ho5)))
   go_loopg [10] k (fun kq v10 w' => ∃ (x3_1 : List Int) (x10_1 : Int), v10 = .int .i64 x10_1 ∧ Aside0 (impl_kernelOf.l0 kq l0 x3_1 (l0.length : Int) x10_1 = some r) ∧ Aside0 (kq ≤ k) ∧ Aside0 (Kd.R (Kd.int .i64) 3 w' w.heap.size (fun _ => True) v786 x3_1) ∧ Aside0 (Below w.heap.size w w'))
   case atStart => exact ⟨(y785), (0), (by first | rfl | (simp; done) | (simp [*]; done)), H', ⟨Nat.le_refl _⟩, ⟨by (with_reducible repeat (first | apply Kd.R_alloc | apply Kd.R_drewN | apply Kd.R_drew)); exact HO787.out⟩, ⟨by repeat (first | (with_reducible first | exact HB.out | apply below_alloc | apply pw_below_drewN | apply below_drew1) | exact HB.out)⟩⟩
   case round =>
    clear H'
    try clear c2
    try clear c2b0
    try clear c2b1
    try clear p2
    try clear c3
    try clear c3b0
    try clear c3b1
    obtain ⟨x3_1, x10_1, rfl, HA, HK1, HO_3, HB⟩ := hrel
    cases gk with
    | zero => exact absurd HA.out (by simp [impl_kernelOf.l0])
    | succ k1 =>
     have H := HA.out
     clear HA
     simp only [impl_kernelOf.l0] at H
     by_cases c6 : x10_1 < (l0.length : Int)
     ·rw [if_pos c6] at H
      have c6b0 : decide (x10_1 < (l0.length : Int)) = true := decide_eq_true c6
      clear c6
      by_cases c7 : 0 ≤ x10_1
      ·rw [if_pos c7] at H
       have c7b0 : decide (0 ≤ x10_1) = true := decide_eq_true c7
       clear c7
       by_cases c8 : x10_1 < (x3_1.length : Int)
       ·rw [if_pos c8] at H
        have c8b0 : decide (x10_1 < (x3_1.length : Int)) = true := decide_eq_true c8
        clear c8
        obtain ⟨y788, hy788⟩ : ∃ y_ : List Int, y_ = (x3_1.set (x10_1 : Int).toNat 0) := ⟨_, rfl⟩
        replace H : (impl_kernelOf.l1 k1 l0 y788 x10_1 (l0.length : Int) x10_1) = some r := by first | (rw [hy788]; with_reducible exact H) | (have H2_ := (Option.bind_some _ _).symm.trans H; rw [hy788]; with_reducible exact H2_) | (have H2_ := (Option.bind_some _ _).symm.trans H; with_reducible exact H2_) | with_reducible exact H | (rw [hy788]; exact H) | exact H
        have Ny788 := Aside0.mk hy788
        clear hy788
        have H' := Aside0.mk H
        clear H
        have p9 : 0 ≤ (x10_1 : Int) := of_decide_eq_true (by first | (with_reducible assumption) | assumption)
        have q9 : (x10_1 : Int) < ((x3_1.length : Int) : Int) := of_decide_eq_true (by first | (with_reducible assumption) | assumption)
        obtain ⟨go9, co9, eo9, gb9, gl9, cl9, HG9⟩ := Kd.R_form HO_3.out (by omega)
        (first | cases eo9 | (injection eo9 with ea_ en_ ec_; (first | subst ea_ | (injection ea_ with ea_; subst ea_)); subst ec_; clear en_))
        have GB9 := Aside0.mk gb9
        have GG9 := Aside0.mk HG9
        clear gb9 gl9 HG9
        obtain ⟨hx9_0, hf9_0⟩ := Kd.R_celln 0 HO_3.out (x10_1 : Int) p9 q9
        replace p9 := eq_true p9
        replace q9 := eq_true q9
        have HP10 := Kd.R_putg HO_3.out (x10_1 : Int) 0
        go_wp2_with (first | ((with_reducible refine gate_store (t := 3) (p := 15) rfl ?_); (try (rw [drewN_self wr]; generalize hq_ : World.drewN wr _ = wr; have n0_ := Aside0.mk (Kd.R_at hq_ HO_3.out); have n1_ := Aside0.mk (below_at hq_ HB.out); clear hq_ HO_3 HB; have HO_3 := n0_; have HB := n1_; clear n0_ n1_; (try (obtain ⟨hxz_, hfz_⟩ := Kd.R_celln 0 HO_3.out (x10_1 : Int) (of_eq_true p9) (of_eq_true q9))); (try (have HP10 := Kd.R_putg HO_3.out (x10_1 : Int) 0)))); refine store_event (t := 3) (p := 15) (v := ?vo_w11) (w1 := (wr.setCell ⟨go9, (x10_1 : Int).toNat, none⟩ (.int .i64 0))) ?hg ?ho ?hn ?hr ?_; (case ho => rfl); (case hg => rfl); (case hn => rfl); (case hr => first | (go_simp; done) | (go_simp; rfl)); intro w11 hw; have hg : wr.grownBy w11 (some go9) := (by rw [hw]; exact HP10.2); have hp_ : Kd.R (Kd.int .i64) 3 w11 w.heap.size (fun _ => True) (.slice (some ⟨go9, 0, none⟩) x3_1.length co9) y788 := (by rw [hw, Ny788.out]; exact HP10.1); clear HP10; have n0_ := Aside0.mk (hp_); have n1_ := Aside0.mk ((by rw [hw]; exact below_set (HB.out) GB9.out : Below w.heap.size w w11)); clear HO_3; clear HB; have HO_3 := n0_; have HB := n1_; clear n0_ n1_; clear hg hw hp_))
        repeat (go_quiet (first | ((with_reducible refine gate_store (t := 3) (p := 15) rfl ?_); (try (rw [drewN_self wr]; generalize hq_ : World.drewN wr _ = wr; have n0_ := Aside0.mk (Kd.R_at hq_ HO_3.out); have n1_ := Aside0.mk (below_at hq_ HB.out); clear hq_ HO_3 HB; have HO_3 := n0_; have HB := n1_; clear n0_ n1_; (try (obtain ⟨hxz_, hfz_⟩ := Kd.R_celln 0 HO_3.out (x10_1 : Int) (of_eq_true p9) (of_eq_true q9))); (try (have HP10 := Kd.R_putg HO_3.out (x10_1 : Int) 0)))); refine store_event (t := 3) (p := 15) (v := ?vo_w11) (w1 := (wr.setCell ⟨go9, (x10_1 : Int).toNat, none⟩ (.int .i64 0))) ?hg ?ho ?hn ?hr ?_; (case ho => rfl); (case hg => rfl); (case hn => rfl); (case hr => first | (go_simp; done) | (go_simp; rfl)); intro w11 hw; have hg : wr.grownBy w11 (some go9) := (by rw [hw]; exact HP10.2); have hp_ : Kd.R (Kd.int .i64) 3 w11 w.heap.size (fun _ => True) (.slice (some ⟨go9, 0, none⟩) x3_1.length co9) y788 := (by rw [hw, Ny788.out]; exact HP10.1); clear HP10; have n0_ := Aside0.mk (hp_); have n1_ := Aside0.mk ((by rw [hw]; exact below_set (HB.out) GB9.out : Below w.heap.size w w11)); clear HO_3; clear HB; have HO_3 := n0_; have HB := n1_; clear n0_ n1_; clear hg hw hp_)); try go_wp2_with (first | ((with_reducible refine gate_store (t := 3) (p := 15) rfl ?_); (try (rw [drewN_self wr]; generalize hq_ : World.drewN wr _ = wr; have n0_ := Aside0.mk (Kd.R_at hq_ HO_3.out); have n1_ := Aside0.mk (below_at hq_ HB.out); clear hq_ HO_3 HB; have HO_3 := n0_; have HB := n1_; clear n0_ n1_; (try (obtain ⟨hxz_, hfz_⟩ := Kd.R_celln 0 HO_3.out (x10_1 : Int) (of_eq_true p9) (of_eq_true q9))); (try (have HP10 := Kd.R_putg HO_3.out (x10_1 : Int) 0)))); refine store_event (t := 3) (p := 15) (v := ?vo_w11) (w1 := (wr.setCell ⟨go9, (x10_1 : Int).toNat, none⟩ (.int .i64 0))) ?hg ?ho ?hn ?hr ?_; (case ho => rfl); (case hg => rfl); (case hn => rfl); (case hr => first | (go_simp; done) | (go_simp; rfl)); intro w11 hw; have hg : wr.grownBy w11 (some go9) := (by rw [hw]; exact HP10.2); have hp_ : Kd.R (Kd.int .i64) 3 w11 w.heap.size (fun _ => True) (.slice (some ⟨go9, 0, none⟩) x3_1.length co9) y788 := (by rw [hw, Ny788.out]; exact HP10.1); clear HP10; have n0_ := Aside0.mk (hp_); have n1_ := Aside0.mk ((by rw [hw]; exact below_set (HB.out) GB9.out : Below w.heap.size w w11)); clear HO_3; clear HB; have HO_3 := n0_; have HB := n1_; clear n0_ n1_; clear hg hw hp_)))
        go_loopg [] k1 (fun kq w' => ∃ (x3_2 : List Int), Aside0 (impl_kernelOf.l1 kq l0 x3_2 x10_1 (l0.length : Int) x10_1 = some r) ∧ Aside0 (kq ≤ k1) ∧ Aside0 (Kd.R (Kd.int .i64) 3 w' w.heap.size (fun _ => True) (.slice (some ⟨go9, 0, none⟩) x3_1.length co9) x3_2) ∧ Aside0 (Below w.heap.size w w'))
        case atStart => exact ⟨(y788), H', ⟨Nat.le_refl _⟩, ⟨by (with_reducible repeat (first | apply Kd.R_alloc | apply Kd.R_drewN | apply Kd.R_drew)); exact HO_3.out⟩, ⟨by repeat (first | (with_reducible first | exact HB.out | apply below_alloc | apply pw_below_drewN | apply below_drew1) | exact HB.out)⟩⟩
        case round =>
         clear H'
         try clear c2
         try clear c2b0
         try clear c2b1
         try clear p2
         try clear c3
         try clear c3b0
         try clear c3b1
         try clear c6
         try clear c6b0
         try clear c7
         try clear c7b0
         try clear c8
         try clear c8b0
         try clear p9
         try clear q9
         try clear hx9
         try clear hf9
         try clear hx9_0
         try clear p2
         try clear p9
         try clear q9
         obtain ⟨x3_2, HA, HK2, HO_3, HB⟩ := hrel
         have hl3_2 := (Kd.R_reads' HO_3.out).1
         rw [hl3_2] at HO_3
         (try simp only [hl3_2])
         cases gk with
         | zero => exact absurd HA.out (by simp [impl_kernelOf.l1])
         | succ k2 =>
          have H := HA.out
          clear HA
          simp only [impl_kernelOf.l1] at H
          by_cases c12 : 0 ≤ x10_1
          ·rw [if_pos c12] at H
           have c12b0 : decide (0 ≤ x10_1) = true := decide_eq_true c12
           clear c12
           by_cases c13 : x10_1 < (x3_2.length : Int)
           ·rw [if_pos c13] at H
            have c13b0 : decide (x10_1 < (x3_2.length : Int)) = true := decide_eq_true c13
            (try simp only [hl3_2] at c13b0)
            clear c13
            by_cases c14 : 0 ≤ (rd x3_2 x10_1)
            ·rw [if_pos c14] at H
             have c14b0 : decide (0 ≤ (rd x3_2 x10_1)) = true := decide_eq_true c14
             clear c14
             by_cases c15 : (rd x3_2 x10_1) < (l0.length : Int)
             ·rw [if_pos c15] at H
              have c15b0 : decide ((rd x3_2 x10_1) < (l0.length : Int)) = true := decide_eq_true c15
              (try simp only [hl3_2] at c15b0)
              clear c15
              by_cases c16 : x10_1 < (l0.length : Int)
              ·rw [if_pos c16] at H
               have c16b0 : decide (x10_1 < (l0.length : Int)) = true := decide_eq_true c16
               (try simp only [hl3_2] at c16b0)
               clear c16
               by_cases c17 : (rd l0 (rd x3_2 x10_1)) = (rd l0 x10_1)
               ·rw [if_pos c17] at H
                have c17b0 : ((rd l0 (rd x3_2 x10_1)) == (rd l0 x10_1)) = true := beq_iff_eq.mpr c17
                have c17b1 : ((rd l0 (rd x3_2 x10_1)) != (rd l0 x10_1)) = false := bne_eq_false_iff_eq.mpr c17
                clear c17
                have H' := Aside0.mk H
                clear H
                have p789 : 0 ≤ (x10_1 : Int) := of_decide_eq_true (by first | (with_reducible assumption) | assumption)
                have q789 : x10_1 < (x3_2.length : Int) := of_decide_eq_true (by first | (with_reducible assumption) | assumption)
                obtain ⟨ad789, e789, hx789_0⟩ := Kd.at_int (Kd.R_reads' HO_3.out).2.2 x10_1 p789 q789
                obtain rfl : (⟨go9, 0, none⟩ : Addr) = ad789 := (by injection e789)
                (first | simp only [add_plain] at hx789_0 | simp only [add_at] at hx789_0 | simp only [Addr.add, Nat.zero_add] at hx789_0 | skip)
                replace p789 := eq_true p789
                replace q789 := eq_true q789
                have p790 : 0 ≤ ((rd x3_2 x10_1) : Int) := of_decide_eq_true (by first | (with_reducible assumption) | assumption)
                have q790 : (rd x3_2 x10_1) < (l0.length : Int) := of_decide_eq_true (by first | (with_reducible assumption) | assumption)
                obtain ⟨ad790, e790, hx790_0⟩ := Kd.at_int HR0.out (rd x3_2 x10_1) p790 q790
                cases e790
                replace hx790_0 := (HB.out.cell (World.block_lt_of_cell? w _ hx790_0)).trans hx790_0
                replace p790 := eq_true p790
                replace q790 := eq_true q790
                have p791 : 0 ≤ (x10_1 : Int) := of_decide_eq_true (by first | (with_reducible assumption) | assumption)
                have q791 : x10_1 < (l0.length : Int) := of_decide_eq_true (by first | (with_reducible assumption) | assumption)
                obtain ⟨ad791, e791, hx791_0⟩ := Kd.at_int HR0.out x10_1 p791 q791
                obtain rfl : ad790 = ad791 := (by injection e791)
                replace hx791_0 := (HB.out.cell (World.block_lt_of_cell? w _ hx791_0)).trans hx791_0
                replace p791 := eq_true p791
                replace q791 := eq_true q791
                go_wp2
                repeat (go_quiet (fail); try go_wp2)
                (try simp only [← hl3_2])
                go_roundg k2
                case measure => have := HK1.out; have := HK2.out; omega
                case rel => exact ⟨(x3_2), (wrap64 (x10_1 + 1)), (by first | rfl | (simp; done) | (simp [*]; done)), H', ⟨by have := HK1.out; have := HK2.out; omega⟩, ⟨by (try simp only [hl3_2]); (with_reducible repeat (first | apply Kd.R_alloc | apply Kd.R_drewN | apply Kd.R_drew)); exact HO_3.out⟩, ⟨by repeat (first | (with_reducible first | exact HB.out | apply below_alloc | apply pw_below_drewN | apply below_drew1) | exact HB.out)⟩⟩
               ·rw [if_neg c17] at H
                have c17b0 : ((rd l0 (rd x3_2 x10_1)) == (rd l0 x10_1)) = false := beq_eq_false_iff_ne.mpr c17
                have c17b1 : ((rd l0 (rd x3_2 x10_1)) != (rd l0 x10_1)) = true := bne_iff_ne.mpr c17
                obtain ⟨y793, hy793⟩ : ∃ y_ : List Int, y_ = (x3_2.set (x10_1 : Int).toNat (wrap64 ((rd x3_2 x10_1) + 1))) := ⟨_, rfl⟩
                replace H : (impl_kernelOf.l1 k2 l0 y793 x10_1 (l0.length : Int) x10_1) = some r := by first | (rw [hy793]; with_reducible exact H) | (have H2_ := (Option.bind_some _ _).symm.trans H; rw [hy793]; with_reducible exact H2_) | (have H2_ := (Option.bind_some _ _).symm.trans H; with_reducible exact H2_) | with_reducible exact H | (rw [hy793]; exact H) | exact H
                have Ny793 := Aside0.mk hy793
                clear hy793
                have H' := Aside0.mk H
                clear H
                have p789 : 0 ≤ (x10_1 : Int) := of_decide_eq_true (by first | (with_reducible assumption) | assumption)
                have q789 : x10_1 < (x3_2.length : Int) := of_decide_eq_true (by first | (with_reducible assumption) | assumption)
                obtain ⟨ad789, e789, hx789_0⟩ := Kd.at_int (Kd.R_reads' HO_3.out).2.2 x10_1 p789 q789
                obtain rfl : (⟨go9, 0, none⟩ : Addr) = ad789 := (by injection e789)
                (first | simp only [add_plain] at hx789_0 | simp only [add_at] at hx789_0 | simp only [Addr.add, Nat.zero_add] at hx789_0 | skip)
                replace p789 := eq_true p789
                replace q789 := eq_true q789
                have p790 : 0 ≤ ((rd x3_2 x10_1) : Int) := of_decide_eq_true (by first | (with_reducible assumption) | assumption)
                have q790 : (rd x3_2 x10_1) < (l0.length : Int) := of_decide_eq_true (by first | (with_reducible assumption) | assumption)
                obtain ⟨ad790, e790, hx790_0⟩ := Kd.at_int HR0.out (rd x3_2 x10_1) p790 q790
                cases e790
                replace hx790_0 := (HB.out.cell (World.block_lt_of_cell? w _ hx790_0)).trans hx790_0
                replace p790 := eq_true p790
                replace q790 := eq_true q790
                have p791 : 0 ≤ (x10_1 : Int) := of_decide_eq_true (by first | (with_reducible assumption) | assumption)
                have q791 : x10_1 < (l0.length : Int) := of_decide_eq_true (by first | (with_reducible assumption) | assumption)
                obtain ⟨ad791, e791, hx791_0⟩ := Kd.at_int HR0.out x10_1 p791 q791
                obtain rfl : ad790 = ad791 := (by injection e791)
                replace hx791_0 := (HB.out.cell (World.block_lt_of_cell? w _ hx791_0)).trans hx791_0
                replace p791 := eq_true p791
                replace q791 := eq_true q791
                have p792 : 0 ≤ (x10_1 : Int) := of_decide_eq_true (by first | (with_reducible assumption) | assumption)
                have q792 : x10_1 < (x3_2.length : Int) := of_decide_eq_true (by first | (with_reducible assumption) | assumption)
                obtain ⟨ad792, e792, hx792_0⟩ := Kd.at_int (Kd.R_reads' HO_3.out).2.2 x10_1 p792 q792
                obtain rfl : (⟨go9, 0, none⟩ : Addr) = ad792 := (by injection e792)
                (first | simp only [add_plain] at hx792_0 | simp only [add_at] at hx792_0 | simp only [Addr.add, Nat.zero_add] at hx792_0 | skip)
                replace p792 := eq_true p792
                replace q792 := eq_true q792
                have p18 : 0 ≤ (x10_1 : Int) := of_decide_eq_true (by first | (with_reducible assumption) | assumption)
                have q18 : (x10_1 : Int) < ((x3_2.length : Int) : Int) := of_decide_eq_true (by first | (with_reducible assumption) | assumption)
                obtain ⟨hx18_0, hf18_0⟩ := Kd.R_celln 0 HO_3.out (x10_1 : Int) p18 q18
                replace p18 := eq_true p18
                replace q18 := eq_true q18
                have HP19 := Kd.R_putg HO_3.out (x10_1 : Int) (wrap64 ((rd x3_2 x10_1) + 1))
                go_wp2_with (first | ((with_reducible refine gate_store (t := 3) (p := 33) rfl ?_); (try (rw [drewN_self wr]; generalize hq_ : World.drewN wr _ = wr; have n0_ := Aside0.mk (Kd.R_at hq_ HO_3.out); have n1_ := Aside0.mk (below_at hq_ HB.out); clear hq_ HO_3 HB; have HO_3 := n0_; have HB := n1_; clear n0_ n1_; (try (obtain ⟨hxz_, hfz_⟩ := Kd.R_celln 0 HO_3.out (x10_1 : Int) (of_eq_true p18) (of_eq_true q18))); (try (have HP19 := Kd.R_putg HO_3.out (x10_1 : Int) (wrap64 ((rd x3_2 x10_1) + 1)))))); refine store_event (t := 3) (p := 33) (v := ?vo_w20) (w1 := (wr.setCell ⟨go9, (x10_1 : Int).toNat, none⟩ (.int .i64 (wrap64 ((rd x3_2 x10_1) + 1))))) ?hg ?ho ?hn ?hr ?_; (case ho => rfl); (case hg => rfl); (case hn => rfl); (case hr => first | (go_simp; done) | (go_simp; rfl)); intro w20 hw; have hg : wr.grownBy w20 (some go9) := (by rw [hw]; exact HP19.2); have hp_ : Kd.R (Kd.int .i64) 3 w20 w.heap.size (fun _ => True) (.slice (some ⟨go9, 0, none⟩) x3_2.length co9) y793 := (by rw [hw, Ny793.out]; exact HP19.1); clear HP19; have n0_ := Aside0.mk (hp_); have n1_ := Aside0.mk ((by rw [hw]; exact below_set (HB.out) GB9.out : Below w.heap.size w w20)); clear HO_3; clear HB; have HO_3 := n0_; have HB := n1_; clear n0_ n1_; clear hg hw hp_))
                repeat (go_quiet (first | ((with_reducible refine gate_store (t := 3) (p := 33) rfl ?_); (try (rw [drewN_self wr]; generalize hq_ : World.drewN wr _ = wr; have n0_ := Aside0.mk (Kd.R_at hq_ HO_3.out); have n1_ := Aside0.mk (below_at hq_ HB.out); clear hq_ HO_3 HB; have HO_3 := n0_; have HB := n1_; clear n0_ n1_; (try (obtain ⟨hxz_, hfz_⟩ := Kd.R_celln 0 HO_3.out (x10_1 : Int) (of_eq_true p18) (of_eq_true q18))); (try (have HP19 := Kd.R_putg HO_3.out (x10_1 : Int) (wrap64 ((rd x3_2 x10_1) + 1)))))); refine store_event (t := 3) (p := 33) (v := ?vo_w20) (w1 := (wr.setCell ⟨go9, (x10_1 : Int).toNat, none⟩ (.int .i64 (wrap64 ((rd x3_2 x10_1) + 1))))) ?hg ?ho ?hn ?hr ?_; (case ho => rfl); (case hg => rfl); (case hn => rfl); (case hr => first | (go_simp; done) | (go_simp; rfl)); intro w20 hw; have hg : wr.grownBy w20 (some go9) := (by rw [hw]; exact HP19.2); have hp_ : Kd.R (Kd.int .i64) 3 w20 w.heap.size (fun _ => True) (.slice (some ⟨go9, 0, none⟩) x3_2.length co9) y793 := (by rw [hw, Ny793.out]; exact HP19.1); clear HP19; have n0_ := Aside0.mk (hp_); have n1_ := Aside0.mk ((by rw [hw]; exact below_set (HB.out) GB9.out : Below w.heap.size w w20)); clear HO_3; clear HB; have HO_3 := n0_; have HB := n1_; clear n0_ n1_; clear hg hw hp_)); try go_wp2_with (first | ((with_reducible refine gate_store (t := 3) (p := 33) rfl ?_); (try (rw [drewN_self wr]; generalize hq_ : World.drewN wr _ = wr; have n0_ := Aside0.mk (Kd.R_at hq_ HO_3.out); have n1_ := Aside0.mk (below_at hq_ HB.out); clear hq_ HO_3 HB; have HO_3 := n0_; have HB := n1_; clear n0_ n1_; (try (obtain ⟨hxz_, hfz_⟩ := Kd.R_celln 0 HO_3.out (x10_1 : Int) (of_eq_true p18) (of_eq_true q18))); (try (have HP19 := Kd.R_putg HO_3.out (x10_1 : Int) (wrap64 ((rd x3_2 x10_1) + 1)))))); refine store_event (t := 3) (p := 33) (v := ?vo_w20) (w1 := (wr.setCell ⟨go9, (x10_1 : Int).toNat, none⟩ (.int .i64 (wrap64 ((rd x3_2 x10_1) + 1))))) ?hg ?ho ?hn ?hr ?_; (case ho => rfl); (case hg => rfl); (case hn => rfl); (case hr => first | (go_simp; done) | (go_simp; rfl)); intro w20 hw; have hg : wr.grownBy w20 (some go9) := (by rw [hw]; exact HP19.2); have hp_ : Kd.R (Kd.int .i64) 3 w20 w.heap.size (fun _ => True) (.slice (some ⟨go9, 0, none⟩) x3_2.length co9) y793 := (by rw [hw, Ny793.out]; exact HP19.1); clear HP19; have n0_ := Aside0.mk (hp_); have n1_ := Aside0.mk ((by rw [hw]; exact below_set (HB.out) GB9.out : Below w.heap.size w w20)); clear HO_3; clear HB; have HO_3 := n0_; have HB := n1_; clear n0_ n1_; clear hg hw hp_)))
                (try simp only [← hl3_2])
                go_roundg k2
                case measure => have := HK1.out; have := HK2.out; omega
                case rel => exact ⟨(y793), H', ⟨by have := HK1.out; have := HK2.out; omega⟩, ⟨by (try simp only [hl3_2]); (with_reducible repeat (first | apply Kd.R_alloc | apply Kd.R_drewN | apply Kd.R_drew)); exact HO_3.out⟩, ⟨by repeat (first | (with_reducible first | exact HB.out | apply below_alloc | apply pw_below_drewN | apply below_drew1) | exact HB.out)⟩⟩
              ·rw [if_neg c16] at H
               exact absurd H (by simp)
             ·rw [if_neg c15] at H
              exact absurd H (by simp)
            ·rw [if_neg c14] at H
             exact absurd H (by simp)
           ·rw [if_neg c13] at H
            exact absurd H (by simp)
          ·rw [if_neg c12] at H
           exact absurd H (by simp)
       ·rw [if_neg c8] at H
        exact absurd H (by simp)
      ·rw [if_neg c7] at H
       exact absurd H (by simp)
     ·rw [if_neg c6] at H
      have c6b0 : decide (x10_1 < (l0.length : Int)) = false := decide_eq_false c6
      clear c6
      obtain rfl := Option.some.inj H
      go_wp2
      repeat (go_quiet (fail); try go_wp2)
      go_ret
      exact ⟨_, by first | rfl | (simp [errW_none, errW_some] <;> rfl) | (simp [*, errW_none, errW_some] <;> rfl), by (with_reducible repeat (first | apply Kd.R_alloc | apply Kd.R_drewN | apply Kd.R_drew)); exact HO_3.out, by repeat (first | (with_reducible first | exact HB.out | apply below_alloc | apply pw_below_drewN | apply below_drew1) | exact HB.out)⟩
  ·rw [if_neg c3] at H
   exact absurd H (by simp)
 ·rw [if_neg c2] at H
  exact absurd H (by simp)
end Go.Proofs.Ytnnbgfphinemfaa.Q

namespace Go.Proofs.Ytnnbgfphinemfaa.Q
open Go.RowKit Go.Proofs.YtnnbgfphinemfaaW.PrintWords Go.Proofs.YtnnbgfphinemfaaW.PrintLast Go.Proofs.YtnnbgfphinemfaaW.PrintMore
attribute [local go_sem] max2_int min2_int max_two min_two max_three min_three max_four min_four
set_option linter.unusedVariables false
set_option linter.unusedSimpArgs false
def impl_isPartition.l0 : Nat → List Int → List Int → Int → Int → Option (Bool)
 | 0, _, _, _, _ => none
 | k + 1, x1, x11, x12, x13 => if x13 < x12 then (if 0 ≤ x13 then (if x13 < (x11.length : Int) then (if (rd x11 x13) < 0 then (some false) else (if (rd x11 x13) > x13 then (some false) else (if 0 ≤ (rd x11 x13) then (if (rd x11 x13) < (x1.length : Int) then (if (rd x1 (rd x11 x13)) = (rd x11 x13) then (impl_isPartition.l0 k x1 x11 x12 (wrap64 (x13 + 1))) else (some false)) else (none)) else (none)))) else (none)) else (none)) else (some true)
def impl_isPartition.f (k : Nat) (a0 : Int) (l1 : List Int) : Option (Bool) := if (l1.length : Int) = a0 then (impl_isPartition.l0 k l1 l1 (l1.length : Int) 0) else (some false)
theorem impl_isPartition.mono_l : ∀ k, (∀ y0 y1 y2 y3, LeO (impl_isPartition.l0 k y0 y1 y2 y3) (impl_isPartition.l0 (k + 1) y0 y1 y2 y3))
 | 0 => fun _ _ _ _ r h => by simp [impl_isPartition.l0] at h
 | k + 1 => by
  have ih0 := impl_isPartition.mono_l k
  ·intro y0 y1 y2 y3
   unfold impl_isPartition.l0
   repeat' first
   | (with_reducible exact ih0 _ _ _ _)
   | (with_reducible exact LeO.refl _)
   | (with_reducible exact LeO.none _)
   | (with_reducible refine LeO.ite ?_ ?_)
   | (with_reducible refine LeO.bind ?_ (fun _ => ?_))
   | exact ih0 _ _ _ _
   | exact LeO.none _
   | refine LeO.ite ?_ ?_
   | refine LeO.bind ?_ (fun _ => ?_)
theorem impl_isPartition.mono : ∀ a0 a1 k, LeO (impl_isPartition.f k a0 a1) (impl_isPartition.f (k + 1) a0 a1) := by
 intro a0 a1 k
 have ih0 := impl_isPartition.mono_l k
 unfold impl_isPartition.f
 repeat' first
   | (with_reducible exact ih0 _ _ _ _)
   | (with_reducible exact LeO.refl _)
   | (with_reducible exact LeO.none _)
   | (with_reducible refine LeO.ite ?_ ?_)
   | (with_reducible refine LeO.bind ?_ (fun _ => ?_))
   | exact ih0 _ _ _ _
   | exact LeO.none _
   | refine LeO.ite ?_ ?_
   | refine LeO.bind ?_ (fun _ => ?_)
set_option maxHeartbeats 8000000 in
set_option maxRecDepth 100000 in
theorem impl_isPartition.calls (k : Nat) (a0 : Int) (A1 : Option Addr) (c1 : Nat) (l1 : List Int) (r : Bool) (w : World) (hr1 : Kd.C (Kd.int .i64) w A1 l1.length l1) (hc1 : l1.length ≤ c1) (h : impl_isPartition.f k a0 l1 = some r) :
  Calls Try.prog 141 #[.int .i64 a0, .slice A1 l1.length c1] w fun e w' => e = .returned (.bool r) ∧ Drawn0 w w' := by
 have HR1 := Aside0.mk hr1
 have HC1 := Aside0.mk hc1
 clear hr1 hc1
 have H : (if (l1.length : Int) = a0 then (impl_isPartition.l0 k l1 l1 (l1.length : Int) 0) else (some false)) = some r := h
 clear h
 by_cases c3 : (l1.length : Int) = a0
 ·rw [if_pos c3] at H
  have c3b0 : ((l1.length : Int) == a0) = true := beq_iff_eq.mpr c3
  have c3b1 : ((l1.length : Int) != a0) = false := bne_eq_false_iff_eq.mpr c3
  clear c3
  have H' := Aside0.mk H
  clear H
  go_enter Try.func141, Try.ntmps141
  go_wp2
  go_loopg [13] k (fun kq v13 w' => ∃ (x13_1 : Int), v13 = .int .i64 x13_1 ∧ Aside0 (impl_isPartition.l0 kq l1 l1 (l1.length : Int) x13_1 = some r) ∧ Aside0 (kq ≤ k) ∧ Drawn0 w w')
  case atStart => exact ⟨(0), (by first | rfl | (simp; done) | (simp [*]; done)), H', ⟨Nat.le_refl _⟩, by repeat (first | exact Drawn0.refl _ | apply Drawn0.step)⟩
  case round =>
   clear H'
   try clear c1
   try clear p2
   try clear c3
   try clear c3b0
   try clear c3b1
   obtain ⟨x13_1, rfl, HA, HK1, ⟨m1, rfl⟩⟩ := hrel
   cases gk with
   | zero => exact absurd HA.out (by simp [impl_isPartition.l0])
   | succ k1 =>
    have H := HA.out
    clear HA
    simp only [impl_isPartition.l0] at H
    by_cases c4 : x13_1 < (l1.length : Int)
    ·rw [if_pos c4] at H
     have c4b0 : decide (x13_1 < (l1.length : Int)) = true := decide_eq_true c4
     clear c4
     by_cases c5 : 0 ≤ x13_1
     ·rw [if_pos c5] at H
      have c5b0 : decide (0 ≤ x13_1) = true := decide_eq_true c5
      clear c5
      by_cases c6 : x13_1 < (l1.length : Int)
      ·rw [if_pos c6] at H
       have c6b0 : decide (x13_1 < (l1.length : Int)) = true := decide_eq_true c6
       clear c6
       by_cases c7 : (rd l1 x13_1) < 0
       ·rw [if_pos c7] at H
        have c7b0 : decide ((rd l1 x13_1) < 0) = true := decide_eq_true c7
        clear c7
        obtain rfl := Option.some.inj H
        have p955 : 0 ≤ (x13_1 : Int) := of_decide_eq_true (by first | (with_reducible assumption) | assumption)
        have q955 : x13_1 < (l1.length : Int) := of_decide_eq_true (by first | (with_reducible assumption) | assumption)
        obtain ⟨ad955, e955, hx955_0⟩ := Kd.at_int HR1.out x13_1 p955 q955
        cases e955
        replace p955 := eq_true p955
        replace q955 := eq_true q955
        go_wp2
        go_ret
        exact ⟨by first | rfl | (simp; done) | (simp [*]; done), by repeat (first | exact Drawn0.refl _ | apply Drawn0.step)⟩
       ·rw [if_neg c7] at H
        have c7b0 : decide ((rd l1 x13_1) < 0) = false := decide_eq_false c7
        clear c7
        by_cases c8 : (rd l1 x13_1) > x13_1
        ·rw [if_pos c8] at H
         have c8b0 : decide (x13_1 < (rd l1 x13_1)) = true := decide_eq_true c8
         clear c8
         obtain rfl := Option.some.inj H
         have p955 : 0 ≤ (x13_1 : Int) := of_decide_eq_true (by first | (with_reducible assumption) | assumption)
         have q955 : x13_1 < (l1.length : Int) := of_decide_eq_true (by first | (with_reducible assumption) | assumption)
         obtain ⟨ad955, e955, hx955_0⟩ := Kd.at_int HR1.out x13_1 p955 q955
         cases e955
         replace p955 := eq_true p955
         replace q955 := eq_true q955
         go_wp2
         go_ret
         exact ⟨by first | rfl | (simp; done) | (simp [*]; done), by repeat (first | exact Drawn0.refl _ | apply Drawn0.step)⟩
        ·rw [if_neg c8] at H
         have c8b0 : decide (x13_1 < (rd l1 x13_1)) = false := decide_eq_false c8
         clear c8
         by_cases c9 : 0 ≤ (rd l1 x13_1)
         ·rw [if_pos c9] at H
          have c9b0 : decide (0 ≤ (rd l1 x13_1)) = true := decide_eq_true c9
          clear c9
          by_cases c10 : (rd l1 x13_1) < (l1.length : Int)
          ·rw [if_pos c10] at H
           have c10b0 : decide ((rd l1 x13_1) < (l1.length : Int)) = true := decide_eq_true c10
           clear c10
           by_cases c11 : (rd l1 (rd l1 x13_1)) = (rd l1 x13_1)
           ·rw [if_pos c11] at H
            have c11b0 : ((rd l1 (rd l1 x13_1)) == (rd l1 x13_1)) = true := beq_iff_eq.mpr c11
            have c11b1 : ((rd l1 (rd l1 x13_1)) != (rd l1 x13_1)) = false := bne_eq_false_iff_eq.mpr c11
            clear c11
            have H' := Aside0.mk H
            clear H
            have p955 : 0 ≤ (x13_1 : Int) := of_decide_eq_true (by first | (with_reducible assumption) | assumption)
            have q955 : x13_1 < (l1.length : Int) := of_decide_eq_true (by first | (with_reducible assumption) | assumption)
            obtain ⟨ad955, e955, hx955_0⟩ := Kd.at_int HR1.out x13_1 p955 q955
            cases e955
            replace p955 := eq_true p955
            replace q955 := eq_true q955
            have p956 : 0 ≤ ((rd l1 x13_1) : Int) := of_decide_eq_true (by first | (with_reducible assumption) | assumption)
            have q956 : (rd l1 x13_1) < (l1.length : Int) := of_decide_eq_true (by first | (with_reducible assumption) | assumption)
            obtain ⟨ad956, e956, hx956_0⟩ := Kd.at_int HR1.out (rd l1 x13_1) p956 q956
            obtain rfl : ad955 = ad956 := (by injection e956)
            replace p956 := eq_true p956
            replace q956 := eq_true q956
            go_wp2
            go_roundg k1
            case measure => have := HK1.out; omega
            case rel => exact ⟨(wrap64 (x13_1 + 1)), (by first | rfl | (simp; done) | (simp [*]; done)), H', ⟨by have := HK1.out; omega⟩, by repeat (first | exact Drawn0.refl _ | apply Drawn0.step)⟩
           ·rw [if_neg c11] at H
            have c11b0 : ((rd l1 (rd l1 x13_1)) == (rd l1 x13_1)) = false := beq_eq_false_iff_ne.mpr c11
            have c11b1 : ((rd l1 (rd l1 x13_1)) != (rd l1 x13_1)) = true := bne_iff_ne.mpr c11
            obtain rfl := Option.some.inj H
            have p955 : 0 ≤ (x13_1 : Int) := of_decide_eq_true (by first | (with_reducible assumption) | assumption)
            have q955 : x13_1 < (l1.length : Int) := of_decide_eq_true (by first | (with_reducible assumption) | assumption)
            obtain ⟨ad955, e955, hx955_0⟩ := Kd.at_int HR1.out x13_1 p955 q955
            cases e955
            replace p955 := eq_true p955
            replace q955 := eq_true q955
            have p956 : 0 ≤ ((rd l1 x13_1) : Int) := of_decide_eq_true (by first | (with_reducible assumption) | assumption)
            have q956 : (rd l1 x13_1) < (l1.length : Int) := of_decide_eq_true (by first | (with_reducible assumption) | assumption)
            obtain ⟨ad956, e956, hx956_0⟩ := Kd.at_int HR1.out (rd l1 x13_1) p956 q956
            obtain rfl : ad955 = ad956 := (by injection e956)
            replace p956 := eq_true p956
            replace q956 := eq_true q956
            go_wp2
            go_ret
            exact ⟨by first | rfl | (simp; done) | (simp [*]; done), by repeat (first | exact Drawn0.refl _ | apply Drawn0.step)⟩
          ·rw [if_neg c10] at H
           exact absurd H (by simp)
         ·rw [if_neg c9] at H
          exact absurd H (by simp)
      ·rw [if_neg c6] at H
       exact absurd H (by simp)
     ·rw [if_neg c5] at H
      exact absurd H (by simp)
    ·rw [if_neg c4] at H
     have c4b0 : decide (x13_1 < (l1.length : Int)) = false := decide_eq_false c4
     clear c4
     obtain rfl := Option.some.inj H
     go_wp2
     go_ret
     exact ⟨by first | rfl | (simp; done) | (simp [*]; done), by repeat (first | exact Drawn0.refl _ | apply Drawn0.step)⟩
 ·rw [if_neg c3] at H
  have c3b0 : ((l1.length : Int) == a0) = false := beq_eq_false_iff_ne.mpr c3
  have c3b1 : ((l1.length : Int) != a0) = true := bne_iff_ne.mpr c3
  obtain rfl := Option.some.inj H
  go_enter Try.func141, Try.ntmps141
  go_wp2
  go_ret
  exact ⟨by first | rfl | (simp; done) | (simp [*]; done), by repeat (first | exact Drawn0.refl _ | apply Drawn0.step)⟩
end Go.Proofs.Ytnnbgfphinemfaa.Q

namespace Go.Proofs.Ytnnbgfphinemfaa.Q
open Go.RowKit Go.Proofs.YtnnbgfphinemfaaW.PrintWords Go.Proofs.YtnnbgfphinemfaaW.PrintLast Go.Proofs.YtnnbgfphinemfaaW.PrintMore
attribute [local go_sem] max2_int min2_int max_two min_two max_three min_three max_four min_four
set_option linter.unusedVariables false
set_option linter.unusedSimpArgs false
mutual
def impl_unite.j0 : Nat → List Int → Int → Int → Option (Bool × List Int)
 | 0, _, _, _ => none
 | k + 1, x0, x1, x2 => impl_unite.l0 k x0 x1 x2 (x0.length : Int) 0
def impl_unite.l0 : Nat → List Int → Int → Int → Int → Int → Option (Bool × List Int)
 | 0, _, _, _, _, _ => none
 | k + 1, x0, x1, x2, x25, x26 => if x26 < x25 then (if 0 ≤ x26 then (if x26 < (x0.length : Int) then (if (rd x0 x26) = x2 then (impl_unite.l0 k (x0.set (x26 : Int).toNat x1) x1 x2 x25 (wrap64 (x26 + 1))) else (impl_unite.l0 k x0 x1 x2 x25 (wrap64 (x26 + 1)))) else (none)) else (none)) else (some (true, x0))
end
def impl_unite.f (k : Nat) (l0 : List Int) (a1 : Int) (a2 : Int) : Option (Bool × List Int) := if 0 ≤ a1 then (if a1 < (l0.length : Int) then (if 0 ≤ a2 then (if a2 < (l0.length : Int) then (if (rd l0 a1) = (rd l0 a2) then (some (false, l0)) else (if (rd l0 a1) > (rd l0 a2) then (impl_unite.j0 k l0 (rd l0 a2) (rd l0 a1)) else (impl_unite.j0 k l0 (rd l0 a1) (rd l0 a2)))) else (none)) else (none)) else (none)) else (none)
theorem impl_unite.mono_l : ∀ k, (∀ y0 y1 y2, LeO (impl_unite.j0 k y0 y1 y2) (impl_unite.j0 (k + 1) y0 y1 y2)) ∧ (∀ y0 y1 y2 y3 y4, LeO (impl_unite.l0 k y0 y1 y2 y3 y4) (impl_unite.l0 (k + 1) y0 y1 y2 y3 y4))
 | 0 => ⟨fun _ _ _ r h => by simp [impl_unite.j0] at h, fun _ _ _ _ _ r h => by simp [impl_unite.l0] at h⟩
 | k + 1 => by
  obtain ⟨ih0, ih1⟩ := impl_unite.mono_l k
  refine ⟨?_, ?_⟩
  ·intro y0 y1 y2
   unfold impl_unite.j0
   repeat' first
   | (with_reducible exact ih0 _ _ _)
   | (with_reducible exact ih1 _ _ _ _ _)
   | (with_reducible exact LeO.refl _)
   | (with_reducible exact LeO.none _)
   | (with_reducible refine LeO.ite ?_ ?_)
   | (with_reducible refine LeO.bind ?_ (fun _ => ?_))
   | exact ih0 _ _ _
   | exact ih1 _ _ _ _ _
   | exact LeO.none _
   | refine LeO.ite ?_ ?_
   | refine LeO.bind ?_ (fun _ => ?_)
  ·intro y0 y1 y2 y3 y4
   unfold impl_unite.l0
   repeat' first
   | (with_reducible exact ih0 _ _ _)
   | (with_reducible exact ih1 _ _ _ _ _)
   | (with_reducible exact LeO.refl _)
   | (with_reducible exact LeO.none _)
   | (with_reducible refine LeO.ite ?_ ?_)
   | (with_reducible refine LeO.bind ?_ (fun _ => ?_))
   | exact ih0 _ _ _
   | exact ih1 _ _ _ _ _
   | exact LeO.none _
   | refine LeO.ite ?_ ?_
   | refine LeO.bind ?_ (fun _ => ?_)
theorem impl_unite.mono : ∀ a0 a1 a2 k, LeO (impl_unite.f k a0 a1 a2) (impl_unite.f (k + 1) a0 a1 a2) := by
 intro a0 a1 a2 k
 obtain ⟨ih0, ih1⟩ := impl_unite.mono_l k
 unfold impl_unite.f
 repeat' first
   | (with_reducible exact ih0 _ _ _)
   | (with_reducible exact ih1 _ _ _ _ _)
   | (with_reducible exact LeO.refl _)
   | (with_reducible exact LeO.none _)
   | (with_reducible refine LeO.ite ?_ ?_)
   | (with_reducible refine LeO.bind ?_ (fun _ => ?_))
   | exact ih0 _ _ _
   | exact ih1 _ _ _ _ _
   | exact LeO.none _
   | refine LeO.ite ?_ ?_
   | refine LeO.bind ?_ (fun _ => ?_)
set_option maxHeartbeats 8000000 in
set_option maxRecDepth 100000 in
theorem impl_unite.calls (k : Nat) (P0_ : Nat → Prop) (u9000_ : Value) (l0 : List Int) (a1 : Int) (a2 : Int) (r1 : Bool) (r2 : List Int) (w0 w : World) (hB : Below w0.heap.size w0 w) (ho0 : Kd.R (Kd.int .i64) 3 w w0.heap.size P0_ u9000_ l0) (h : impl_unite.f k l0 a1 a2 = some (r1, r2)) :
  Calls Try.prog 159 #[u9000_, .int .i64 a1, .int .i64 a2] w fun e w' => e = .returned (.bool r1) ∧ Kd.R (Kd.int .i64) 3 w' w0.heap.size (fun k_ => (P0_ k_ ∨ w.heap.size ≤ k_)) u9000_ r2 ∧ Below w0.heap.size w0 w' ∧ Kept w w' (fun k_ => P0_ k_) := by
 have HO0 := Aside0.mk (show Kd.R (Kd.int .i64) 3 w w0.heap.size (fun k_ => (P0_ k_ ∨ w.heap.size ≤ k_)) u9000_ l0 from Kd.R_mono ho0 (fun k_ hk => (.inl hk)))
 have HK := Aside0.mk (Kept.refl w (fun k_ => P0_ k_))
 have HW0 := Aside0.mk hB.size
 have HB := Aside0.mk hB
 clear hB
 have H : (if 0 ≤ a1 then (if a1 < (l0.length : Int) then (if 0 ≤ a2 then (if a2 < (l0.length : Int) then (if (rd l0 a1) = (rd l0 a2) then (some (false, l0)) else (if (rd l0 a1) > (rd l0 a2) then (impl_unite.j0 k l0 (rd l0 a2) (rd l0 a1)) else (impl_unite.j0 k l0 (rd l0 a1) (rd l0 a2)))) else (none)) else (none)) else (none)) else (none)) = some (r1, r2) := h
 clear h
 by_cases c4 : 0 ≤ a1
 ·rw [if_pos c4] at H
  have c4b0 : decide (0 ≤ a1) = true := decide_eq_true c4
  clear c4
  by_cases c5 : a1 < (l0.length : Int)
  ·rw [if_pos c5] at H
   have c5b0 : decide (a1 < (l0.length : Int)) = true := decide_eq_true c5
   clear c5
   by_cases c6 : 0 ≤ a2
   ·rw [if_pos c6] at H
    have c6b0 : decide (0 ≤ a2) = true := decide_eq_true c6
    clear c6
    by_cases c7 : a2 < (l0.length : Int)
    ·rw [if_pos c7] at H
     have c7b0 : decide (a2 < (l0.length : Int)) = true := decide_eq_true c7
     clear c7
     by_cases c8 : (rd l0 a1) = (rd l0 a2)
     ·rw [if_pos c8] at H
      have c8b0 : ((rd l0 a1) == (rd l0 a2)) = true := beq_iff_eq.mpr c8
      have c8b1 : ((rd l0 a1) != (rd l0 a2)) = false := bne_eq_false_iff_eq.mpr c8
      clear c8
      simp only [Option.some.injEq, Prod.mk.injEq] at H
      obtain ⟨rfl, rfl⟩ := H
      obtain ⟨Ao9, co9, eo9⟩ := Kd.R_slice HO0.out
      subst eo9
      have p957 : 0 ≤ (a1 : Int) := of_decide_eq_true (by first | (with_reducible assumption) | assumption)
      have q957 : a1 < (l0.length : Int) := of_decide_eq_true (by first | (with_reducible assumption) | assumption)
      obtain ⟨ad957, e957, hx957_0⟩ := Kd.at_int (Kd.R_reads' HO0.out).2.2 a1 p957 q957
      cases e957
      replace p957 := eq_true p957
      replace q957 := eq_true q957
      have p958 : 0 ≤ (a2 : Int) := of_decide_eq_true (by first | (with_reducible assumption) | assumption)
      have q958 : a2 < (l0.length : Int) := of_decide_eq_true (by first | (with_reducible assumption) | assumption)
      obtain ⟨ad958, e958, hx958_0⟩ := Kd.at_int (Kd.R_reads' HO0.out).2.2 a2 p958 q958
      obtain rfl : ad957 = ad958 := (by injection e958)
      replace p958 := eq_true p958
      replace q958 := eq_true q958
      go_enter Try.func159, Try.ntmps159
      go_wp2
      repeat (go_quiet (fail); try go_wp2)
      go_ret
      exact ⟨by first | rfl | (simp [errW_none, errW_some] <;> rfl) | (simp [*, errW_none, errW_some] <;> rfl), by (with_reducible repeat (first | apply Kd.R_alloc | apply Kd.R_drewN | apply Kd.R_drew)); exact HO0.out, by repeat (first | (with_reducible first | exact HB.out | apply below_alloc | apply pw_below_drewN | apply below_drew1) | exact HB.out), by repeat (first | (with_reducible first | exact HK.out | apply Kept.alloc | apply Kept.drewN | apply Kept.drew) | exact HK.out)⟩
     ·rw [if_neg c8] at H
      have c8b0 : ((rd l0 a1) == (rd l0 a2)) = false := beq_eq_false_iff_ne.mpr c8
      have c8b1 : ((rd l0 a1) != (rd l0 a2)) = true := bne_iff_ne.mpr c8
      have HC10 := Aside0.mk H
      clear H
      obtain ⟨Ao11, co11, eo11⟩ := Kd.R_slice HO0.out
      subst eo11
      have p957 : 0 ≤ (a1 : Int) := of_decide_eq_true (by first | (with_reducible assumption) | assumption)
      have q957 : a1 < (l0.length : Int) := of_decide_eq_true (by first | (with_reducible assumption) | assumption)
      obtain ⟨ad957, e957, hx957_0⟩ := Kd.at_int (Kd.R_reads' HO0.out).2.2 a1 p957 q957
      cases e957
      replace p957 := eq_true p957
      replace q957 := eq_true q957
      have p958 : 0 ≤ (a2 : Int) := of_decide_eq_true (by first | (with_reducible assumption) | assumption)
      have q958 : a2 < (l0.length : Int) := of_decide_eq_true (by first | (with_reducible assumption) | assumption)
      obtain ⟨ad958, e958, hx958_0⟩ := Kd.at_int (Kd.R_reads' HO0.out).2.2 a2 p958 q958
      obtain rfl : ad957 = ad958 := (by injection e958)
      replace p958 := eq_true p958
      replace q958 := eq_true q958
      go_enter Try.func159, Try.ntmps159
      go_upto_if 21 with (fail)
      repeat (go_quiet (fail); go_upto_if 21 with (fail))
      go_cut [1, 2] (fun v1 v2 wc => ∃ (kq : Nat) (x1_9 : Int) (x2_9 : Int), v1 = .int .i64 x1_9 ∧ v2 = .int .i64 x2_9 ∧ Aside0 (impl_unite.j0 kq l0 x1_9 x2_9 = some (r1, r2)) ∧ Aside0 (kq ≤ k) ∧ Aside0 (Kd.R (Kd.int .i64) 3 wc w0.heap.size (fun k_ => (P0_ k_ ∨ w.heap.size ≤ k_)) (.slice (some ad957) l0.length co11) l0) ∧ Aside0 (Kept w wc (fun k_ => P0_ k_)) ∧ Aside0 (Below w0.heap.size w0 wc))
      case first =>
       have H := HC10.out
       clear HC10
       by_cases c12 : (rd l0 a1) > (rd l0 a2)
       ·rw [if_pos c12] at H
        have c12b0 : decide ((rd l0 a2) < (rd l0 a1)) = true := decide_eq_true c12
        clear c12
        (first | rw [c12b0] | (simp only [i64_w, i32_w]; rw [c12b0]) | skip)
        have H' := Aside0.mk H
        clear H
        go_wp2
        repeat (go_quiet (fail); try go_wp2)
        go_meet
        case rel => exact ⟨_, (rd l0 a2), (rd l0 a1), (by first | rfl | (simp; done) | (simp [*]; done)), (by first | rfl | (simp; done) | (simp [*]; done)), H', ⟨by first | omega | exact Nat.le_refl _⟩, ⟨by (with_reducible repeat (first | apply Kd.R_alloc | apply Kd.R_drewN | apply Kd.R_drew)); exact HO0.out⟩, ⟨by repeat (first | (with_reducible first | exact HK.out | apply Kept.alloc | apply Kept.drewN | apply Kept.drew) | exact HK.out)⟩, ⟨by repeat (first | (with_reducible first | exact HB.out | apply below_alloc | apply pw_below_drewN | apply below_drew1) | exact HB.out)⟩⟩
       ·rw [if_neg c12] at H
        have c12b0 : decide ((rd l0 a2) < (rd l0 a1)) = false := decide_eq_false c12
        clear c12
        (first | rw [c12b0] | (simp only [i64_w, i32_w]; rw [c12b0]) | skip)
        have H' := Aside0.mk H
        clear H
        go_wp2
        repeat (go_quiet (fail); try go_wp2)
        go_meet
        case rel => exact ⟨_, (rd l0 a1), (rd l0 a2), (by first | rfl | (simp; done) | (simp [*]; done)), (by first | rfl | (simp; done) | (simp [*]; done)), H', ⟨by first | omega | exact Nat.le_refl _⟩, ⟨by (with_reducible repeat (first | apply Kd.R_alloc | apply Kd.R_drewN | apply Kd.R_drew)); exact HO0.out⟩, ⟨by repeat (first | (with_reducible first | exact HK.out | apply Kept.alloc | apply Kept.drewN | apply Kept.drew) | exact HK.out)⟩, ⟨by repeat (first | (with_reducible first | exact HB.out | apply below_alloc | apply pw_below_drewN | apply below_drew1) | exact HB.out)⟩⟩
      case rest =>
       clear HC10
       try clear c1
       try clear p2
       try clear c4
       try clear c4b0
       try clear c5
       try clear c5b0
       try clear c6
       try clear c6b0
       try clear c7
       try clear c7b0
       try clear c8
       try clear c8b0
       try clear c8b1
       try clear p9
       try clear q9
       try clear hx9
       try clear c12
       try clear c12b0
       try clear hx957_0
       try clear hx958_0
       try clear p957
       try clear p958
       try clear q957
       try clear q958
       obtain ⟨kq, x1_9, x2_9, rfl, rfl, HA, HJ9, HO_0, HK, HB⟩ := hcut
       cases kq with
       | zero => exact absurd HA.out (by simp [impl_unite.j0])
       | succ kj9 =>
        have H := HA.out
        clear HA
        simp only [impl_unite.j0] at H
        have H' := Aside0.mk H
        clear H
        go_wp2
        repeat (go_quiet (fail); try go_wp2)
        go_loopg [26] kj9 (fun kq v26 w' => ∃ (x0_2 : List Int) (x26_2 : Int), v26 = .int .i64 x26_2 ∧ Aside0 (impl_unite.l0 kq x0_2 x1_9 x2_9 (l0.length : Int) x26_2 = some (r1, r2)) ∧ Aside0 (kq ≤ kj9) ∧ Aside0 (Kd.R (Kd.int .i64) 3 w' w0.heap.size (fun k_ => (P0_ k_ ∨ w.heap.size ≤ k_)) (.slice (some ad957) l0.length co11) x0_2) ∧ Aside0 (Kept w w' (fun k_ => P0_ k_)) ∧ Aside0 (Below w0.heap.size w0 w'))
        case atStart => exact ⟨(l0), (0), (by first | rfl | (simp; done) | (simp [*]; done)), H', ⟨Nat.le_refl _⟩, ⟨by (with_reducible repeat (first | apply Kd.R_alloc | apply Kd.R_drewN | apply Kd.R_drew)); exact HO_0.out⟩, ⟨by repeat (first | (with_reducible first | exact HK.out | apply Kept.alloc | apply Kept.drewN | apply Kept.drew) | exact HK.out)⟩, ⟨by repeat (first | (with_reducible first | exact HB.out | apply below_alloc | apply pw_below_drewN | apply below_drew1) | exact HB.out)⟩⟩
        case round =>
         clear H'
         try clear c1
         try clear p2
         try clear c4
         try clear c4b0
         try clear c5
         try clear c5b0
         try clear c6
         try clear c6b0
         try clear c7
         try clear c7b0
         try clear c8
         try clear c8b0
         try clear c8b1
         try clear p9
         try clear q9
         try clear hx9
         try clear c12
         try clear c12b0
         try clear hx957_0
         try clear hx958_0
         try clear p2
         try clear p9
         try clear p957
         try clear p958
         try clear q9
         try clear q957
         try clear q958
         obtain ⟨x0_2, x26_2, rfl, HA, HK2, HO_0, HK, HB⟩ := hrel
         have hl0_2 := (Kd.R_reads' HO_0.out).1
         rw [hl0_2] at HO_0
         (try simp only [hl0_2])
         cases gk with
         | zero => exact absurd HA.out (by simp [impl_unite.l0])
         | succ k2 =>
          have H := HA.out
          clear HA
          simp only [impl_unite.l0] at H
          by_cases c13 : x26_2 < (l0.length : Int)
          ·rw [if_pos c13] at H
           have c13b0 : decide (x26_2 < (l0.length : Int)) = true := decide_eq_true c13
           (try simp only [hl0_2] at c13b0)
           clear c13
           by_cases c14 : 0 ≤ x26_2
           ·rw [if_pos c14] at H
            have c14b0 : decide (0 ≤ x26_2) = true := decide_eq_true c14
            clear c14
            by_cases c15 : x26_2 < (x0_2.length : Int)
            ·rw [if_pos c15] at H
             have c15b0 : decide (x26_2 < (x0_2.length : Int)) = true := decide_eq_true c15
             (try simp only [hl0_2] at c15b0)
             clear c15
             by_cases c16 : (rd x0_2 x26_2) = x2_9
             ·rw [if_pos c16] at H
              have c16b0 : ((rd x0_2 x26_2) == x2_9) = true := beq_iff_eq.mpr c16
              have c16b1 : ((rd x0_2 x26_2) != x2_9) = false := bne_eq_false_iff_eq.mpr c16
              clear c16
              obtain ⟨y960, hy960⟩ : ∃ y_ : List Int, y_ = (x0_2.set (x26_2 : Int).toNat x1_9) := ⟨_, rfl⟩
              replace H : (impl_unite.l0 k2 y960 x1_9 x2_9 (l0.length : Int) (wrap64 (x26_2 + 1))) = some (r1, r2) := by first | (rw [hy960]; with_reducible exact H) | (have H2_ := (Option.bind_some _ _).symm.trans H; rw [hy960]; with_reducible exact H2_) | (have H2_ := (Option.bind_some _ _).symm.trans H; with_reducible exact H2_) | with_reducible exact H | (rw [hy960]; exact H) | exact H
              have Ny960 := Aside0.mk hy960
              clear hy960
              have H' := Aside0.mk H
              clear H
              have p959 : 0 ≤ (x26_2 : Int) := of_decide_eq_true (by first | (with_reducible assumption) | assumption)
              have q959 : x26_2 < (x0_2.length : Int) := of_decide_eq_true (by first | (with_reducible assumption) | assumption)
              obtain ⟨ad959, e959, hx959_0⟩ := Kd.at_int (Kd.R_reads' HO_0.out).2.2 x26_2 p959 q959
              obtain rfl : ad957 = ad959 := (by injection e959)
              replace p959 := eq_true p959
              replace q959 := eq_true q959
              have p17 : 0 ≤ (x26_2 : Int) := of_decide_eq_true (by first | (with_reducible assumption) | assumption)
              have q17 : (x26_2 : Int) < ((x0_2.length : Int) : Int) := of_decide_eq_true (by first | (with_reducible assumption) | assumption)
              obtain ⟨go17, co17, eo17, gb17, gl17, cl17, HG17⟩ := Kd.R_form HO_0.out (by omega)
              (first | cases eo17 | (injection eo17 with ea_ en_ ec_; (first | subst ea_ | (injection ea_ with ea_; subst ea_)); subst ec_; clear en_))
              have GB17 := Aside0.mk gb17
              have GG17 := Aside0.mk HG17
              clear gb17 gl17 HG17
              have HMgo17 := Aside0.mk (show (P0_ go17 ∨ w.heap.size ≤ go17) from (HO_0.out.1 _ rfl))
              (first | simp only [add_plain] at hx957_0 | skip)
              (first | simp only [add_plain] at hx958_0 | skip)
              (first | simp only [add_plain] at hx959_0 | skip)
              obtain ⟨hx17_0, hf17_0⟩ := Kd.R_celln 0 HO_0.out (x26_2 : Int) p17 q17
              replace p17 := eq_true p17
              replace q17 := eq_true q17
              have HP18 := Kd.R_putg HO_0.out (x26_2 : Int) x1_9
              go_wp2_with (first | ((with_reducible refine gate_store (t := 3) (p := 38) rfl ?_); (try (rw [drewN_self wr]; generalize hq_ : World.drewN wr _ = wr; have n0_ := Aside0.mk (Kd.R_at hq_ HO_0.out); have n1_ := Aside0.mk (kept_at hq_ HK.out); have n2_ := Aside0.mk (below_at hq_ HB.out); clear hq_ HO_0 HK HB; have HO_0 := n0_; have HK := n1_; have HB := n2_; clear n0_ n1_ n2_; (try (obtain ⟨hxz_, hfz_⟩ := Kd.R_celln 0 HO_0.out (x26_2 : Int) (of_eq_true p17) (of_eq_true q17))); (try (have HP18 := Kd.R_putg HO_0.out (x26_2 : Int) x1_9)))); refine store_event (t := 3) (p := 38) (v := ?vo_w19) (w1 := (wr.setCell ⟨go17, (x26_2 : Int).toNat, none⟩ (.int .i64 x1_9))) ?hg ?ho ?hn ?hr ?_; (case ho => rfl); (case hg => rfl); (case hn => rfl); (case hr => first | (go_simp; done) | (go_simp; rfl)); intro w19 hw; have hg : wr.grownBy w19 (some go17) := (by rw [hw]; exact HP18.2); have hp_ : Kd.R (Kd.int .i64) 3 w19 w0.heap.size (fun k_ => (P0_ k_ ∨ w.heap.size ≤ k_)) (.slice (some ⟨go17, 0, none⟩) x0_2.length co11) y960 := (by rw [hw, Ny960.out]; exact HP18.1); clear HP18; have n0_ := Aside0.mk (hp_); have n1_ := Aside0.mk ((by rw [hw]; exact below_set (HB.out) GB17.out : Below w0.heap.size w0 w19)); have n2_ := Aside0.mk (Kept.of_grown (S := (fun k_ => P0_ k_)) hg (by repeat (first | (with_reducible first | exact HK.out | apply Kept.alloc | apply Kept.drewN | apply Kept.drew) | exact HK.out)) (fun k_ e_ => (HO_0.out.1 k_ e_))); clear HO_0; clear HB; clear HK; have HO_0 := n0_; have HB := n1_; have HK := n2_; clear n0_ n1_ n2_; clear hg hw hp_))
              repeat (go_quiet (first | ((with_reducible refine gate_store (t := 3) (p := 38) rfl ?_); (try (rw [drewN_self wr]; generalize hq_ : World.drewN wr _ = wr; have n0_ := Aside0.mk (Kd.R_at hq_ HO_0.out); have n1_ := Aside0.mk (kept_at hq_ HK.out); have n2_ := Aside0.mk (below_at hq_ HB.out); clear hq_ HO_0 HK HB; have HO_0 := n0_; have HK := n1_; have HB := n2_; clear n0_ n1_ n2_; (try (obtain ⟨hxz_, hfz_⟩ := Kd.R_celln 0 HO_0.out (x26_2 : Int) (of_eq_true p17) (of_eq_true q17))); (try (have HP18 := Kd.R_putg HO_0.out (x26_2 : Int) x1_9)))); refine store_event (t := 3) (p := 38) (v := ?vo_w19) (w1 := (wr.setCell ⟨go17, (x26_2 : Int).toNat, none⟩ (.int .i64 x1_9))) ?hg ?ho ?hn ?hr ?_; (case ho => rfl); (case hg => rfl); (case hn => rfl); (case hr => first | (go_simp; done) | (go_simp; rfl)); intro w19 hw; have hg : wr.grownBy w19 (some go17) := (by rw [hw]; exact HP18.2); have hp_ : Kd.R (Kd.int .i64) 3 w19 w0.heap.size (fun k_ => (P0_ k_ ∨ w.heap.size ≤ k_)) (.slice (some ⟨go17, 0, none⟩) x0_2.length co11) y960 := (by rw [hw, Ny960.out]; exact HP18.1); clear HP18; have n0_ := Aside0.mk (hp_); have n1_ := Aside0.mk ((by rw [hw]; exact below_set (HB.out) GB17.out : Below w0.heap.size w0 w19)); have n2_ := Aside0.mk (Kept.of_grown (S := (fun k_ => P0_ k_)) hg (by repeat (first | (with_reducible first | exact HK.out | apply Kept.alloc | apply Kept.drewN | apply Kept.drew) | exact HK.out)) (fun k_ e_ => (HO_0.out.1 k_ e_))); clear HO_0; clear HB; clear HK; have HO_0 := n0_; have HB := n1_; have HK := n2_; clear n0_ n1_ n2_; clear hg hw hp_)); try go_wp2_with (first | ((with_reducible refine gate_store (t := 3) (p := 38) rfl ?_); (try (rw [drewN_self wr]; generalize hq_ : World.drewN wr _ = wr; have n0_ := Aside0.mk (Kd.R_at hq_ HO_0.out); have n1_ := Aside0.mk (kept_at hq_ HK.out); have n2_ := Aside0.mk (below_at hq_ HB.out); clear hq_ HO_0 HK HB; have HO_0 := n0_; have HK := n1_; have HB := n2_; clear n0_ n1_ n2_; (try (obtain ⟨hxz_, hfz_⟩ := Kd.R_celln 0 HO_0.out (x26_2 : Int) (of_eq_true p17) (of_eq_true q17))); (try (have HP18 := Kd.R_putg HO_0.out (x26_2 : Int) x1_9)))); refine store_event (t := 3) (p := 38) (v := ?vo_w19) (w1 := (wr.setCell ⟨go17, (x26_2 : Int).toNat, none⟩ (.int .i64 x1_9))) ?hg ?ho ?hn ?hr ?_; (case ho => rfl); (case hg => rfl); (case hn => rfl); (case hr => first | (go_simp; done) | (go_simp; rfl)); intro w19 hw; have hg : wr.grownBy w19 (some go17) := (by rw [hw]; exact HP18.2); have hp_ : Kd.R (Kd.int .i64) 3 w19 w0.heap.size (fun k_ => (P0_ k_ ∨ w.heap.size ≤ k_)) (.slice (some ⟨go17, 0, none⟩) x0_2.length co11) y960 := (by rw [hw, Ny960.out]; exact HP18.1); clear HP18; have n0_ := Aside0.mk (hp_); have n1_ := Aside0.mk ((by rw [hw]; exact below_set (HB.out) GB17.out : Below w0.heap.size w0 w19)); have n2_ := Aside0.mk (Kept.of_grown (S := (fun k_ => P0_ k_)) hg (by repeat (first | (with_reducible first | exact HK.out | apply Kept.alloc | apply Kept.drewN | apply Kept.drew) | exact HK.out)) (fun k_ e_ => (HO_0.out.1 k_ e_))); clear HO_0; clear HB; clear HK; have HO_0 := n0_; have HB := n1_; have HK := n2_; clear n0_ n1_ n2_; clear hg hw hp_)))
              (try simp only [← hl0_2])
              go_roundg k2
              case measure => have := HJ9.out; have := HK2.out; omega
              case rel => exact ⟨(y960), (wrap64 (x26_2 + 1)), (by first | rfl | (simp; done) | (simp [*]; done)), H', ⟨by have := HJ9.out; have := HK2.out; omega⟩, ⟨by (try simp only [hl0_2]); (with_reducible repeat (first | apply Kd.R_alloc | apply Kd.R_drewN | apply Kd.R_drew)); exact HO_0.out⟩, ⟨by repeat (first | (with_reducible first | exact HK.out | apply Kept.alloc | apply Kept.drewN | apply Kept.drew) | exact HK.out)⟩, ⟨by repeat (first | (with_reducible first | exact HB.out | apply below_alloc | apply pw_below_drewN | apply below_drew1) | exact HB.out)⟩⟩
             ·rw [if_neg c16] at H
              have c16b0 : ((rd x0_2 x26_2) == x2_9) = false := beq_eq_false_iff_ne.mpr c16
              have c16b1 : ((rd x0_2 x26_2) != x2_9) = true := bne_iff_ne.mpr c16
              have H' := Aside0.mk H
              clear H
              have p959 : 0 ≤ (x26_2 : Int) := of_decide_eq_true (by first | (with_reducible assumption) | assumption)
              have q959 : x26_2 < (x0_2.length : Int) := of_decide_eq_true (by first | (with_reducible assumption) | assumption)
              obtain ⟨ad959, e959, hx959_0⟩ := Kd.at_int (Kd.R_reads' HO_0.out).2.2 x26_2 p959 q959
              obtain rfl : ad957 = ad959 := (by injection e959)
              replace p959 := eq_true p959
              replace q959 := eq_true q959
              go_wp2
              repeat (go_quiet (fail); try go_wp2)
              (try simp only [← hl0_2])
              go_roundg k2
              case measure => have := HJ9.out; have := HK2.out; omega
              case rel => exact ⟨(x0_2), (wrap64 (x26_2 + 1)), (by first | rfl | (simp; done) | (simp [*]; done)), H', ⟨by have := HJ9.out; have := HK2.out; omega⟩, ⟨by (try simp only [hl0_2]); (with_reducible repeat (first | apply Kd.R_alloc | apply Kd.R_drewN | apply Kd.R_drew)); exact HO_0.out⟩, ⟨by repeat (first | (with_reducible first | exact HK.out | apply Kept.alloc | apply Kept.drewN | apply Kept.drew) | exact HK.out)⟩, ⟨by repeat (first | (with_reducible first | exact HB.out | apply below_alloc | apply pw_below_drewN | apply below_drew1) | exact HB.out)⟩⟩
            ·rw [if_neg c15] at H
             exact absurd H (by simp)
           ·rw [if_neg c14] at H
            exact absurd H (by simp)
          ·rw [if_neg c13] at H
           have c13b0 : decide (x26_2 < (l0.length : Int)) = false := decide_eq_false c13
           (try simp only [hl0_2] at c13b0)
           clear c13
           simp only [Option.some.injEq, Prod.mk.injEq] at H
           obtain ⟨rfl, rfl⟩ := H
           go_wp2
           repeat (go_quiet (fail); try go_wp2)
           go_ret
           exact ⟨by first | rfl | (simp [errW_none, errW_some] <;> rfl) | (simp [*, errW_none, errW_some] <;> rfl), (by first | exact (by (with_reducible repeat (first | apply Kd.R_alloc | apply Kd.R_drewN | apply Kd.R_drew)); exact HO_0.out) | (simp only [hl0_2]; exact (by (with_reducible repeat (first | apply Kd.R_alloc | apply Kd.R_drewN | apply Kd.R_drew)); exact HO_0.out))), by repeat (first | (with_reducible first | exact HB.out | apply below_alloc | apply pw_below_drewN | apply below_drew1) | exact HB.out), by repeat (first | (with_reducible first | exact HK.out | apply Kept.alloc | apply Kept.drewN | apply Kept.drew) | exact HK.out)⟩
    ·rw [if_neg c7] at H
     exact absurd H (by simp)
   ·rw [if_neg c6] at H
    exact absurd H (by simp)
  ·rw [if_neg c5] at H
   exact absurd H (by simp)
 ·rw [if_neg c4] at H
  exact absurd H (by simp)
end Go.Proofs.Ytnnbgfphinemfaa.Q
