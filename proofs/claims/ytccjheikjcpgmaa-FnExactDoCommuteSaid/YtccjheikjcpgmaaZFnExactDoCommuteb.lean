/- Part 2 of the proof of the law FnExactDoCommute: functions and lists that say what the Go code computes, and that it does; no condition beside those that each theorem states. -/
import Derived.Test.YtccjheikjcpgmaaZFnExactDoCommutea
import Derived.Test.YtccjheikjcpgmaaZFnExactDoCommuteWMore
import Derived.Test.YtccjheikjcpgmaaZFnExactDoCommuteWKept
import Derived.Test.YtccjheikjcpgmaaZFnExactDoCommuteWApart
import Derived.Test.YtccjheikjcpgmaaZFnExactDoCommuteWFoot
import Derived.Test.YtccjheikjcpgmaaZFnExactDoCommuteWSized
import Derived.Deep.RegionHeld3
namespace Go.Proofs.Ytccjheikjcpgmaa.Q
open Go.RowKit Go.Proofs.YtccjheikjcpgmaaW.PrintWords Go.Proofs.YtccjheikjcpgmaaW.PrintLast Go.Proofs.YtccjheikjcpgmaaW.PrintMore
attribute [local go_sem] max2_int min2_int max_two min_two max_three min_three max_four min_four
set_option linter.unusedVariables false
set_option linter.unusedSimpArgs false
mutual
def impl_DoCommute.j0 : Nat → Int → Bool → Int → List Int → Int → List Int → Option (Bool × Bool)
 | 0, _, _, _, _, _, _ => none
 | k + 1, x0, x45, x399000, x399001, x400000, x400001 => if x45 = true then (some (false, false)) else (impl_DoCommute.l0 k x0 x399000 x400000 0 x399000 x399001 x400000 x400001)
def impl_DoCommute.l0 : Nat → Int → Int → Int → Int → Int → List Int → Int → List Int → Option (Bool × Bool)
 | 0, _, _, _, _, _, _, _, _ => none
 | k + 1, x0, x8, x9, x10, x399000, x399001, x400000, x400001 => (impl_power.f k x0 (wrap64 (x8 * x9))).bind fun t402 => (if x10 < t402 then ((impl_argsAt.f k x10 (wrap64 (x8 * x9)) x0).bind fun t403 => (impl_DoCommute.l1 k x0 x8 x9 x10 t403 0 0 0 x399000 x399001 x400000 x400001)) else (some (true, true)))
def impl_DoCommute.l1 : Nat → Int → Int → Int → Int → List Int → Int → Int → Int → Int → List Int → Int → List Int → Option (Bool × Bool)
 | 0, _, _, _, _, _, _, _, _, _, _, _, _ => none
 | k + 1, x0, x8, x9, x10, x11, x12, x13, x14, x399000, x399001, x400000, x400001 => if x14 < x8 then (if 0 ≤ (wrap64 (x14 * x9)) then (if (wrap64 (x14 * x9)) ≤ (wrap64 ((wrap64 (x14 + 1)) * x9)) then (if (wrap64 ((wrap64 (x14 + 1)) * x9)) ≤ (x11.length : Int) then ((impl_indexOf.f k ((x11.take ((wrap64 ((wrap64 (x14 + 1)) * x9)) : Int).toNat).drop ((wrap64 (x14 * x9)) : Int).toNat) x0).bind fun t410 => (if 0 ≤ t410 then (if t410 < (x400001.length : Int) then (impl_DoCommute.l1 k x0 x8 x9 x10 x11 (wrap64 ((wrap64 (x12 * x0)) + (rd x400001 t410))) x13 (wrap64 (x14 + 1)) x399000 x399001 x400000 x400001) else (none)) else (none))) else (none)) else (none)) else (none)) else (impl_DoCommute.l2 k x0 x8 x9 x10 x11 x12 x13 0 x399000 x399001 x400000 x400001)
def impl_DoCommute.l2 : Nat → Int → Int → Int → Int → List Int → Int → Int → Int → Int → List Int → Int → List Int → Option (Bool × Bool)
 | 0, _, _, _, _, _, _, _, _, _, _, _, _ => none
 | k + 1, x0, x8, x9, x10, x11, x12, x13, x15, x399000, x399001, x400000, x400001 => if x15 < x9 then (impl_DoCommute.l3 k x0 x8 x9 x10 x11 x12 x13 x15 0 0 x399000 x399001 x400000 x400001) else (if 0 ≤ x12 then (if x12 < (x399001.length : Int) then (if 0 ≤ x13 then (if x13 < (x400001.length : Int) then (if (rd x399001 x12) = (rd x400001 x13) then (impl_DoCommute.l0 k x0 x8 x9 (wrap64 (x10 + 1)) x399000 x399001 x400000 x400001) else (some (false, true))) else (none)) else (none)) else (none)) else (none))
def impl_DoCommute.l3 : Nat → Int → Int → Int → Int → List Int → Int → Int → Int → Int → Int → Int → List Int → Int → List Int → Option (Bool × Bool)
 | 0, _, _, _, _, _, _, _, _, _, _, _, _, _, _ => none
 | k + 1, x0, x8, x9, x10, x11, x12, x13, x15, x16, x17, x399000, x399001, x400000, x400001 => if x17 < x8 then (if 0 ≤ (wrap64 ((wrap64 (x17 * x9)) + x15)) then (if (wrap64 ((wrap64 (x17 * x9)) + x15)) < (x11.length : Int) then (impl_DoCommute.l3 k x0 x8 x9 x10 x11 x12 x13 x15 (wrap64 ((wrap64 (x16 * x0)) + (rd x11 (wrap64 ((wrap64 (x17 * x9)) + x15))))) (wrap64 (x17 + 1)) x399000 x399001 x400000 x400001) else (none)) else (none)) else (if 0 ≤ x16 then (if x16 < (x399001.length : Int) then (impl_DoCommute.l2 k x0 x8 x9 x10 x11 x12 (wrap64 ((wrap64 (x13 * x0)) + (rd x399001 x16))) (wrap64 (x15 + 1)) x399000 x399001 x400000 x400001) else (none)) else (none))
end
def impl_DoCommute.f (k : Nat) (a0 : Int) (a1_0 : Int) (l1_1 : List Int) (a2_0 : Int) (l2_1 : List Int) : Option (Bool × Bool) := if a0 < 1 then (impl_DoCommute.j0 k a0 true a1_0 l1_1 a2_0 l2_1) else (if a0 > 4 then (impl_DoCommute.j0 k a0 true a1_0 l1_1 a2_0 l2_1) else ((impl_isOp.f k a1_0 l1_1 a0).bind fun t400 => (if t400 = true then ((impl_isOp.f k a2_0 l2_1 a0).bind fun t401 => (if t401 = true then (if a1_0 > 2 then (impl_DoCommute.j0 k a0 true a1_0 l1_1 a2_0 l2_1) else (impl_DoCommute.j0 k a0 (decide (a2_0 > 2)) a1_0 l1_1 a2_0 l2_1)) else (impl_DoCommute.j0 k a0 true a1_0 l1_1 a2_0 l2_1))) else (impl_DoCommute.j0 k a0 true a1_0 l1_1 a2_0 l2_1))))
theorem impl_DoCommute.mono_l : ∀ k, (∀ y0 y1 y2 y3 y4 y5, LeO (impl_DoCommute.j0 k y0 y1 y2 y3 y4 y5) (impl_DoCommute.j0 (k + 1) y0 y1 y2 y3 y4 y5)) ∧ (∀ y0 y1 y2 y3 y4 y5 y6 y7, LeO (impl_DoCommute.l0 k y0 y1 y2 y3 y4 y5 y6 y7) (impl_DoCommute.l0 (k + 1) y0 y1 y2 y3 y4 y5 y6 y7)) ∧ (∀ y0 y1 y2 y3 y4 y5 y6 y7 y8 y9 y10 y11, LeO (impl_DoCommute.l1 k y0 y1 y2 y3 y4 y5 y6 y7 y8 y9 y10 y11) (impl_DoCommute.l1 (k + 1) y0 y1 y2 y3 y4 y5 y6 y7 y8 y9 y10 y11)) ∧ (∀ y0 y1 y2 y3 y4 y5 y6 y7 y8 y9 y10 y11, LeO (impl_DoCommute.l2 k y0 y1 y2 y3 y4 y5 y6 y7 y8 y9 y10 y11) (impl_DoCommute.l2 (k + 1) y0 y1 y2 y3 y4 y5 y6 y7 y8 y9 y10 y11)) ∧ (∀ y0 y1 y2 y3 y4 y5 y6 y7 y8 y9 y10 y11 y12 y13, LeO (impl_DoCommute.l3 k y0 y1 y2 y3 y4 y5 y6 y7 y8 y9 y10 y11 y12 y13) (impl_DoCommute.l3 (k + 1) y0 y1 y2 y3 y4 y5 y6 y7 y8 y9 y10 y11 y12 y13))
 | 0 => ⟨fun _ _ _ _ _ _ r h => by simp [impl_DoCommute.j0] at h, fun _ _ _ _ _ _ _ _ r h => by simp [impl_DoCommute.l0] at h, fun _ _ _ _ _ _ _ _ _ _ _ _ r h => by simp [impl_DoCommute.l1] at h, fun _ _ _ _ _ _ _ _ _ _ _ _ r h => by simp [impl_DoCommute.l2] at h, fun _ _ _ _ _ _ _ _ _ _ _ _ _ _ r h => by simp [impl_DoCommute.l3] at h⟩
 | k + 1 => by
  obtain ⟨ih0, ih1, ih2, ih3, ih4⟩ := impl_DoCommute.mono_l k
  refine ⟨?_, ?_, ?_, ?_, ?_⟩
  ·intro y0 y1 y2 y3 y4 y5
   unfold impl_DoCommute.j0
   repeat' first
   | (with_reducible exact ih0 _ _ _ _ _ _)
   | (with_reducible exact ih1 _ _ _ _ _ _ _ _)
   | (with_reducible exact ih2 _ _ _ _ _ _ _ _ _ _ _ _)
   | (with_reducible exact ih3 _ _ _ _ _ _ _ _ _ _ _ _)
   | (with_reducible exact ih4 _ _ _ _ _ _ _ _ _ _ _ _ _ _)
   | (with_reducible exact impl_argsAt.mono _ _ _ _)
   | (with_reducible exact impl_indexOf.mono _ _ _)
   | (with_reducible exact impl_isOp.mono _ _ _ _)
   | (with_reducible exact impl_power.mono _ _ _)
   | (with_reducible exact LeO.refl _)
   | (with_reducible exact LeO.none _)
   | (with_reducible refine LeO.ite ?_ ?_)
   | (with_reducible refine LeO.bind ?_ (fun _ => ?_))
   | exact ih0 _ _ _ _ _ _
   | exact ih1 _ _ _ _ _ _ _ _
   | exact ih2 _ _ _ _ _ _ _ _ _ _ _ _
   | exact ih3 _ _ _ _ _ _ _ _ _ _ _ _
   | exact ih4 _ _ _ _ _ _ _ _ _ _ _ _ _ _
   | exact impl_argsAt.mono _ _ _ _
   | exact impl_indexOf.mono _ _ _
   | exact impl_isOp.mono _ _ _ _
   | exact impl_power.mono _ _ _
   | exact LeO.none _
   | refine LeO.ite ?_ ?_
   | refine LeO.bind ?_ (fun _ => ?_)
  ·intro y0 y1 y2 y3 y4 y5 y6 y7
   unfold impl_DoCommute.l0
   repeat' first
   | (with_reducible exact ih0 _ _ _ _ _ _)
   | (with_reducible exact ih1 _ _ _ _ _ _ _ _)
   | (with_reducible exact ih2 _ _ _ _ _ _ _ _ _ _ _ _)
   | (with_reducible exact ih3 _ _ _ _ _ _ _ _ _ _ _ _)
   | (with_reducible exact ih4 _ _ _ _ _ _ _ _ _ _ _ _ _ _)
   | (with_reducible exact impl_argsAt.mono _ _ _ _)
   | (with_reducible exact impl_indexOf.mono _ _ _)
   | (with_reducible exact impl_isOp.mono _ _ _ _)
   | (with_reducible exact impl_power.mono _ _ _)
   | (with_reducible exact LeO.refl _)
   | (with_reducible exact LeO.none _)
   | (with_reducible refine LeO.ite ?_ ?_)
   | (with_reducible refine LeO.bind ?_ (fun _ => ?_))
   | exact ih0 _ _ _ _ _ _
   | exact ih1 _ _ _ _ _ _ _ _
   | exact ih2 _ _ _ _ _ _ _ _ _ _ _ _
   | exact ih3 _ _ _ _ _ _ _ _ _ _ _ _
   | exact ih4 _ _ _ _ _ _ _ _ _ _ _ _ _ _
   | exact impl_argsAt.mono _ _ _ _
   | exact impl_indexOf.mono _ _ _
   | exact impl_isOp.mono _ _ _ _
   | exact impl_power.mono _ _ _
   | exact LeO.none _
   | refine LeO.ite ?_ ?_
   | refine LeO.bind ?_ (fun _ => ?_)
  ·intro y0 y1 y2 y3 y4 y5 y6 y7 y8 y9 y10 y11
   unfold impl_DoCommute.l1
   repeat' first
   | (with_reducible exact ih0 _ _ _ _ _ _)
   | (with_reducible exact ih1 _ _ _ _ _ _ _ _)
   | (with_reducible exact ih2 _ _ _ _ _ _ _ _ _ _ _ _)
   | (with_reducible exact ih3 _ _ _ _ _ _ _ _ _ _ _ _)
   | (with_reducible exact ih4 _ _ _ _ _ _ _ _ _ _ _ _ _ _)
   | (with_reducible exact impl_argsAt.mono _ _ _ _)
   | (with_reducible exact impl_indexOf.mono _ _ _)
   | (with_reducible exact impl_isOp.mono _ _ _ _)
   | (with_reducible exact impl_power.mono _ _ _)
   | (with_reducible exact LeO.refl _)
   | (with_reducible exact LeO.none _)
   | (with_reducible refine LeO.ite ?_ ?_)
   | (with_reducible refine LeO.bind ?_ (fun _ => ?_))
   | exact ih0 _ _ _ _ _ _
   | exact ih1 _ _ _ _ _ _ _ _
   | exact ih2 _ _ _ _ _ _ _ _ _ _ _ _
   | exact ih3 _ _ _ _ _ _ _ _ _ _ _ _
   | exact ih4 _ _ _ _ _ _ _ _ _ _ _ _ _ _
   | exact impl_argsAt.mono _ _ _ _
   | exact impl_indexOf.mono _ _ _
   | exact impl_isOp.mono _ _ _ _
   | exact impl_power.mono _ _ _
   | exact LeO.none _
   | refine LeO.ite ?_ ?_
   | refine LeO.bind ?_ (fun _ => ?_)
  ·intro y0 y1 y2 y3 y4 y5 y6 y7 y8 y9 y10 y11
   unfold impl_DoCommute.l2
   repeat' first
   | (with_reducible exact ih0 _ _ _ _ _ _)
   | (with_reducible exact ih1 _ _ _ _ _ _ _ _)
   | (with_reducible exact ih2 _ _ _ _ _ _ _ _ _ _ _ _)
   | (with_reducible exact ih3 _ _ _ _ _ _ _ _ _ _ _ _)
   | (with_reducible exact ih4 _ _ _ _ _ _ _ _ _ _ _ _ _ _)
   | (with_reducible exact impl_argsAt.mono _ _ _ _)
   | (with_reducible exact impl_indexOf.mono _ _ _)
   | (with_reducible exact impl_isOp.mono _ _ _ _)
   | (with_reducible exact impl_power.mono _ _ _)
   | (with_reducible exact LeO.refl _)
   | (with_reducible exact LeO.none _)
   | (with_reducible refine LeO.ite ?_ ?_)
   | (with_reducible refine LeO.bind ?_ (fun _ => ?_))
   | exact ih0 _ _ _ _ _ _
   | exact ih1 _ _ _ _ _ _ _ _
   | exact ih2 _ _ _ _ _ _ _ _ _ _ _ _
   | exact ih3 _ _ _ _ _ _ _ _ _ _ _ _
   | exact ih4 _ _ _ _ _ _ _ _ _ _ _ _ _ _
   | exact impl_argsAt.mono _ _ _ _
   | exact impl_indexOf.mono _ _ _
   | exact impl_isOp.mono _ _ _ _
   | exact impl_power.mono _ _ _
   | exact LeO.none _
   | refine LeO.ite ?_ ?_
   | refine LeO.bind ?_ (fun _ => ?_)
  ·intro y0 y1 y2 y3 y4 y5 y6 y7 y8 y9 y10 y11 y12 y13
   unfold impl_DoCommute.l3
   repeat' first
   | (with_reducible exact ih0 _ _ _ _ _ _)
   | (with_reducible exact ih1 _ _ _ _ _ _ _ _)
   | (with_reducible exact ih2 _ _ _ _ _ _ _ _ _ _ _ _)
   | (with_reducible exact ih3 _ _ _ _ _ _ _ _ _ _ _ _)
   | (with_reducible exact ih4 _ _ _ _ _ _ _ _ _ _ _ _ _ _)
   | (with_reducible exact impl_argsAt.mono _ _ _ _)
   | (with_reducible exact impl_indexOf.mono _ _ _)
   | (with_reducible exact impl_isOp.mono _ _ _ _)
   | (with_reducible exact impl_power.mono _ _ _)
   | (with_reducible exact LeO.refl _)
   | (with_reducible exact LeO.none _)
   | (with_reducible refine LeO.ite ?_ ?_)
   | (with_reducible refine LeO.bind ?_ (fun _ => ?_))
   | exact ih0 _ _ _ _ _ _
   | exact ih1 _ _ _ _ _ _ _ _
   | exact ih2 _ _ _ _ _ _ _ _ _ _ _ _
   | exact ih3 _ _ _ _ _ _ _ _ _ _ _ _
   | exact ih4 _ _ _ _ _ _ _ _ _ _ _ _ _ _
   | exact impl_argsAt.mono _ _ _ _
   | exact impl_indexOf.mono _ _ _
   | exact impl_isOp.mono _ _ _ _
   | exact impl_power.mono _ _ _
   | exact LeO.none _
   | refine LeO.ite ?_ ?_
   | refine LeO.bind ?_ (fun _ => ?_)
theorem impl_DoCommute.mono : ∀ a0 a1 a2 a3 a4 k, LeO (impl_DoCommute.f k a0 a1 a2 a3 a4) (impl_DoCommute.f (k + 1) a0 a1 a2 a3 a4) := by
 intro a0 a1 a2 a3 a4 k
 obtain ⟨ih0, ih1, ih2, ih3, ih4⟩ := impl_DoCommute.mono_l k
 unfold impl_DoCommute.f
 repeat' first
   | (with_reducible exact ih0 _ _ _ _ _ _)
   | (with_reducible exact ih1 _ _ _ _ _ _ _ _)
   | (with_reducible exact ih2 _ _ _ _ _ _ _ _ _ _ _ _)
   | (with_reducible exact ih3 _ _ _ _ _ _ _ _ _ _ _ _)
   | (with_reducible exact ih4 _ _ _ _ _ _ _ _ _ _ _ _ _ _)
   | (with_reducible exact impl_argsAt.mono _ _ _ _)
   | (with_reducible exact impl_indexOf.mono _ _ _)
   | (with_reducible exact impl_isOp.mono _ _ _ _)
   | (with_reducible exact impl_power.mono _ _ _)
   | (with_reducible exact LeO.refl _)
   | (with_reducible exact LeO.none _)
   | (with_reducible refine LeO.ite ?_ ?_)
   | (with_reducible refine LeO.bind ?_ (fun _ => ?_))
   | exact ih0 _ _ _ _ _ _
   | exact ih1 _ _ _ _ _ _ _ _
   | exact ih2 _ _ _ _ _ _ _ _ _ _ _ _
   | exact ih3 _ _ _ _ _ _ _ _ _ _ _ _
   | exact ih4 _ _ _ _ _ _ _ _ _ _ _ _ _ _
   | exact impl_argsAt.mono _ _ _ _
   | exact impl_indexOf.mono _ _ _
   | exact impl_isOp.mono _ _ _ _
   | exact impl_power.mono _ _ _
   | exact LeO.none _
   | refine LeO.ite ?_ ?_
   | refine LeO.bind ?_ (fun _ => ?_)
set_option maxHeartbeats 8000000 in
set_option maxRecDepth 100000 in
theorem impl_DoCommute.calls (k : Nat) (a0 : Int) (a1_0 : Int) (A1_1 : Option Addr) (c1_1 : Nat) (l1_1 : List Int) (a2_0 : Int) (A2_1 : Option Addr) (c2_1 : Nat) (l2_1 : List Int) (r1 : Bool) (r2 : Bool) (w : World) (hr1_1 : Kd.C (Kd.int .i64) w A1_1 l1_1.length l1_1) (hc1_1 : l1_1.length ≤ c1_1) (hr2_1 : Kd.C (Kd.int .i64) w A2_1 l2_1.length l2_1) (hc2_1 : l2_1.length ≤ c2_1) (h : impl_DoCommute.f k a0 a1_0 l1_1 a2_0 l2_1 = some (r1, r2)) :
  Calls Try.prog 17 #[.int .i64 a0, .agg #[.int .i64 a1_0, .slice A1_1 l1_1.length c1_1], .agg #[.int .i64 a2_0, .slice A2_1 l2_1.length c2_1]] w fun e w' => e = .returned (.tuple #[.bool r1, .bool r2]) ∧ Below w.heap.size w w' := by
 have hu41 := Try.underlying41
 have HR1_1 := Aside0.mk hr1_1
 have HC1_1 := Aside0.mk hc1_1
 clear hr1_1 hc1_1
 have HR2_1 := Aside0.mk hr2_1
 have HC2_1 := Aside0.mk hc2_1
 clear hr2_1 hc2_1
 have HB := Aside0.mk (Below.refl w.heap.size w)
 have H : (if a0 < 1 then (impl_DoCommute.j0 k a0 true a1_0 l1_1 a2_0 l2_1) else (if a0 > 4 then (impl_DoCommute.j0 k a0 true a1_0 l1_1 a2_0 l2_1) else ((impl_isOp.f k a1_0 l1_1 a0).bind fun t400 => (if t400 = true then ((impl_isOp.f k a2_0 l2_1 a0).bind fun t401 => (if t401 = true then (if a1_0 > 2 then (impl_DoCommute.j0 k a0 true a1_0 l1_1 a2_0 l2_1) else (impl_DoCommute.j0 k a0 (decide (a2_0 > 2)) a1_0 l1_1 a2_0 l2_1)) else (impl_DoCommute.j0 k a0 true a1_0 l1_1 a2_0 l2_1))) else (impl_DoCommute.j0 k a0 true a1_0 l1_1 a2_0 l2_1))))) = some (r1, r2) := h
 clear h
 have HC4 := Aside0.mk H
 clear H
 go_enter Try.func17, Try.ntmps17
 go_upto_region 1 with (first | ((with_reducible refine gate_dst (N := 4) rfl ?_); refine box_event ?hg (N := 4) ?hd (cs := #[.int .i64 a1_0, .slice A1_1 l1_1.length c1_1]) (t := 41) ?hr ?_; (case hd => rfl); (case hg => rfl); (case hr => first | (go_simp; done) | (go_simp; rfl)); intro gb398 hg w5 hbox hb; have n0_ := Aside0.mk (below_step (by repeat (first | (with_reducible first | exact HB.out | apply below_alloc | apply pw_below_drewN | apply below_drew1) | exact HB.out)) hb); have n1_ := Aside0.mk (hbox); have n2_ := Aside0.mk ((by rw [hg]; exact (below_size (by repeat (first | (with_reducible first | exact HB.out | apply below_alloc | apply pw_below_drewN | apply below_drew1) | exact HB.out))) : w.heap.size ≤ gb398)); have n3_ := Aside0.mk ((by rw [hg]; exact (below_size (by repeat (first | (with_reducible first | exact HB.out | apply below_alloc | apply pw_below_drewN | apply below_drew1) | exact HB.out))) : w.heap.size ≤ gb398)); clear HB; have HB := n0_; have BK398 := n1_; have GW398 := n2_; have GE398 := n3_; clear n0_ n1_ n2_ n3_; clear hb hbox hg) | ((with_reducible refine gate_dst (N := 5) rfl ?_); refine box_event ?hg (N := 5) ?hd (cs := #[.int .i64 a2_0, .slice A2_1 l2_1.length c2_1]) (t := 41) ?hr ?_; (case hd => rfl); (case hg => rfl); (case hr => first | (go_simp; done) | (go_simp; rfl)); intro gb399 hg w6 hbox hb; have n0_ := Aside0.mk (blk_below (g := gb398) (o := .cells #[.int .i64 a1_0, .slice A1_1 l1_1.length c1_1] 41 (0, 0)) (by (with_reducible repeat (first | refine blk_drewN ?_ _ | refine blk_drew ?_ | refine blk_alloc ?_ _)); exact BK398.out) hb); have n1_ := Aside0.mk (below_step (by repeat (first | (with_reducible first | exact HB.out | apply below_alloc | apply pw_below_drewN | apply below_drew1 | refine below_set ?_ GE398.out) | exact HB.out)) hb); have n2_ := Aside0.mk (hbox); have n3_ := Aside0.mk ((by rw [hg]; exact (below_size (by repeat (first | (with_reducible first | exact HB.out | apply below_alloc | apply pw_below_drewN | apply below_drew1 | refine below_set ?_ GE398.out) | exact HB.out))) : w.heap.size ≤ gb399)); have n4_ := Aside0.mk ((by rw [hg]; exact (below_size (by repeat (first | (with_reducible first | exact HB.out | apply below_alloc | apply pw_below_drewN | apply below_drew1 | refine below_set ?_ GE398.out) | exact HB.out))) : w.heap.size ≤ gb399)); have n5_ := Aside0.mk ((by rw [hg]; exact Nat.ne_of_lt (blk_lt (g := gb398) (o := .cells #[.int .i64 a1_0, .slice A1_1 l1_1.length c1_1] 41 (0, 0)) (by (with_reducible repeat (first | refine blk_drewN ?_ _ | refine blk_drew ?_ | refine blk_alloc ?_ _)); exact BK398.out)) : gb398 ≠ gb399)); have n6_ := Aside0.mk ((by rw [hg]; exact Nat.ne_of_gt (blk_lt (g := gb398) (o := .cells #[.int .i64 a1_0, .slice A1_1 l1_1.length c1_1] 41 (0, 0)) (by (with_reducible repeat (first | refine blk_drewN ?_ _ | refine blk_drew ?_ | refine blk_alloc ?_ _)); exact BK398.out)) : gb399 ≠ gb398)); clear BK398; clear HB; have BK398 := n0_; have HB := n1_; have BK399 := n2_; have GW399 := n3_; have GE399 := n4_; have NB398_399 := n5_; have NB399_398 := n6_; clear n0_ n1_ n2_ n3_ n4_ n5_ n6_; clear hb hbox hg))
 repeat (go_quiet (first | ((with_reducible refine gate_dst (N := 4) rfl ?_); refine box_event ?hg (N := 4) ?hd (cs := #[.int .i64 a1_0, .slice A1_1 l1_1.length c1_1]) (t := 41) ?hr ?_; (case hd => rfl); (case hg => rfl); (case hr => first | (go_simp; done) | (go_simp; rfl)); intro gb398 hg w5 hbox hb; have n0_ := Aside0.mk (below_step (by repeat (first | (with_reducible first | exact HB.out | apply below_alloc | apply pw_below_drewN | apply below_drew1) | exact HB.out)) hb); have n1_ := Aside0.mk (hbox); have n2_ := Aside0.mk ((by rw [hg]; exact (below_size (by repeat (first | (with_reducible first | exact HB.out | apply below_alloc | apply pw_below_drewN | apply below_drew1) | exact HB.out))) : w.heap.size ≤ gb398)); have n3_ := Aside0.mk ((by rw [hg]; exact (below_size (by repeat (first | (with_reducible first | exact HB.out | apply below_alloc | apply pw_below_drewN | apply below_drew1) | exact HB.out))) : w.heap.size ≤ gb398)); clear HB; have HB := n0_; have BK398 := n1_; have GW398 := n2_; have GE398 := n3_; clear n0_ n1_ n2_ n3_; clear hb hbox hg) | ((with_reducible refine gate_dst (N := 5) rfl ?_); refine box_event ?hg (N := 5) ?hd (cs := #[.int .i64 a2_0, .slice A2_1 l2_1.length c2_1]) (t := 41) ?hr ?_; (case hd => rfl); (case hg => rfl); (case hr => first | (go_simp; done) | (go_simp; rfl)); intro gb399 hg w6 hbox hb; have n0_ := Aside0.mk (blk_below (g := gb398) (o := .cells #[.int .i64 a1_0, .slice A1_1 l1_1.length c1_1] 41 (0, 0)) (by (with_reducible repeat (first | refine blk_drewN ?_ _ | refine blk_drew ?_ | refine blk_alloc ?_ _)); exact BK398.out) hb); have n1_ := Aside0.mk (below_step (by repeat (first | (with_reducible first | exact HB.out | apply below_alloc | apply pw_below_drewN | apply below_drew1 | refine below_set ?_ GE398.out) | exact HB.out)) hb); have n2_ := Aside0.mk (hbox); have n3_ := Aside0.mk ((by rw [hg]; exact (below_size (by repeat (first | (with_reducible first | exact HB.out | apply below_alloc | apply pw_below_drewN | apply below_drew1 | refine below_set ?_ GE398.out) | exact HB.out))) : w.heap.size ≤ gb399)); have n4_ := Aside0.mk ((by rw [hg]; exact (below_size (by repeat (first | (with_reducible first | exact HB.out | apply below_alloc | apply pw_below_drewN | apply below_drew1 | refine below_set ?_ GE398.out) | exact HB.out))) : w.heap.size ≤ gb399)); have n5_ := Aside0.mk ((by rw [hg]; exact Nat.ne_of_lt (blk_lt (g := gb398) (o := .cells #[.int .i64 a1_0, .slice A1_1 l1_1.length c1_1] 41 (0, 0)) (by (with_reducible repeat (first | refine blk_drewN ?_ _ | refine blk_drew ?_ | refine blk_alloc ?_ _)); exact BK398.out)) : gb398 ≠ gb399)); have n6_ := Aside0.mk ((by rw [hg]; exact Nat.ne_of_gt (blk_lt (g := gb398) (o := .cells #[.int .i64 a1_0, .slice A1_1 l1_1.length c1_1] 41 (0, 0)) (by (with_reducible repeat (first | refine blk_drewN ?_ _ | refine blk_drew ?_ | refine blk_alloc ?_ _)); exact BK398.out)) : gb399 ≠ gb398)); clear BK398; clear HB; have BK398 := n0_; have HB := n1_; have BK399 := n2_; have GW399 := n3_; have GE399 := n4_; have NB398_399 := n5_; have NB399_398 := n6_; clear n0_ n1_ n2_ n3_ n4_ n5_ n6_; clear hb hbox hg)); go_upto_region 1 with (first | ((with_reducible refine gate_dst (N := 4) rfl ?_); refine box_event ?hg (N := 4) ?hd (cs := #[.int .i64 a1_0, .slice A1_1 l1_1.length c1_1]) (t := 41) ?hr ?_; (case hd => rfl); (case hg => rfl); (case hr => first | (go_simp; done) | (go_simp; rfl)); intro gb398 hg w5 hbox hb; have n0_ := Aside0.mk (below_step (by repeat (first | (with_reducible first | exact HB.out | apply below_alloc | apply pw_below_drewN | apply below_drew1) | exact HB.out)) hb); have n1_ := Aside0.mk (hbox); have n2_ := Aside0.mk ((by rw [hg]; exact (below_size (by repeat (first | (with_reducible first | exact HB.out | apply below_alloc | apply pw_below_drewN | apply below_drew1) | exact HB.out))) : w.heap.size ≤ gb398)); have n3_ := Aside0.mk ((by rw [hg]; exact (below_size (by repeat (first | (with_reducible first | exact HB.out | apply below_alloc | apply pw_below_drewN | apply below_drew1) | exact HB.out))) : w.heap.size ≤ gb398)); clear HB; have HB := n0_; have BK398 := n1_; have GW398 := n2_; have GE398 := n3_; clear n0_ n1_ n2_ n3_; clear hb hbox hg) | ((with_reducible refine gate_dst (N := 5) rfl ?_); refine box_event ?hg (N := 5) ?hd (cs := #[.int .i64 a2_0, .slice A2_1 l2_1.length c2_1]) (t := 41) ?hr ?_; (case hd => rfl); (case hg => rfl); (case hr => first | (go_simp; done) | (go_simp; rfl)); intro gb399 hg w6 hbox hb; have n0_ := Aside0.mk (blk_below (g := gb398) (o := .cells #[.int .i64 a1_0, .slice A1_1 l1_1.length c1_1] 41 (0, 0)) (by (with_reducible repeat (first | refine blk_drewN ?_ _ | refine blk_drew ?_ | refine blk_alloc ?_ _)); exact BK398.out) hb); have n1_ := Aside0.mk (below_step (by repeat (first | (with_reducible first | exact HB.out | apply below_alloc | apply pw_below_drewN | apply below_drew1 | refine below_set ?_ GE398.out) | exact HB.out)) hb); have n2_ := Aside0.mk (hbox); have n3_ := Aside0.mk ((by rw [hg]; exact (below_size (by repeat (first | (with_reducible first | exact HB.out | apply below_alloc | apply pw_below_drewN | apply below_drew1 | refine below_set ?_ GE398.out) | exact HB.out))) : w.heap.size ≤ gb399)); have n4_ := Aside0.mk ((by rw [hg]; exact (below_size (by repeat (first | (with_reducible first | exact HB.out | apply below_alloc | apply pw_below_drewN | apply below_drew1 | refine below_set ?_ GE398.out) | exact HB.out))) : w.heap.size ≤ gb399)); have n5_ := Aside0.mk ((by rw [hg]; exact Nat.ne_of_lt (blk_lt (g := gb398) (o := .cells #[.int .i64 a1_0, .slice A1_1 l1_1.length c1_1] 41 (0, 0)) (by (with_reducible repeat (first | refine blk_drewN ?_ _ | refine blk_drew ?_ | refine blk_alloc ?_ _)); exact BK398.out)) : gb398 ≠ gb399)); have n6_ := Aside0.mk ((by rw [hg]; exact Nat.ne_of_gt (blk_lt (g := gb398) (o := .cells #[.int .i64 a1_0, .slice A1_1 l1_1.length c1_1] 41 (0, 0)) (by (with_reducible repeat (first | refine blk_drewN ?_ _ | refine blk_drew ?_ | refine blk_alloc ?_ _)); exact BK398.out)) : gb399 ≠ gb398)); clear BK398; clear HB; have BK398 := n0_; have HB := n1_; have BK399 := n2_; have GW399 := n3_; have GE399 := n4_; have NB398_399 := n5_; have NB399_398 := n6_; clear n0_ n1_ n2_ n3_ n4_ n5_ n6_; clear hb hbox hg)))
 (try simp only [Act.put, List.setIfInBounds_toArray, List.set_cons_zero, List.set_cons_succ])
 go_cut [45] (fun v45 wc => ∃ (kq : Nat) (x45_3 : Bool), v45 = .bool x45_3 ∧ Aside0 (impl_DoCommute.j0 kq a0 x45_3 a1_0 l1_1 a2_0 l2_1 = some (r1, r2)) ∧ Aside0 (kq ≤ k) ∧ Aside0 (wc.heap[gb398]? = some (.cells #[.int .i64 a1_0, (.slice A1_1 l1_1.length c1_1)] 41 (0, 0))) ∧ Aside0 (wc.heap[gb399]? = some (.cells #[.int .i64 a2_0, (.slice A2_1 l2_1.length c2_1)] 41 (0, 0))) ∧ Aside0 (Below w.heap.size w wc))
 case first =>
  have H := HC4.out
  clear HC4
  by_cases c7 : a0 < 1
  ·rw [if_pos c7] at H
   have c7b0 : decide (a0 < 1) = true := decide_eq_true c7
   clear c7
   (first | rw [c7b0] | (simp only [i64_w, i32_w]; rw [c7b0]) | skip)
   have H' := Aside0.mk H
   clear H
   go_wp2
   repeat (go_quiet (fail); try go_wp2)
   go_meet
   case rel => exact ⟨_, (true), (by first | rfl | (simp; done) | (simp [*]; done)), H', ⟨by first | omega | exact Nat.le_refl _⟩, ⟨by (with_reducible repeat (first | refine blk_drewN ?_ _ | refine blk_drew ?_ | refine blk_alloc ?_ _)); exact BK398.out⟩, ⟨by (with_reducible repeat (first | refine blk_drewN ?_ _ | refine blk_drew ?_ | refine blk_alloc ?_ _)); exact BK399.out⟩, ⟨by repeat (first | (with_reducible first | exact HB.out | apply below_alloc | apply pw_below_drewN | apply below_drew1 | refine below_set ?_ GE398.out | refine below_set ?_ GE399.out) | exact HB.out)⟩⟩
  ·rw [if_neg c7] at H
   have c7b0 : decide (a0 < 1) = false := decide_eq_false c7
   clear c7
   (first | rw [c7b0] | (simp only [i64_w, i32_w]; rw [c7b0]) | skip)
   by_cases c8 : a0 > 4
   ·rw [if_pos c8] at H
    have c8b0 : decide (4 < a0) = true := decide_eq_true c8
    clear c8
    have H' := Aside0.mk H
    clear H
    go_wp2
    repeat (go_quiet (fail); try go_wp2)
    go_meet
    case rel => exact ⟨_, (true), (by first | rfl | (simp; done) | (simp [*]; done)), H', ⟨by first | omega | exact Nat.le_refl _⟩, ⟨by (with_reducible repeat (first | refine blk_drewN ?_ _ | refine blk_drew ?_ | refine blk_alloc ?_ _)); exact BK398.out⟩, ⟨by (with_reducible repeat (first | refine blk_drewN ?_ _ | refine blk_drew ?_ | refine blk_alloc ?_ _)); exact BK399.out⟩, ⟨by repeat (first | (with_reducible first | exact HB.out | apply below_alloc | apply pw_below_drewN | apply below_drew1 | refine below_set ?_ GE398.out | refine below_set ?_ GE399.out) | exact HB.out)⟩⟩
   ·rw [if_neg c8] at H
    have c8b0 : decide (4 < a0) = false := decide_eq_false c8
    clear c8
    replace H := Option.bind_eq_some_iff.mp H
    obtain ⟨t400, A90, H⟩ := H
    replace H : (if t400 = true then ((impl_isOp.f k a2_0 l2_1 a0).bind fun t401 => (if t401 = true then (if a1_0 > 2 then (impl_DoCommute.j0 k a0 true a1_0 l1_1 a2_0 l2_1) else (impl_DoCommute.j0 k a0 (decide (a2_0 > 2)) a1_0 l1_1 a2_0 l2_1)) else (impl_DoCommute.j0 k a0 true a1_0 l1_1 a2_0 l2_1))) else (impl_DoCommute.j0 k a0 true a1_0 l1_1 a2_0 l2_1)) = some (r1, r2) := H
    have A9 := Aside0.mk A90
    clear A90
    by_cases c10 : t400 = true
    ·subst c10
     have H1 : ((impl_isOp.f k a2_0 l2_1 a0).bind fun t401 => (if t401 = true then (if a1_0 > 2 then (impl_DoCommute.j0 k a0 true a1_0 l1_1 a2_0 l2_1) else (impl_DoCommute.j0 k a0 (decide (a2_0 > 2)) a1_0 l1_1 a2_0 l2_1)) else (impl_DoCommute.j0 k a0 true a1_0 l1_1 a2_0 l2_1))) = some (r1, r2) := by rw [if_pos rfl] at H; exact H
     clear H
     have H := H1
     clear H1
     replace H := Option.bind_eq_some_iff.mp H
     obtain ⟨t401, A110, H⟩ := H
     replace H : (if t401 = true then (if a1_0 > 2 then (impl_DoCommute.j0 k a0 true a1_0 l1_1 a2_0 l2_1) else (impl_DoCommute.j0 k a0 (decide (a2_0 > 2)) a1_0 l1_1 a2_0 l2_1)) else (impl_DoCommute.j0 k a0 true a1_0 l1_1 a2_0 l2_1)) = some (r1, r2) := H
     have A11 := Aside0.mk A110
     clear A110
     by_cases c12 : t401 = true
     ·subst c12
      have H1 : (if a1_0 > 2 then (impl_DoCommute.j0 k a0 true a1_0 l1_1 a2_0 l2_1) else (impl_DoCommute.j0 k a0 (decide (a2_0 > 2)) a1_0 l1_1 a2_0 l2_1)) = some (r1, r2) := by rw [if_pos rfl] at H; exact H
      clear H
      have H := H1
      clear H1
      by_cases c13 : a1_0 > 2
      ·rw [if_pos c13] at H
       have c13b0 : decide (2 < a1_0) = true := decide_eq_true c13
       clear c13
       have H' := Aside0.mk H
       clear H
       have hnb14 := NB398_399.out
       have hnc14 := NB399_398.out
       have hcz15_0 : w6.cell? ⟨gb398, 0, none⟩ = some (.int .i64 a1_0) := (blk_cell BK398.out 0).trans rfl
       have hcz15_1 : w6.cell? ⟨gb398, 1, none⟩ = some (.slice A1_1 l1_1.length c1_1) := (blk_cell BK398.out 1).trans rfl
       have hfz15_0 := blk_frozen BK398.out 0
       have hfz15_1 := blk_frozen BK398.out 1
       go_wp2_with (first | (go_at_call 41; (with_reducible refine (impl_isOp.calls k a1_0 _ _ l1_1 a0 true _ ?side1 ?side2 A9.out).mono ?_); (case side1 => repeat (first | exact (Kd.C_below HR1_1.out HB.out) | (with_reducible refine Kd.C_alloc ?_ _) | (with_reducible refine Kd.C_drewN ?_ _) | (with_reducible refine Kd.C_drew ?_))); (case side2 => exact HC1_1.out); rintro e w16 ⟨rfl, hb⟩; have n0_ := Aside0.mk (blk_below (g := gb398) (o := .cells #[.int .i64 a1_0, .slice A1_1 l1_1.length c1_1] 41 (0, 0)) (by (with_reducible repeat (first | refine blk_drewN ?_ _ | refine blk_drew ?_ | refine blk_alloc ?_ _)); exact BK398.out) hb); have n1_ := Aside0.mk (blk_below (g := gb399) (o := .cells #[.int .i64 a2_0, .slice A2_1 l2_1.length c2_1] 41 (0, 0)) (by (with_reducible repeat (first | refine blk_drewN ?_ _ | refine blk_drew ?_ | refine blk_alloc ?_ _)); exact BK399.out) hb); have n2_ := Aside0.mk (below_step (by repeat (first | (with_reducible first | exact HB.out | apply below_alloc | apply pw_below_drewN | apply below_drew1 | refine below_set ?_ GE398.out | refine below_set ?_ GE399.out) | exact HB.out)) hb); clear BK398; clear BK399; clear HB; have BK398 := n0_; have BK399 := n1_; have HB := n2_; clear n0_ n1_ n2_; (try clear hb); (try clear hb2); (try clear hk); (try clear hi); have hcz17_0 : w16.cell? ⟨gb399, 0, none⟩ = some (.int .i64 a2_0) := (blk_cell BK399.out 0).trans rfl; have hcz17_1 : w16.cell? ⟨gb399, 1, none⟩ = some (.slice A2_1 l2_1.length c2_1) := (blk_cell BK399.out 1).trans rfl; have hfz17_0 := blk_frozen BK399.out 0; have hfz17_1 := blk_frozen BK399.out 1) | (go_at_call 41; (with_reducible refine (impl_isOp.calls k a2_0 _ _ l2_1 a0 true _ ?side1 ?side2 A11.out).mono ?_); (case side1 => repeat (first | exact (Kd.C_below HR2_1.out HB.out) | (with_reducible refine Kd.C_alloc ?_ _) | (with_reducible refine Kd.C_drewN ?_ _) | (with_reducible refine Kd.C_drew ?_))); (case side2 => exact HC2_1.out); rintro e w18 ⟨rfl, hb⟩; have n0_ := Aside0.mk (blk_below (g := gb398) (o := .cells #[.int .i64 a1_0, .slice A1_1 l1_1.length c1_1] 41 (0, 0)) (by (with_reducible repeat (first | refine blk_drewN ?_ _ | refine blk_drew ?_ | refine blk_alloc ?_ _)); exact BK398.out) hb); have n1_ := Aside0.mk (blk_below (g := gb399) (o := .cells #[.int .i64 a2_0, .slice A2_1 l2_1.length c2_1] 41 (0, 0)) (by (with_reducible repeat (first | refine blk_drewN ?_ _ | refine blk_drew ?_ | refine blk_alloc ?_ _)); exact BK399.out) hb); have n2_ := Aside0.mk (below_step (by repeat (first | (with_reducible first | exact HB.out | apply below_alloc | apply pw_below_drewN | apply below_drew1 | refine below_set ?_ GE398.out | refine below_set ?_ GE399.out) | exact HB.out)) hb); clear BK398; clear BK399; clear HB; have BK398 := n0_; have BK399 := n1_; have HB := n2_; clear n0_ n1_ n2_; (try clear hb); (try clear hb2); (try clear hk); (try clear hi); have hcz19_0 : w18.cell? ⟨gb398, 0, none⟩ = some (.int .i64 a1_0) := (blk_cell BK398.out 0).trans rfl; have hcz19_1 : w18.cell? ⟨gb398, 1, none⟩ = some (.slice A1_1 l1_1.length c1_1) := (blk_cell BK398.out 1).trans rfl; have hfz19_0 := blk_frozen BK398.out 0; have hfz19_1 := blk_frozen BK398.out 1))
       repeat (go_quiet (first | (go_at_call 41; (with_reducible refine (impl_isOp.calls k a1_0 _ _ l1_1 a0 true _ ?side1 ?side2 A9.out).mono ?_); (case side1 => repeat (first | exact (Kd.C_below HR1_1.out HB.out) | (with_reducible refine Kd.C_alloc ?_ _) | (with_reducible refine Kd.C_drewN ?_ _) | (with_reducible refine Kd.C_drew ?_))); (case side2 => exact HC1_1.out); rintro e w16 ⟨rfl, hb⟩; have n0_ := Aside0.mk (blk_below (g := gb398) (o := .cells #[.int .i64 a1_0, .slice A1_1 l1_1.length c1_1] 41 (0, 0)) (by (with_reducible repeat (first | refine blk_drewN ?_ _ | refine blk_drew ?_ | refine blk_alloc ?_ _)); exact BK398.out) hb); have n1_ := Aside0.mk (blk_below (g := gb399) (o := .cells #[.int .i64 a2_0, .slice A2_1 l2_1.length c2_1] 41 (0, 0)) (by (with_reducible repeat (first | refine blk_drewN ?_ _ | refine blk_drew ?_ | refine blk_alloc ?_ _)); exact BK399.out) hb); have n2_ := Aside0.mk (below_step (by repeat (first | (with_reducible first | exact HB.out | apply below_alloc | apply pw_below_drewN | apply below_drew1 | refine below_set ?_ GE398.out | refine below_set ?_ GE399.out) | exact HB.out)) hb); clear BK398; clear BK399; clear HB; have BK398 := n0_; have BK399 := n1_; have HB := n2_; clear n0_ n1_ n2_; (try clear hb); (try clear hb2); (try clear hk); (try clear hi); have hcz17_0 : w16.cell? ⟨gb399, 0, none⟩ = some (.int .i64 a2_0) := (blk_cell BK399.out 0).trans rfl; have hcz17_1 : w16.cell? ⟨gb399, 1, none⟩ = some (.slice A2_1 l2_1.length c2_1) := (blk_cell BK399.out 1).trans rfl; have hfz17_0 := blk_frozen BK399.out 0; have hfz17_1 := blk_frozen BK399.out 1) | (go_at_call 41; (with_reducible refine (impl_isOp.calls k a2_0 _ _ l2_1 a0 true _ ?side1 ?side2 A11.out).mono ?_); (case side1 => repeat (first | exact (Kd.C_below HR2_1.out HB.out) | (with_reducible refine Kd.C_alloc ?_ _) | (with_reducible refine Kd.C_drewN ?_ _) | (with_reducible refine Kd.C_drew ?_))); (case side2 => exact HC2_1.out); rintro e w18 ⟨rfl, hb⟩; have n0_ := Aside0.mk (blk_below (g := gb398) (o := .cells #[.int .i64 a1_0, .slice A1_1 l1_1.length c1_1] 41 (0, 0)) (by (with_reducible repeat (first | refine blk_drewN ?_ _ | refine blk_drew ?_ | refine blk_alloc ?_ _)); exact BK398.out) hb); have n1_ := Aside0.mk (blk_below (g := gb399) (o := .cells #[.int .i64 a2_0, .slice A2_1 l2_1.length c2_1] 41 (0, 0)) (by (with_reducible repeat (first | refine blk_drewN ?_ _ | refine blk_drew ?_ | refine blk_alloc ?_ _)); exact BK399.out) hb); have n2_ := Aside0.mk (below_step (by repeat (first | (with_reducible first | exact HB.out | apply below_alloc | apply pw_below_drewN | apply below_drew1 | refine below_set ?_ GE398.out | refine below_set ?_ GE399.out) | exact HB.out)) hb); clear BK398; clear BK399; clear HB; have BK398 := n0_; have BK399 := n1_; have HB := n2_; clear n0_ n1_ n2_; (try clear hb); (try clear hb2); (try clear hk); (try clear hi); have hcz19_0 : w18.cell? ⟨gb398, 0, none⟩ = some (.int .i64 a1_0) := (blk_cell BK398.out 0).trans rfl; have hcz19_1 : w18.cell? ⟨gb398, 1, none⟩ = some (.slice A1_1 l1_1.length c1_1) := (blk_cell BK398.out 1).trans rfl; have hfz19_0 := blk_frozen BK398.out 0; have hfz19_1 := blk_frozen BK398.out 1)); try go_wp2_with (first | (go_at_call 41; (with_reducible refine (impl_isOp.calls k a1_0 _ _ l1_1 a0 true _ ?side1 ?side2 A9.out).mono ?_); (case side1 => repeat (first | exact (Kd.C_below HR1_1.out HB.out) | (with_reducible refine Kd.C_alloc ?_ _) | (with_reducible refine Kd.C_drewN ?_ _) | (with_reducible refine Kd.C_drew ?_))); (case side2 => exact HC1_1.out); rintro e w16 ⟨rfl, hb⟩; have n0_ := Aside0.mk (blk_below (g := gb398) (o := .cells #[.int .i64 a1_0, .slice A1_1 l1_1.length c1_1] 41 (0, 0)) (by (with_reducible repeat (first | refine blk_drewN ?_ _ | refine blk_drew ?_ | refine blk_alloc ?_ _)); exact BK398.out) hb); have n1_ := Aside0.mk (blk_below (g := gb399) (o := .cells #[.int .i64 a2_0, .slice A2_1 l2_1.length c2_1] 41 (0, 0)) (by (with_reducible repeat (first | refine blk_drewN ?_ _ | refine blk_drew ?_ | refine blk_alloc ?_ _)); exact BK399.out) hb); have n2_ := Aside0.mk (below_step (by repeat (first | (with_reducible first | exact HB.out | apply below_alloc | apply pw_below_drewN | apply below_drew1 | refine below_set ?_ GE398.out | refine below_set ?_ GE399.out) | exact HB.out)) hb); clear BK398; clear BK399; clear HB; have BK398 := n0_; have BK399 := n1_; have HB := n2_; clear n0_ n1_ n2_; (try clear hb); (try clear hb2); (try clear hk); (try clear hi); have hcz17_0 : w16.cell? ⟨gb399, 0, none⟩ = some (.int .i64 a2_0) := (blk_cell BK399.out 0).trans rfl; have hcz17_1 : w16.cell? ⟨gb399, 1, none⟩ = some (.slice A2_1 l2_1.length c2_1) := (blk_cell BK399.out 1).trans rfl; have hfz17_0 := blk_frozen BK399.out 0; have hfz17_1 := blk_frozen BK399.out 1) | (go_at_call 41; (with_reducible refine (impl_isOp.calls k a2_0 _ _ l2_1 a0 true _ ?side1 ?side2 A11.out).mono ?_); (case side1 => repeat (first | exact (Kd.C_below HR2_1.out HB.out) | (with_reducible refine Kd.C_alloc ?_ _) | (with_reducible refine Kd.C_drewN ?_ _) | (with_reducible refine Kd.C_drew ?_))); (case side2 => exact HC2_1.out); rintro e w18 ⟨rfl, hb⟩; have n0_ := Aside0.mk (blk_below (g := gb398) (o := .cells #[.int .i64 a1_0, .slice A1_1 l1_1.length c1_1] 41 (0, 0)) (by (with_reducible repeat (first | refine blk_drewN ?_ _ | refine blk_drew ?_ | refine blk_alloc ?_ _)); exact BK398.out) hb); have n1_ := Aside0.mk (blk_below (g := gb399) (o := .cells #[.int .i64 a2_0, .slice A2_1 l2_1.length c2_1] 41 (0, 0)) (by (with_reducible repeat (first | refine blk_drewN ?_ _ | refine blk_drew ?_ | refine blk_alloc ?_ _)); exact BK399.out) hb); have n2_ := Aside0.mk (below_step (by repeat (first | (with_reducible first | exact HB.out | apply below_alloc | apply pw_below_drewN | apply below_drew1 | refine below_set ?_ GE398.out | refine below_set ?_ GE399.out) | exact HB.out)) hb); clear BK398; clear BK399; clear HB; have BK398 := n0_; have BK399 := n1_; have HB := n2_; clear n0_ n1_ n2_; (try clear hb); (try clear hb2); (try clear hk); (try clear hi); have hcz19_0 : w18.cell? ⟨gb398, 0, none⟩ = some (.int .i64 a1_0) := (blk_cell BK398.out 0).trans rfl; have hcz19_1 : w18.cell? ⟨gb398, 1, none⟩ = some (.slice A1_1 l1_1.length c1_1) := (blk_cell BK398.out 1).trans rfl; have hfz19_0 := blk_frozen BK398.out 0; have hfz19_1 := blk_frozen BK398.out 1)))
       go_meet
       case rel => exact ⟨_, (true), (by first | rfl | (simp; done) | (simp [*]; done)), H', ⟨by first | omega | exact Nat.le_refl _⟩, ⟨by (with_reducible repeat (first | refine blk_drewN ?_ _ | refine blk_drew ?_ | refine blk_alloc ?_ _)); exact BK398.out⟩, ⟨by (with_reducible repeat (first | refine blk_drewN ?_ _ | refine blk_drew ?_ | refine blk_alloc ?_ _)); exact BK399.out⟩, ⟨by repeat (first | (with_reducible first | exact HB.out | apply below_alloc | apply pw_below_drewN | apply below_drew1 | refine below_set ?_ GE398.out | refine below_set ?_ GE399.out) | exact HB.out)⟩⟩
      ·rw [if_neg c13] at H
       have c13b0 : decide (2 < a1_0) = false := decide_eq_false c13
       clear c13
       have H' := Aside0.mk H
       clear H
       have hnb20 := NB398_399.out
       have hnc20 := NB399_398.out
       have hcz21_0 : w6.cell? ⟨gb398, 0, none⟩ = some (.int .i64 a1_0) := (blk_cell BK398.out 0).trans rfl
       have hcz21_1 : w6.cell? ⟨gb398, 1, none⟩ = some (.slice A1_1 l1_1.length c1_1) := (blk_cell BK398.out 1).trans rfl
       have hfz21_0 := blk_frozen BK398.out 0
       have hfz21_1 := blk_frozen BK398.out 1
       go_wp2_with (first | (go_at_call 41; (with_reducible refine (impl_isOp.calls k a1_0 _ _ l1_1 a0 true _ ?side1 ?side2 A9.out).mono ?_); (case side1 => repeat (first | exact (Kd.C_below HR1_1.out HB.out) | (with_reducible refine Kd.C_alloc ?_ _) | (with_reducible refine Kd.C_drewN ?_ _) | (with_reducible refine Kd.C_drew ?_))); (case side2 => exact HC1_1.out); rintro e w22 ⟨rfl, hb⟩; have n0_ := Aside0.mk (blk_below (g := gb398) (o := .cells #[.int .i64 a1_0, .slice A1_1 l1_1.length c1_1] 41 (0, 0)) (by (with_reducible repeat (first | refine blk_drewN ?_ _ | refine blk_drew ?_ | refine blk_alloc ?_ _)); exact BK398.out) hb); have n1_ := Aside0.mk (blk_below (g := gb399) (o := .cells #[.int .i64 a2_0, .slice A2_1 l2_1.length c2_1] 41 (0, 0)) (by (with_reducible repeat (first | refine blk_drewN ?_ _ | refine blk_drew ?_ | refine blk_alloc ?_ _)); exact BK399.out) hb); have n2_ := Aside0.mk (below_step (by repeat (first | (with_reducible first | exact HB.out | apply below_alloc | apply pw_below_drewN | apply below_drew1 | refine below_set ?_ GE398.out | refine below_set ?_ GE399.out) | exact HB.out)) hb); clear BK398; clear BK399; clear HB; have BK398 := n0_; have BK399 := n1_; have HB := n2_; clear n0_ n1_ n2_; (try clear hb); (try clear hb2); (try clear hk); (try clear hi); have hcz23_0 : w22.cell? ⟨gb399, 0, none⟩ = some (.int .i64 a2_0) := (blk_cell BK399.out 0).trans rfl; have hcz23_1 : w22.cell? ⟨gb399, 1, none⟩ = some (.slice A2_1 l2_1.length c2_1) := (blk_cell BK399.out 1).trans rfl; have hfz23_0 := blk_frozen BK399.out 0; have hfz23_1 := blk_frozen BK399.out 1) | (go_at_call 41; (with_reducible refine (impl_isOp.calls k a2_0 _ _ l2_1 a0 true _ ?side1 ?side2 A11.out).mono ?_); (case side1 => repeat (first | exact (Kd.C_below HR2_1.out HB.out) | (with_reducible refine Kd.C_alloc ?_ _) | (with_reducible refine Kd.C_drewN ?_ _) | (with_reducible refine Kd.C_drew ?_))); (case side2 => exact HC2_1.out); rintro e w24 ⟨rfl, hb⟩; have n0_ := Aside0.mk (blk_below (g := gb398) (o := .cells #[.int .i64 a1_0, .slice A1_1 l1_1.length c1_1] 41 (0, 0)) (by (with_reducible repeat (first | refine blk_drewN ?_ _ | refine blk_drew ?_ | refine blk_alloc ?_ _)); exact BK398.out) hb); have n1_ := Aside0.mk (blk_below (g := gb399) (o := .cells #[.int .i64 a2_0, .slice A2_1 l2_1.length c2_1] 41 (0, 0)) (by (with_reducible repeat (first | refine blk_drewN ?_ _ | refine blk_drew ?_ | refine blk_alloc ?_ _)); exact BK399.out) hb); have n2_ := Aside0.mk (below_step (by repeat (first | (with_reducible first | exact HB.out | apply below_alloc | apply pw_below_drewN | apply below_drew1 | refine below_set ?_ GE398.out | refine below_set ?_ GE399.out) | exact HB.out)) hb); clear BK398; clear BK399; clear HB; have BK398 := n0_; have BK399 := n1_; have HB := n2_; clear n0_ n1_ n2_; (try clear hb); (try clear hb2); (try clear hk); (try clear hi); have hcz25_0 : w24.cell? ⟨gb398, 0, none⟩ = some (.int .i64 a1_0) := (blk_cell BK398.out 0).trans rfl; have hcz25_1 : w24.cell? ⟨gb398, 1, none⟩ = some (.slice A1_1 l1_1.length c1_1) := (blk_cell BK398.out 1).trans rfl; have hfz25_0 := blk_frozen BK398.out 0; have hfz25_1 := blk_frozen BK398.out 1; have hcz26_0 : w24.cell? ⟨gb399, 0, none⟩ = some (.int .i64 a2_0) := (blk_cell BK399.out 0).trans rfl; have hcz26_1 : w24.cell? ⟨gb399, 1, none⟩ = some (.slice A2_1 l2_1.length c2_1) := (blk_cell BK399.out 1).trans rfl; have hfz26_0 := blk_frozen BK399.out 0; have hfz26_1 := blk_frozen BK399.out 1))
       repeat (go_quiet (first | (go_at_call 41; (with_reducible refine (impl_isOp.calls k a1_0 _ _ l1_1 a0 true _ ?side1 ?side2 A9.out).mono ?_); (case side1 => repeat (first | exact (Kd.C_below HR1_1.out HB.out) | (with_reducible refine Kd.C_alloc ?_ _) | (with_reducible refine Kd.C_drewN ?_ _) | (with_reducible refine Kd.C_drew ?_))); (case side2 => exact HC1_1.out); rintro e w22 ⟨rfl, hb⟩; have n0_ := Aside0.mk (blk_below (g := gb398) (o := .cells #[.int .i64 a1_0, .slice A1_1 l1_1.length c1_1] 41 (0, 0)) (by (with_reducible repeat (first | refine blk_drewN ?_ _ | refine blk_drew ?_ | refine blk_alloc ?_ _)); exact BK398.out) hb); have n1_ := Aside0.mk (blk_below (g := gb399) (o := .cells #[.int .i64 a2_0, .slice A2_1 l2_1.length c2_1] 41 (0, 0)) (by (with_reducible repeat (first | refine blk_drewN ?_ _ | refine blk_drew ?_ | refine blk_alloc ?_ _)); exact BK399.out) hb); have n2_ := Aside0.mk (below_step (by repeat (first | (with_reducible first | exact HB.out | apply below_alloc | apply pw_below_drewN | apply below_drew1 | refine below_set ?_ GE398.out | refine below_set ?_ GE399.out) | exact HB.out)) hb); clear BK398; clear BK399; clear HB; have BK398 := n0_; have BK399 := n1_; have HB := n2_; clear n0_ n1_ n2_; (try clear hb); (try clear hb2); (try clear hk); (try clear hi); have hcz23_0 : w22.cell? ⟨gb399, 0, none⟩ = some (.int .i64 a2_0) := (blk_cell BK399.out 0).trans rfl; have hcz23_1 : w22.cell? ⟨gb399, 1, none⟩ = some (.slice A2_1 l2_1.length c2_1) := (blk_cell BK399.out 1).trans rfl; have hfz23_0 := blk_frozen BK399.out 0; have hfz23_1 := blk_frozen BK399.out 1) | (go_at_call 41; (with_reducible refine (impl_isOp.calls k a2_0 _ _ l2_1 a0 true _ ?side1 ?side2 A11.out).mono ?_); (case side1 => repeat (first | exact (Kd.C_below HR2_1.out HB.out) | (with_reducible refine Kd.C_alloc ?_ _) | (with_reducible refine Kd.C_drewN ?_ _) | (with_reducible refine Kd.C_drew ?_))); (case side2 => exact HC2_1.out); rintro e w24 ⟨rfl, hb⟩; have n0_ := Aside0.mk (blk_below (g := gb398) (o := .cells #[.int .i64 a1_0, .slice A1_1 l1_1.length c1_1] 41 (0, 0)) (by (with_reducible repeat (first | refine blk_drewN ?_ _ | refine blk_drew ?_ | refine blk_alloc ?_ _)); exact BK398.out) hb); have n1_ := Aside0.mk (blk_below (g := gb399) (o := .cells #[.int .i64 a2_0, .slice A2_1 l2_1.length c2_1] 41 (0, 0)) (by (with_reducible repeat (first | refine blk_drewN ?_ _ | refine blk_drew ?_ | refine blk_alloc ?_ _)); exact BK399.out) hb); have n2_ := Aside0.mk (below_step (by repeat (first | (with_reducible first | exact HB.out | apply below_alloc | apply pw_below_drewN | apply below_drew1 | refine below_set ?_ GE398.out | refine below_set ?_ GE399.out) | exact HB.out)) hb); clear BK398; clear BK399; clear HB; have BK398 := n0_; have BK399 := n1_; have HB := n2_; clear n0_ n1_ n2_; (try clear hb); (try clear hb2); (try clear hk); (try clear hi); have hcz25_0 : w24.cell? ⟨gb398, 0, none⟩ = some (.int .i64 a1_0) := (blk_cell BK398.out 0).trans rfl; have hcz25_1 : w24.cell? ⟨gb398, 1, none⟩ = some (.slice A1_1 l1_1.length c1_1) := (blk_cell BK398.out 1).trans rfl; have hfz25_0 := blk_frozen BK398.out 0; have hfz25_1 := blk_frozen BK398.out 1; have hcz26_0 : w24.cell? ⟨gb399, 0, none⟩ = some (.int .i64 a2_0) := (blk_cell BK399.out 0).trans rfl; have hcz26_1 : w24.cell? ⟨gb399, 1, none⟩ = some (.slice A2_1 l2_1.length c2_1) := (blk_cell BK399.out 1).trans rfl; have hfz26_0 := blk_frozen BK399.out 0; have hfz26_1 := blk_frozen BK399.out 1)); try go_wp2_with (first | (go_at_call 41; (with_reducible refine (impl_isOp.calls k a1_0 _ _ l1_1 a0 true _ ?side1 ?side2 A9.out).mono ?_); (case side1 => repeat (first | exact (Kd.C_below HR1_1.out HB.out) | (with_reducible refine Kd.C_alloc ?_ _) | (with_reducible refine Kd.C_drewN ?_ _) | (with_reducible refine Kd.C_drew ?_))); (case side2 => exact HC1_1.out); rintro e w22 ⟨rfl, hb⟩; have n0_ := Aside0.mk (blk_below (g := gb398) (o := .cells #[.int .i64 a1_0, .slice A1_1 l1_1.length c1_1] 41 (0, 0)) (by (with_reducible repeat (first | refine blk_drewN ?_ _ | refine blk_drew ?_ | refine blk_alloc ?_ _)); exact BK398.out) hb); have n1_ := Aside0.mk (blk_below (g := gb399) (o := .cells #[.int .i64 a2_0, .slice A2_1 l2_1.length c2_1] 41 (0, 0)) (by (with_reducible repeat (first | refine blk_drewN ?_ _ | refine blk_drew ?_ | refine blk_alloc ?_ _)); exact BK399.out) hb); have n2_ := Aside0.mk (below_step (by repeat (first | (with_reducible first | exact HB.out | apply below_alloc | apply pw_below_drewN | apply below_drew1 | refine below_set ?_ GE398.out | refine below_set ?_ GE399.out) | exact HB.out)) hb); clear BK398; clear BK399; clear HB; have BK398 := n0_; have BK399 := n1_; have HB := n2_; clear n0_ n1_ n2_; (try clear hb); (try clear hb2); (try clear hk); (try clear hi); have hcz23_0 : w22.cell? ⟨gb399, 0, none⟩ = some (.int .i64 a2_0) := (blk_cell BK399.out 0).trans rfl; have hcz23_1 : w22.cell? ⟨gb399, 1, none⟩ = some (.slice A2_1 l2_1.length c2_1) := (blk_cell BK399.out 1).trans rfl; have hfz23_0 := blk_frozen BK399.out 0; have hfz23_1 := blk_frozen BK399.out 1) | (go_at_call 41; (with_reducible refine (impl_isOp.calls k a2_0 _ _ l2_1 a0 true _ ?side1 ?side2 A11.out).mono ?_); (case side1 => repeat (first | exact (Kd.C_below HR2_1.out HB.out) | (with_reducible refine Kd.C_alloc ?_ _) | (with_reducible refine Kd.C_drewN ?_ _) | (with_reducible refine Kd.C_drew ?_))); (case side2 => exact HC2_1.out); rintro e w24 ⟨rfl, hb⟩; have n0_ := Aside0.mk (blk_below (g := gb398) (o := .cells #[.int .i64 a1_0, .slice A1_1 l1_1.length c1_1] 41 (0, 0)) (by (with_reducible repeat (first | refine blk_drewN ?_ _ | refine blk_drew ?_ | refine blk_alloc ?_ _)); exact BK398.out) hb); have n1_ := Aside0.mk (blk_below (g := gb399) (o := .cells #[.int .i64 a2_0, .slice A2_1 l2_1.length c2_1] 41 (0, 0)) (by (with_reducible repeat (first | refine blk_drewN ?_ _ | refine blk_drew ?_ | refine blk_alloc ?_ _)); exact BK399.out) hb); have n2_ := Aside0.mk (below_step (by repeat (first | (with_reducible first | exact HB.out | apply below_alloc | apply pw_below_drewN | apply below_drew1 | refine below_set ?_ GE398.out | refine below_set ?_ GE399.out) | exact HB.out)) hb); clear BK398; clear BK399; clear HB; have BK398 := n0_; have BK399 := n1_; have HB := n2_; clear n0_ n1_ n2_; (try clear hb); (try clear hb2); (try clear hk); (try clear hi); have hcz25_0 : w24.cell? ⟨gb398, 0, none⟩ = some (.int .i64 a1_0) := (blk_cell BK398.out 0).trans rfl; have hcz25_1 : w24.cell? ⟨gb398, 1, none⟩ = some (.slice A1_1 l1_1.length c1_1) := (blk_cell BK398.out 1).trans rfl; have hfz25_0 := blk_frozen BK398.out 0; have hfz25_1 := blk_frozen BK398.out 1; have hcz26_0 : w24.cell? ⟨gb399, 0, none⟩ = some (.int .i64 a2_0) := (blk_cell BK399.out 0).trans rfl; have hcz26_1 : w24.cell? ⟨gb399, 1, none⟩ = some (.slice A2_1 l2_1.length c2_1) := (blk_cell BK399.out 1).trans rfl; have hfz26_0 := blk_frozen BK399.out 0; have hfz26_1 := blk_frozen BK399.out 1)))
       go_meet
       case rel => exact ⟨_, (decide (a2_0 > 2)), (by first | rfl | (simp; done) | (simp [*]; done)), H', ⟨by first | omega | exact Nat.le_refl _⟩, ⟨by (with_reducible repeat (first | refine blk_drewN ?_ _ | refine blk_drew ?_ | refine blk_alloc ?_ _)); exact BK398.out⟩, ⟨by (with_reducible repeat (first | refine blk_drewN ?_ _ | refine blk_drew ?_ | refine blk_alloc ?_ _)); exact BK399.out⟩, ⟨by repeat (first | (with_reducible first | exact HB.out | apply below_alloc | apply pw_below_drewN | apply below_drew1 | refine below_set ?_ GE398.out | refine below_set ?_ GE399.out) | exact HB.out)⟩⟩
     ·replace c12 := Bool.eq_false_iff.mpr c12
      subst c12
      have H1 : (impl_DoCommute.j0 k a0 true a1_0 l1_1 a2_0 l2_1) = some (r1, r2) := by rw [if_neg (show ¬ (false = true) by decide)] at H; exact H
      clear H
      have H := H1
      clear H1
      have H' := Aside0.mk H
      clear H
      have hnb27 := NB398_399.out
      have hnc27 := NB399_398.out
      have hcz28_0 : w6.cell? ⟨gb398, 0, none⟩ = some (.int .i64 a1_0) := (blk_cell BK398.out 0).trans rfl
      have hcz28_1 : w6.cell? ⟨gb398, 1, none⟩ = some (.slice A1_1 l1_1.length c1_1) := (blk_cell BK398.out 1).trans rfl
      have hfz28_0 := blk_frozen BK398.out 0
      have hfz28_1 := blk_frozen BK398.out 1
      go_wp2_with (first | (go_at_call 41; (with_reducible refine (impl_isOp.calls k a1_0 _ _ l1_1 a0 true _ ?side1 ?side2 A9.out).mono ?_); (case side1 => repeat (first | exact (Kd.C_below HR1_1.out HB.out) | (with_reducible refine Kd.C_alloc ?_ _) | (with_reducible refine Kd.C_drewN ?_ _) | (with_reducible refine Kd.C_drew ?_))); (case side2 => exact HC1_1.out); rintro e w29 ⟨rfl, hb⟩; have n0_ := Aside0.mk (blk_below (g := gb398) (o := .cells #[.int .i64 a1_0, .slice A1_1 l1_1.length c1_1] 41 (0, 0)) (by (with_reducible repeat (first | refine blk_drewN ?_ _ | refine blk_drew ?_ | refine blk_alloc ?_ _)); exact BK398.out) hb); have n1_ := Aside0.mk (blk_below (g := gb399) (o := .cells #[.int .i64 a2_0, .slice A2_1 l2_1.length c2_1] 41 (0, 0)) (by (with_reducible repeat (first | refine blk_drewN ?_ _ | refine blk_drew ?_ | refine blk_alloc ?_ _)); exact BK399.out) hb); have n2_ := Aside0.mk (below_step (by repeat (first | (with_reducible first | exact HB.out | apply below_alloc | apply pw_below_drewN | apply below_drew1 | refine below_set ?_ GE398.out | refine below_set ?_ GE399.out) | exact HB.out)) hb); clear BK398; clear BK399; clear HB; have BK398 := n0_; have BK399 := n1_; have HB := n2_; clear n0_ n1_ n2_; (try clear hb); (try clear hb2); (try clear hk); (try clear hi); have hcz30_0 : w29.cell? ⟨gb399, 0, none⟩ = some (.int .i64 a2_0) := (blk_cell BK399.out 0).trans rfl; have hcz30_1 : w29.cell? ⟨gb399, 1, none⟩ = some (.slice A2_1 l2_1.length c2_1) := (blk_cell BK399.out 1).trans rfl; have hfz30_0 := blk_frozen BK399.out 0; have hfz30_1 := blk_frozen BK399.out 1) | (go_at_call 41; (with_reducible refine (impl_isOp.calls k a2_0 _ _ l2_1 a0 false _ ?side1 ?side2 A11.out).mono ?_); (case side1 => repeat (first | exact (Kd.C_below HR2_1.out HB.out) | (with_reducible refine Kd.C_alloc ?_ _) | (with_reducible refine Kd.C_drewN ?_ _) | (with_reducible refine Kd.C_drew ?_))); (case side2 => exact HC2_1.out); rintro e w31 ⟨rfl, hb⟩; have n0_ := Aside0.mk (blk_below (g := gb398) (o := .cells #[.int .i64 a1_0, .slice A1_1 l1_1.length c1_1] 41 (0, 0)) (by (with_reducible repeat (first | refine blk_drewN ?_ _ | refine blk_drew ?_ | refine blk_alloc ?_ _)); exact BK398.out) hb); have n1_ := Aside0.mk (blk_below (g := gb399) (o := .cells #[.int .i64 a2_0, .slice A2_1 l2_1.length c2_1] 41 (0, 0)) (by (with_reducible repeat (first | refine blk_drewN ?_ _ | refine blk_drew ?_ | refine blk_alloc ?_ _)); exact BK399.out) hb); have n2_ := Aside0.mk (below_step (by repeat (first | (with_reducible first | exact HB.out | apply below_alloc | apply pw_below_drewN | apply below_drew1 | refine below_set ?_ GE398.out | refine below_set ?_ GE399.out) | exact HB.out)) hb); clear BK398; clear BK399; clear HB; have BK398 := n0_; have BK399 := n1_; have HB := n2_; clear n0_ n1_ n2_; (try clear hb); (try clear hb2); (try clear hk); (try clear hi)))
      repeat (go_quiet (first | (go_at_call 41; (with_reducible refine (impl_isOp.calls k a1_0 _ _ l1_1 a0 true _ ?side1 ?side2 A9.out).mono ?_); (case side1 => repeat (first | exact (Kd.C_below HR1_1.out HB.out) | (with_reducible refine Kd.C_alloc ?_ _) | (with_reducible refine Kd.C_drewN ?_ _) | (with_reducible refine Kd.C_drew ?_))); (case side2 => exact HC1_1.out); rintro e w29 ⟨rfl, hb⟩; have n0_ := Aside0.mk (blk_below (g := gb398) (o := .cells #[.int .i64 a1_0, .slice A1_1 l1_1.length c1_1] 41 (0, 0)) (by (with_reducible repeat (first | refine blk_drewN ?_ _ | refine blk_drew ?_ | refine blk_alloc ?_ _)); exact BK398.out) hb); have n1_ := Aside0.mk (blk_below (g := gb399) (o := .cells #[.int .i64 a2_0, .slice A2_1 l2_1.length c2_1] 41 (0, 0)) (by (with_reducible repeat (first | refine blk_drewN ?_ _ | refine blk_drew ?_ | refine blk_alloc ?_ _)); exact BK399.out) hb); have n2_ := Aside0.mk (below_step (by repeat (first | (with_reducible first | exact HB.out | apply below_alloc | apply pw_below_drewN | apply below_drew1 | refine below_set ?_ GE398.out | refine below_set ?_ GE399.out) | exact HB.out)) hb); clear BK398; clear BK399; clear HB; have BK398 := n0_; have BK399 := n1_; have HB := n2_; clear n0_ n1_ n2_; (try clear hb); (try clear hb2); (try clear hk); (try clear hi); have hcz30_0 : w29.cell? ⟨gb399, 0, none⟩ = some (.int .i64 a2_0) := (blk_cell BK399.out 0).trans rfl; have hcz30_1 : w29.cell? ⟨gb399, 1, none⟩ = some (.slice A2_1 l2_1.length c2_1) := (blk_cell BK399.out 1).trans rfl; have hfz30_0 := blk_frozen BK399.out 0; have hfz30_1 := blk_frozen BK399.out 1) | (go_at_call 41; (with_reducible refine (impl_isOp.calls k a2_0 _ _ l2_1 a0 false _ ?side1 ?side2 A11.out).mono ?_); (case side1 => repeat (first | exact (Kd.C_below HR2_1.out HB.out) | (with_reducible refine Kd.C_alloc ?_ _) | (with_reducible refine Kd.C_drewN ?_ _) | (with_reducible refine Kd.C_drew ?_))); (case side2 => exact HC2_1.out); rintro e w31 ⟨rfl, hb⟩; have n0_ := Aside0.mk (blk_below (g := gb398) (o := .cells #[.int .i64 a1_0, .slice A1_1 l1_1.length c1_1] 41 (0, 0)) (by (with_reducible repeat (first | refine blk_drewN ?_ _ | refine blk_drew ?_ | refine blk_alloc ?_ _)); exact BK398.out) hb); have n1_ := Aside0.mk (blk_below (g := gb399) (o := .cells #[.int .i64 a2_0, .slice A2_1 l2_1.length c2_1] 41 (0, 0)) (by (with_reducible repeat (first | refine blk_drewN ?_ _ | refine blk_drew ?_ | refine blk_alloc ?_ _)); exact BK399.out) hb); have n2_ := Aside0.mk (below_step (by repeat (first | (with_reducible first | exact HB.out | apply below_alloc | apply pw_below_drewN | apply below_drew1 | refine below_set ?_ GE398.out | refine below_set ?_ GE399.out) | exact HB.out)) hb); clear BK398; clear BK399; clear HB; have BK398 := n0_; have BK399 := n1_; have HB := n2_; clear n0_ n1_ n2_; (try clear hb); (try clear hb2); (try clear hk); (try clear hi))); try go_wp2_with (first | (go_at_call 41; (with_reducible refine (impl_isOp.calls k a1_0 _ _ l1_1 a0 true _ ?side1 ?side2 A9.out).mono ?_); (case side1 => repeat (first | exact (Kd.C_below HR1_1.out HB.out) | (with_reducible refine Kd.C_alloc ?_ _) | (with_reducible refine Kd.C_drewN ?_ _) | (with_reducible refine Kd.C_drew ?_))); (case side2 => exact HC1_1.out); rintro e w29 ⟨rfl, hb⟩; have n0_ := Aside0.mk (blk_below (g := gb398) (o := .cells #[.int .i64 a1_0, .slice A1_1 l1_1.length c1_1] 41 (0, 0)) (by (with_reducible repeat (first | refine blk_drewN ?_ _ | refine blk_drew ?_ | refine blk_alloc ?_ _)); exact BK398.out) hb); have n1_ := Aside0.mk (blk_below (g := gb399) (o := .cells #[.int .i64 a2_0, .slice A2_1 l2_1.length c2_1] 41 (0, 0)) (by (with_reducible repeat (first | refine blk_drewN ?_ _ | refine blk_drew ?_ | refine blk_alloc ?_ _)); exact BK399.out) hb); have n2_ := Aside0.mk (below_step (by repeat (first | (with_reducible first | exact HB.out | apply below_alloc | apply pw_below_drewN | apply below_drew1 | refine below_set ?_ GE398.out | refine below_set ?_ GE399.out) | exact HB.out)) hb); clear BK398; clear BK399; clear HB; have BK398 := n0_; have BK399 := n1_; have HB := n2_; clear n0_ n1_ n2_; (try clear hb); (try clear hb2); (try clear hk); (try clear hi); have hcz30_0 : w29.cell? ⟨gb399, 0, none⟩ = some (.int .i64 a2_0) := (blk_cell BK399.out 0).trans rfl; have hcz30_1 : w29.cell? ⟨gb399, 1, none⟩ = some (.slice A2_1 l2_1.length c2_1) := (blk_cell BK399.out 1).trans rfl; have hfz30_0 := blk_frozen BK399.out 0; have hfz30_1 := blk_frozen BK399.out 1) | (go_at_call 41; (with_reducible refine (impl_isOp.calls k a2_0 _ _ l2_1 a0 false _ ?side1 ?side2 A11.out).mono ?_); (case side1 => repeat (first | exact (Kd.C_below HR2_1.out HB.out) | (with_reducible refine Kd.C_alloc ?_ _) | (with_reducible refine Kd.C_drewN ?_ _) | (with_reducible refine Kd.C_drew ?_))); (case side2 => exact HC2_1.out); rintro e w31 ⟨rfl, hb⟩; have n0_ := Aside0.mk (blk_below (g := gb398) (o := .cells #[.int .i64 a1_0, .slice A1_1 l1_1.length c1_1] 41 (0, 0)) (by (with_reducible repeat (first | refine blk_drewN ?_ _ | refine blk_drew ?_ | refine blk_alloc ?_ _)); exact BK398.out) hb); have n1_ := Aside0.mk (blk_below (g := gb399) (o := .cells #[.int .i64 a2_0, .slice A2_1 l2_1.length c2_1] 41 (0, 0)) (by (with_reducible repeat (first | refine blk_drewN ?_ _ | refine blk_drew ?_ | refine blk_alloc ?_ _)); exact BK399.out) hb); have n2_ := Aside0.mk (below_step (by repeat (first | (with_reducible first | exact HB.out | apply below_alloc | apply pw_below_drewN | apply below_drew1 | refine below_set ?_ GE398.out | refine below_set ?_ GE399.out) | exact HB.out)) hb); clear BK398; clear BK399; clear HB; have BK398 := n0_; have BK399 := n1_; have HB := n2_; clear n0_ n1_ n2_; (try clear hb); (try clear hb2); (try clear hk); (try clear hi))))
      go_meet
      case rel => exact ⟨_, (true), (by first | rfl | (simp; done) | (simp [*]; done)), H', ⟨by first | omega | exact Nat.le_refl _⟩, ⟨by (with_reducible repeat (first | refine blk_drewN ?_ _ | refine blk_drew ?_ | refine blk_alloc ?_ _)); exact BK398.out⟩, ⟨by (with_reducible repeat (first | refine blk_drewN ?_ _ | refine blk_drew ?_ | refine blk_alloc ?_ _)); exact BK399.out⟩, ⟨by repeat (first | (with_reducible first | exact HB.out | apply below_alloc | apply pw_below_drewN | apply below_drew1 | refine below_set ?_ GE398.out | refine below_set ?_ GE399.out) | exact HB.out)⟩⟩
    ·replace c10 := Bool.eq_false_iff.mpr c10
     subst c10
     have H1 : (impl_DoCommute.j0 k a0 true a1_0 l1_1 a2_0 l2_1) = some (r1, r2) := by rw [if_neg (show ¬ (false = true) by decide)] at H; exact H
     clear H
     have H := H1
     clear H1
     have H' := Aside0.mk H
     clear H
     have hnb32 := NB398_399.out
     have hnc32 := NB399_398.out
     have hcz33_0 : w6.cell? ⟨gb398, 0, none⟩ = some (.int .i64 a1_0) := (blk_cell BK398.out 0).trans rfl
     have hcz33_1 : w6.cell? ⟨gb398, 1, none⟩ = some (.slice A1_1 l1_1.length c1_1) := (blk_cell BK398.out 1).trans rfl
     have hfz33_0 := blk_frozen BK398.out 0
     have hfz33_1 := blk_frozen BK398.out 1
     go_wp2_with (first | (go_at_call 41; (with_reducible refine (impl_isOp.calls k a1_0 _ _ l1_1 a0 false _ ?side1 ?side2 A9.out).mono ?_); (case side1 => repeat (first | exact (Kd.C_below HR1_1.out HB.out) | (with_reducible refine Kd.C_alloc ?_ _) | (with_reducible refine Kd.C_drewN ?_ _) | (with_reducible refine Kd.C_drew ?_))); (case side2 => exact HC1_1.out); rintro e w34 ⟨rfl, hb⟩; have n0_ := Aside0.mk (blk_below (g := gb398) (o := .cells #[.int .i64 a1_0, .slice A1_1 l1_1.length c1_1] 41 (0, 0)) (by (with_reducible repeat (first | refine blk_drewN ?_ _ | refine blk_drew ?_ | refine blk_alloc ?_ _)); exact BK398.out) hb); have n1_ := Aside0.mk (blk_below (g := gb399) (o := .cells #[.int .i64 a2_0, .slice A2_1 l2_1.length c2_1] 41 (0, 0)) (by (with_reducible repeat (first | refine blk_drewN ?_ _ | refine blk_drew ?_ | refine blk_alloc ?_ _)); exact BK399.out) hb); have n2_ := Aside0.mk (below_step (by repeat (first | (with_reducible first | exact HB.out | apply below_alloc | apply pw_below_drewN | apply below_drew1 | refine below_set ?_ GE398.out | refine below_set ?_ GE399.out) | exact HB.out)) hb); clear BK398; clear BK399; clear HB; have BK398 := n0_; have BK399 := n1_; have HB := n2_; clear n0_ n1_ n2_; (try clear hb); (try clear hb2); (try clear hk); (try clear hi)))
     repeat (go_quiet (first | (go_at_call 41; (with_reducible refine (impl_isOp.calls k a1_0 _ _ l1_1 a0 false _ ?side1 ?side2 A9.out).mono ?_); (case side1 => repeat (first | exact (Kd.C_below HR1_1.out HB.out) | (with_reducible refine Kd.C_alloc ?_ _) | (with_reducible refine Kd.C_drewN ?_ _) | (with_reducible refine Kd.C_drew ?_))); (case side2 => exact HC1_1.out); rintro e w34 ⟨rfl, hb⟩; have n0_ := Aside0.mk (blk_below (g := gb398) (o := .cells #[.int .i64 a1_0, .slice A1_1 l1_1.length c1_1] 41 (0, 0)) (by (with_reducible repeat (first | refine blk_drewN ?_ _ | refine blk_drew ?_ | refine blk_alloc ?_ _)); exact BK398.out) hb); have n1_ := Aside0.mk (blk_below (g := gb399) (o := .cells #[.int .i64 a2_0, .slice A2_1 l2_1.length c2_1] 41 (0, 0)) (by (with_reducible repeat (first | refine blk_drewN ?_ _ | refine blk_drew ?_ | refine blk_alloc ?_ _)); exact BK399.out) hb); have n2_ := Aside0.mk (below_step (by repeat (first | (with_reducible first | exact HB.out | apply below_alloc | apply pw_below_drewN | apply below_drew1 | refine below_set ?_ GE398.out | refine below_set ?_ GE399.out) | exact HB.out)) hb); clear BK398; clear BK399; clear HB; have BK398 := n0_; have BK399 := n1_; have HB := n2_; clear n0_ n1_ n2_; (try clear hb); (try clear hb2); (try clear hk); (try clear hi))); try go_wp2_with (first | (go_at_call 41; (with_reducible refine (impl_isOp.calls k a1_0 _ _ l1_1 a0 false _ ?side1 ?side2 A9.out).mono ?_); (case side1 => repeat (first | exact (Kd.C_below HR1_1.out HB.out) | (with_reducible refine Kd.C_alloc ?_ _) | (with_reducible refine Kd.C_drewN ?_ _) | (with_reducible refine Kd.C_drew ?_))); (case side2 => exact HC1_1.out); rintro e w34 ⟨rfl, hb⟩; have n0_ := Aside0.mk (blk_below (g := gb398) (o := .cells #[.int .i64 a1_0, .slice A1_1 l1_1.length c1_1] 41 (0, 0)) (by (with_reducible repeat (first | refine blk_drewN ?_ _ | refine blk_drew ?_ | refine blk_alloc ?_ _)); exact BK398.out) hb); have n1_ := Aside0.mk (blk_below (g := gb399) (o := .cells #[.int .i64 a2_0, .slice A2_1 l2_1.length c2_1] 41 (0, 0)) (by (with_reducible repeat (first | refine blk_drewN ?_ _ | refine blk_drew ?_ | refine blk_alloc ?_ _)); exact BK399.out) hb); have n2_ := Aside0.mk (below_step (by repeat (first | (with_reducible first | exact HB.out | apply below_alloc | apply pw_below_drewN | apply below_drew1 | refine below_set ?_ GE398.out | refine below_set ?_ GE399.out) | exact HB.out)) hb); clear BK398; clear BK399; clear HB; have BK398 := n0_; have BK399 := n1_; have HB := n2_; clear n0_ n1_ n2_; (try clear hb); (try clear hb2); (try clear hk); (try clear hi))))
     go_meet
     case rel => exact ⟨_, (true), (by first | rfl | (simp; done) | (simp [*]; done)), H', ⟨by first | omega | exact Nat.le_refl _⟩, ⟨by (with_reducible repeat (first | refine blk_drewN ?_ _ | refine blk_drew ?_ | refine blk_alloc ?_ _)); exact BK398.out⟩, ⟨by (with_reducible repeat (first | refine blk_drewN ?_ _ | refine blk_drew ?_ | refine blk_alloc ?_ _)); exact BK399.out⟩, ⟨by repeat (first | (with_reducible first | exact HB.out | apply below_alloc | apply pw_below_drewN | apply below_drew1 | refine below_set ?_ GE398.out | refine below_set ?_ GE399.out) | exact HB.out)⟩⟩
 case rest =>
  clear HC4
  try clear c1
  try clear c2
  try clear p2
  try clear c3
  try clear c7
  try clear c7b0
  try clear c8
  try clear c8b0
  try clear c10
  try clear c12
  try clear c13
  try clear c13b0
  try clear c14
  try clear c17
  try clear c20
  try clear c27
  try clear c32
  try clear hcz15_0
  try clear hcz15_1
  try clear hcz17_0
  try clear hcz17_1
  try clear hcz19_0
  try clear hcz19_1
  try clear hcz21_0
  try clear hcz21_1
  try clear hcz23_0
  try clear hcz23_1
  try clear hcz25_0
  try clear hcz25_1
  try clear hcz26_0
  try clear hcz26_1
  try clear hcz28_0
  try clear hcz28_1
  try clear hcz30_0
  try clear hcz30_1
  try clear hcz33_0
  try clear hcz33_1
  try clear hfz15_0
  try clear hfz15_1
  try clear hfz17_0
  try clear hfz17_1
  try clear hfz19_0
  try clear hfz19_1
  try clear hfz21_0
  try clear hfz21_1
  try clear hfz23_0
  try clear hfz23_1
  try clear hfz25_0
  try clear hfz25_1
  try clear hfz26_0
  try clear hfz26_1
  try clear hfz28_0
  try clear hfz28_1
  try clear hfz30_0
  try clear hfz30_1
  try clear hfz33_0
  try clear hfz33_1
  obtain ⟨kq, x45_3, rfl, HA, HJ3, BK398, BK399, HB⟩ := hcut
  cases kq with
  | zero => exact absurd HA.out (by simp [impl_DoCommute.j0])
  | succ kj3 =>
   have H := HA.out
   clear HA
   simp only [impl_DoCommute.j0] at H
   by_cases c35 : x45_3 = true
   ·subst c35
    have H1 : (some (false, false)) = some (r1, r2) := by rw [if_pos rfl] at H; exact H
    clear H
    have H := H1
    clear H1
    simp only [Option.some.injEq, Prod.mk.injEq] at H
    obtain ⟨rfl, rfl⟩ := H
    go_wp2
    repeat (go_quiet (fail); try go_wp2)
    go_ret2
    exact ⟨by first | rfl | (simp [errW_none, errW_some] <;> rfl) | (simp [*, errW_none, errW_some] <;> rfl), by repeat (first | (with_reducible first | exact HB.out | apply below_alloc | apply pw_below_drewN | apply below_drew1 | refine below_set ?_ GE398.out | refine below_set ?_ GE399.out) | exact HB.out)⟩
   ·replace c35 := Bool.eq_false_iff.mpr c35
    subst c35
    have H1 : (impl_DoCommute.l0 kj3 a0 a1_0 a2_0 0 a1_0 l1_1 a2_0 l2_1) = some (r1, r2) := by rw [if_neg (show ¬ (false = true) by decide)] at H; exact H
    clear H
    have H := H1
    clear H1
    have H' := Aside0.mk H
    clear H
    have hnb36 := NB398_399.out
    have hnc36 := NB399_398.out
    have hcz37_0 : wc.cell? ⟨gb398, 0, none⟩ = some (.int .i64 a1_0) := (blk_cell BK398.out 0).trans rfl
    have hcz37_1 : wc.cell? ⟨gb398, 1, none⟩ = some (.slice A1_1 l1_1.length c1_1) := (blk_cell BK398.out 1).trans rfl
    have hfz37_0 := blk_frozen BK398.out 0
    have hfz37_1 := blk_frozen BK398.out 1
    have hcz38_0 : wc.cell? ⟨gb399, 0, none⟩ = some (.int .i64 a2_0) := (blk_cell BK399.out 0).trans rfl
    have hcz38_1 : wc.cell? ⟨gb399, 1, none⟩ = some (.slice A2_1 l2_1.length c2_1) := (blk_cell BK399.out 1).trans rfl
    have hfz38_0 := blk_frozen BK399.out 0
    have hfz38_1 := blk_frozen BK399.out 1
    go_wp2
    repeat (go_quiet (fail); try go_wp2)
    go_loopg [10] kj3 (fun kq v10 w' => ∃ (x10_2 : Int), v10 = .int .i64 x10_2 ∧ Aside0 (impl_DoCommute.l0 kq a0 a1_0 a2_0 x10_2 a1_0 l1_1 a2_0 l2_1 = some (r1, r2)) ∧ Aside0 (kq ≤ kj3) ∧ Aside0 (w'.heap[gb398]? = some (.cells #[.int .i64 a1_0, (.slice A1_1 l1_1.length c1_1)] 41 (0, 0))) ∧ Aside0 (w'.heap[gb399]? = some (.cells #[.int .i64 a2_0, (.slice A2_1 l2_1.length c2_1)] 41 (0, 0))) ∧ Aside0 (Below w.heap.size w w'))
    case atStart => exact ⟨(0), (by first | rfl | (simp; done) | (simp [*]; done)), H', ⟨Nat.le_refl _⟩, ⟨by (with_reducible repeat (first | refine blk_drewN ?_ _ | refine blk_drew ?_ | refine blk_alloc ?_ _)); exact BK398.out⟩, ⟨by (with_reducible repeat (first | refine blk_drewN ?_ _ | refine blk_drew ?_ | refine blk_alloc ?_ _)); exact BK399.out⟩, ⟨by repeat (first | (with_reducible first | exact HB.out | apply below_alloc | apply pw_below_drewN | apply below_drew1 | refine below_set ?_ GE398.out | refine below_set ?_ GE399.out) | exact HB.out)⟩⟩
    case round =>
     clear H'
     try clear c1
     try clear c2
     try clear p2
     try clear c3
     try clear c7
     try clear c7b0
     try clear c8
     try clear c8b0
     try clear c10
     try clear c12
     try clear c13
     try clear c13b0
     try clear c14
     try clear c17
     try clear c20
     try clear c27
     try clear c32
     try clear c35
     try clear c36
     try clear hcz15_0
     try clear hcz15_1
     try clear hcz17_0
     try clear hcz17_1
     try clear hcz19_0
     try clear hcz19_1
     try clear hcz21_0
     try clear hcz21_1
     try clear hcz23_0
     try clear hcz23_1
     try clear hcz25_0
     try clear hcz25_1
     try clear hcz26_0
     try clear hcz26_1
     try clear hcz28_0
     try clear hcz28_1
     try clear hcz30_0
     try clear hcz30_1
     try clear hcz33_0
     try clear hcz33_1
     try clear hcz37_0
     try clear hcz37_1
     try clear hcz38_0
     try clear hcz38_1
     try clear hfz15_0
     try clear hfz15_1
     try clear hfz17_0
     try clear hfz17_1
     try clear hfz19_0
     try clear hfz19_1
     try clear hfz21_0
     try clear hfz21_1
     try clear hfz23_0
     try clear hfz23_1
     try clear hfz25_0
     try clear hfz25_1
     try clear hfz26_0
     try clear hfz26_1
     try clear hfz28_0
     try clear hfz28_1
     try clear hfz30_0
     try clear hfz30_1
     try clear hfz33_0
     try clear hfz33_1
     try clear hfz37_0
     try clear hfz37_1
     try clear hfz38_0
     try clear hfz38_1
     try clear p2
     obtain ⟨x10_2, rfl, HA, HK2, BK398, BK399, HB⟩ := hrel
     cases gk with
     | zero => exact absurd HA.out (by simp [impl_DoCommute.l0])
     | succ k2 =>
      have H := HA.out
      clear HA
      simp only [impl_DoCommute.l0] at H
      replace H := Option.bind_eq_some_iff.mp H
      obtain ⟨t402, A390, H⟩ := H
      replace H : (if x10_2 < t402 then ((impl_argsAt.f k2 x10_2 (wrap64 (a1_0 * a2_0)) a0).bind fun t403 => (impl_DoCommute.l1 k2 a0 a1_0 a2_0 x10_2 t403 0 0 0 a1_0 l1_1 a2_0 l2_1)) else (some (true, true))) = some (r1, r2) := H
      have A39 := Aside0.mk A390
      clear A390
      by_cases c40 : x10_2 < t402
      ·rw [if_pos c40] at H
       have c40b0 : decide (x10_2 < t402) = true := decide_eq_true c40
       clear c40
       replace H := Option.bind_eq_some_iff.mp H
       obtain ⟨t403, A410, H⟩ := H
       replace H : (impl_DoCommute.l1 k2 a0 a1_0 a2_0 x10_2 t403 0 0 0 a1_0 l1_1 a2_0 l2_1) = some (r1, r2) := H
       have A41 := Aside0.mk A410
       clear A410
       have H' := Aside0.mk H
       clear H
       go_wp2_with (first | (go_at_call 42; (with_reducible refine (impl_power.calls k2 a0 (wrap64 (a1_0 * a2_0)) t402 _ A39.out).mono ?_); rintro e w' ⟨rfl, ⟨nd, rfl⟩⟩; (try first | exact ⟨rfl, _, World.drewN_drewN _ _ _⟩ | exact ⟨rfl, _, Eq.trans (World.drewN_drewN _ _ _) (congrArg (World.drewN _) (Nat.add_assoc _ _ _))⟩)) | (go_at_call 43; (with_reducible refine (impl_argsAt.calls k2 x10_2 (wrap64 (a1_0 * a2_0)) a0 t403 _ A41.out).mono ?_); rintro e w42 ⟨v404, rfl, ho0, hb⟩; have n0_ := Aside0.mk (Kd.R_lower ho0 (below_size (by repeat (first | (with_reducible first | exact HB.out | apply below_alloc | apply pw_below_drewN | apply below_drew1 | refine below_set ?_ GE398.out | refine below_set ?_ GE399.out) | exact HB.out)))); have n1_ := Aside0.mk (blk_below (g := gb398) (o := .cells #[.int .i64 a1_0, .slice A1_1 l1_1.length c1_1] 41 (0, 0)) (by (with_reducible repeat (first | refine blk_drewN ?_ _ | refine blk_drew ?_ | refine blk_alloc ?_ _)); exact BK398.out) hb); have n2_ := Aside0.mk (blk_below (g := gb399) (o := .cells #[.int .i64 a2_0, .slice A2_1 l2_1.length c2_1] 41 (0, 0)) (by (with_reducible repeat (first | refine blk_drewN ?_ _ | refine blk_drew ?_ | refine blk_alloc ?_ _)); exact BK399.out) hb); have n3_ := Aside0.mk (below_step (by repeat (first | (with_reducible first | exact HB.out | apply below_alloc | apply pw_below_drewN | apply below_drew1 | refine below_set ?_ GE398.out | refine below_set ?_ GE399.out) | exact HB.out)) hb); clear BK398; clear BK399; clear HB; have HO405 := n0_; have BK398 := n1_; have BK399 := n2_; have HB := n3_; clear n0_ n1_ n2_ n3_; (try clear hb); (try clear hb2); (try clear hk); (try clear hi); (try clear ho0)))
       repeat (go_quiet (first | (go_at_call 42; (with_reducible refine (impl_power.calls k2 a0 (wrap64 (a1_0 * a2_0)) t402 _ A39.out).mono ?_); rintro e w' ⟨rfl, ⟨nd, rfl⟩⟩; (try first | exact ⟨rfl, _, World.drewN_drewN _ _ _⟩ | exact ⟨rfl, _, Eq.trans (World.drewN_drewN _ _ _) (congrArg (World.drewN _) (Nat.add_assoc _ _ _))⟩)) | (go_at_call 43; (with_reducible refine (impl_argsAt.calls k2 x10_2 (wrap64 (a1_0 * a2_0)) a0 t403 _ A41.out).mono ?_); rintro e w42 ⟨v404, rfl, ho0, hb⟩; have n0_ := Aside0.mk (Kd.R_lower ho0 (below_size (by repeat (first | (with_reducible first | exact HB.out | apply below_alloc | apply pw_below_drewN | apply below_drew1 | refine below_set ?_ GE398.out | refine below_set ?_ GE399.out) | exact HB.out)))); have n1_ := Aside0.mk (blk_below (g := gb398) (o := .cells #[.int .i64 a1_0, .slice A1_1 l1_1.length c1_1] 41 (0, 0)) (by (with_reducible repeat (first | refine blk_drewN ?_ _ | refine blk_drew ?_ | refine blk_alloc ?_ _)); exact BK398.out) hb); have n2_ := Aside0.mk (blk_below (g := gb399) (o := .cells #[.int .i64 a2_0, .slice A2_1 l2_1.length c2_1] 41 (0, 0)) (by (with_reducible repeat (first | refine blk_drewN ?_ _ | refine blk_drew ?_ | refine blk_alloc ?_ _)); exact BK399.out) hb); have n3_ := Aside0.mk (below_step (by repeat (first | (with_reducible first | exact HB.out | apply below_alloc | apply pw_below_drewN | apply below_drew1 | refine below_set ?_ GE398.out | refine below_set ?_ GE399.out) | exact HB.out)) hb); clear BK398; clear BK399; clear HB; have HO405 := n0_; have BK398 := n1_; have BK399 := n2_; have HB := n3_; clear n0_ n1_ n2_ n3_; (try clear hb); (try clear hb2); (try clear hk); (try clear hi); (try clear ho0))); try go_wp2_with (first | (go_at_call 42; (with_reducible refine (impl_power.calls k2 a0 (wrap64 (a1_0 * a2_0)) t402 _ A39.out).mono ?_); rintro e w' ⟨rfl, ⟨nd, rfl⟩⟩; (try first | exact ⟨rfl, _, World.drewN_drewN _ _ _⟩ | exact ⟨rfl, _, Eq.trans (World.drewN_drewN _ _ _) (congrArg (World.drewN _) (Nat.add_assoc _ _ _))⟩)) | (go_at_call 43; (with_reducible refine (impl_argsAt.calls k2 x10_2 (wrap64 (a1_0 * a2_0)) a0 t403 _ A41.out).mono ?_); rintro e w42 ⟨v404, rfl, ho0, hb⟩; have n0_ := Aside0.mk (Kd.R_lower ho0 (below_size (by repeat (first | (with_reducible first | exact HB.out | apply below_alloc | apply pw_below_drewN | apply below_drew1 | refine below_set ?_ GE398.out | refine below_set ?_ GE399.out) | exact HB.out)))); have n1_ := Aside0.mk (blk_below (g := gb398) (o := .cells #[.int .i64 a1_0, .slice A1_1 l1_1.length c1_1] 41 (0, 0)) (by (with_reducible repeat (first | refine blk_drewN ?_ _ | refine blk_drew ?_ | refine blk_alloc ?_ _)); exact BK398.out) hb); have n2_ := Aside0.mk (blk_below (g := gb399) (o := .cells #[.int .i64 a2_0, .slice A2_1 l2_1.length c2_1] 41 (0, 0)) (by (with_reducible repeat (first | refine blk_drewN ?_ _ | refine blk_drew ?_ | refine blk_alloc ?_ _)); exact BK399.out) hb); have n3_ := Aside0.mk (below_step (by repeat (first | (with_reducible first | exact HB.out | apply below_alloc | apply pw_below_drewN | apply below_drew1 | refine below_set ?_ GE398.out | refine below_set ?_ GE399.out) | exact HB.out)) hb); clear BK398; clear BK399; clear HB; have HO405 := n0_; have BK398 := n1_; have BK399 := n2_; have HB := n3_; clear n0_ n1_ n2_ n3_; (try clear hb); (try clear hb2); (try clear hk); (try clear hi); (try clear ho0))))
       go_loopg [12, 14] k2 (fun kq v12 v14 w' => ∃ (x12_3 : Int) (x14_3 : Int), v12 = .int .i64 x12_3 ∧ v14 = .int .i64 x14_3 ∧ Aside0 (impl_DoCommute.l1 kq a0 a1_0 a2_0 x10_2 t403 x12_3 0 x14_3 a1_0 l1_1 a2_0 l2_1 = some (r1, r2)) ∧ Aside0 (kq ≤ k2) ∧ Aside0 (Kd.R (Kd.int .i64) 3 w' w.heap.size (fun _ => True) v404 t403) ∧ Aside0 (w'.heap[gb398]? = some (.cells #[.int .i64 a1_0, (.slice A1_1 l1_1.length c1_1)] 41 (0, 0))) ∧ Aside0 (w'.heap[gb399]? = some (.cells #[.int .i64 a2_0, (.slice A2_1 l2_1.length c2_1)] 41 (0, 0))) ∧ Aside0 (Below w.heap.size w w'))
       case atStart => exact ⟨(0), (0), (by first | rfl | (simp; done) | (simp [*]; done)), (by first | rfl | (simp; done) | (simp [*]; done)), H', ⟨Nat.le_refl _⟩, ⟨by (with_reducible repeat (first | apply Kd.R_alloc | apply Kd.R_drewN | apply Kd.R_drew)); exact HO405.out⟩, ⟨by (with_reducible repeat (first | refine blk_drewN ?_ _ | refine blk_drew ?_ | refine blk_alloc ?_ _)); exact BK398.out⟩, ⟨by (with_reducible repeat (first | refine blk_drewN ?_ _ | refine blk_drew ?_ | refine blk_alloc ?_ _)); exact BK399.out⟩, ⟨by repeat (first | (with_reducible first | exact HB.out | apply below_alloc | apply pw_below_drewN | apply below_drew1 | refine below_set ?_ GE398.out | refine below_set ?_ GE399.out) | exact HB.out)⟩⟩
       case round =>
        clear H'
        try clear c1
        try clear c2
        try clear p2
        try clear c3
        try clear c4
        try clear p6
        try clear c7
        try clear c7b0
        try clear c8
        try clear c8b0
        try clear c10
        try clear c12
        try clear c13
        try clear c13b0
        try clear c14
        try clear c17
        try clear c20
        try clear c27
        try clear c32
        try clear c35
        try clear c36
        try clear c40
        try clear c40b0
        try clear hcz15_0
        try clear hcz15_1
        try clear hcz17_0
        try clear hcz17_1
        try clear hcz19_0
        try clear hcz19_1
        try clear hcz21_0
        try clear hcz21_1
        try clear hcz23_0
        try clear hcz23_1
        try clear hcz25_0
        try clear hcz25_1
        try clear hcz26_0
        try clear hcz26_1
        try clear hcz28_0
        try clear hcz28_1
        try clear hcz30_0
        try clear hcz30_1
        try clear hcz33_0
        try clear hcz33_1
        try clear hcz37_0
        try clear hcz37_1
        try clear hcz38_0
        try clear hcz38_1
        try clear hfz15_0
        try clear hfz15_1
        try clear hfz17_0
        try clear hfz17_1
        try clear hfz19_0
        try clear hfz19_1
        try clear hfz21_0
        try clear hfz21_1
        try clear hfz23_0
        try clear hfz23_1
        try clear hfz25_0
        try clear hfz25_1
        try clear hfz26_0
        try clear hfz26_1
        try clear hfz28_0
        try clear hfz28_1
        try clear hfz30_0
        try clear hfz30_1
        try clear hfz33_0
        try clear hfz33_1
        try clear hfz37_0
        try clear hfz37_1
        try clear hfz38_0
        try clear hfz38_1
        try clear p2
        obtain ⟨x12_3, x14_3, rfl, rfl, HA, HK3, HO_11, BK398, BK399, HB⟩ := hrel
        cases gk with
        | zero => exact absurd HA.out (by simp [impl_DoCommute.l1])
        | succ k3 =>
         have H := HA.out
         clear HA
         simp only [impl_DoCommute.l1] at H
         by_cases c43 : x14_3 < a1_0
         ·rw [if_pos c43] at H
          have c43b0 : decide (x14_3 < a1_0) = true := decide_eq_true c43
          clear c43
          obtain ⟨ji44, hji44⟩ : ∃ j_ : Int, (wrap64 (x14_3 * a2_0)) = j_ := ⟨_, rfl⟩
          replace H : (if 0 ≤ (ji44) then (if (ji44) ≤ (wrap64 ((wrap64 (x14_3 + 1)) * a2_0)) then (if (wrap64 ((wrap64 (x14_3 + 1)) * a2_0)) ≤ (t403.length : Int) then ((impl_indexOf.f k3 ((t403.take ((wrap64 ((wrap64 (x14_3 + 1)) * a2_0)) : Int).toNat).drop ((ji44) : Int).toNat) a0).bind fun t410 => (if 0 ≤ t410 then (if t410 < (l2_1.length : Int) then (impl_DoCommute.l1 k3 a0 a1_0 a2_0 x10_2 t403 (wrap64 ((wrap64 (x12_3 * a0)) + (rd l2_1 t410))) 0 (wrap64 (x14_3 + 1)) a1_0 l1_1 a2_0 l2_1) else (none)) else (none))) else (none)) else (none)) else (none)) = some (r1, r2) := by first | (rw [hji44] at H; exact H) | (simp only [hji44] at H ⊢; exact H)
          have hji44w : (IntKind.i64.wrap (x14_3 * a2_0)) = ji44 := (i64_w _).trans hji44
          obtain ⟨jh44, hjh44⟩ : ∃ j_ : Int, (wrap64 ((wrap64 (x14_3 + 1)) * a2_0)) = j_ := ⟨_, rfl⟩
          replace H : (if 0 ≤ (ji44) then (if (ji44) ≤ (jh44) then (if (jh44) ≤ (t403.length : Int) then ((impl_indexOf.f k3 ((t403.take ((jh44) : Int).toNat).drop ((ji44) : Int).toNat) a0).bind fun t410 => (if 0 ≤ t410 then (if t410 < (l2_1.length : Int) then (impl_DoCommute.l1 k3 a0 a1_0 a2_0 x10_2 t403 (wrap64 ((wrap64 (x12_3 * a0)) + (rd l2_1 t410))) 0 (wrap64 (x14_3 + 1)) a1_0 l1_1 a2_0 l2_1) else (none)) else (none))) else (none)) else (none)) else (none)) = some (r1, r2) := by rw [← hjh44]; exact H
          have hjh44w : (IntKind.i64.wrap ((IntKind.i64.wrap (x14_3 + 1)) * a2_0)) = jh44 := by rw [i64_w (x14_3 + 1)]; exact (i64_w _).trans hjh44
          have hjh44x : (IntKind.i64.wrap ((wrap64 (x14_3 + 1)) * a2_0)) = jh44 := (i64_w _).trans hjh44
          by_cases c45 : 0 ≤ (ji44)
          ·rw [if_pos c45] at H
           have c45b0 := eq_true c45
           have c45b1 : decide (0 ≤ (ji44)) = true := decide_eq_true c45
           clear c45
           by_cases c46 : (ji44) ≤ (jh44)
           ·rw [if_pos c46] at H
            have c46b0 := eq_true c46
            have c46b1 : decide ((ji44) ≤ (jh44)) = true := decide_eq_true c46
            by_cases c47 : (jh44) ≤ (t403.length : Int)
            ·rw [if_pos c47] at H
             have c47b0 := eq_true c47
             have c47b1 : decide ((jh44) ≤ (t403.length : Int)) = true := decide_eq_true c47
             obtain ⟨y406, hy406⟩ : ∃ y_ : List Int, y_ = ((t403.take ((jh44) : Int).toNat).drop ((ji44) : Int).toNat) := ⟨_, rfl⟩
             replace H : ((impl_indexOf.f k3 y406 a0).bind fun t410 => (if 0 ≤ t410 then (if t410 < (l2_1.length : Int) then (impl_DoCommute.l1 k3 a0 a1_0 a2_0 x10_2 t403 (wrap64 ((wrap64 (x12_3 * a0)) + (rd l2_1 t410))) 0 (wrap64 (x14_3 + 1)) a1_0 l1_1 a2_0 l2_1) else (none)) else (none))) = some (r1, r2) := by first | (rw [hy406]; with_reducible exact H) | (have H2_ := (Option.bind_some _ _).symm.trans H; rw [hy406]; with_reducible exact H2_) | (have H2_ := (Option.bind_some _ _).symm.trans H; with_reducible exact H2_) | with_reducible exact H | (rw [hy406]; exact H) | exact H
             have Ny406 := Aside0.mk hy406
             clear hy406
             replace H := Option.bind_eq_some_iff.mp H
             obtain ⟨t410, A480, H⟩ := H
             replace H : (if 0 ≤ t410 then (if t410 < (l2_1.length : Int) then (impl_DoCommute.l1 k3 a0 a1_0 a2_0 x10_2 t403 (wrap64 ((wrap64 (x12_3 * a0)) + (rd l2_1 t410))) 0 (wrap64 (x14_3 + 1)) a1_0 l1_1 a2_0 l2_1) else (none)) else (none)) = some (r1, r2) := H
             have A48 := Aside0.mk A480
             clear A480
             by_cases c49 : 0 ≤ t410
             ·rw [if_pos c49] at H
              have c49b0 : decide (0 ≤ t410) = true := decide_eq_true c49
              clear c49
              by_cases c50 : t410 < (l2_1.length : Int)
              ·rw [if_pos c50] at H
               have c50b0 : decide (t410 < (l2_1.length : Int)) = true := decide_eq_true c50
               clear c50
               have H' := Aside0.mk H
               clear H
               have hnb51 := NB399_398.out
               have hnc51 := NB398_399.out
               have hcz52_0 : wr.cell? ⟨gb399, 0, none⟩ = some (.int .i64 a2_0) := (blk_cell BK399.out 0).trans rfl
               have hcz52_1 : wr.cell? ⟨gb399, 1, none⟩ = some (.slice A2_1 l2_1.length c2_1) := (blk_cell BK399.out 1).trans rfl
               have hfz52_0 := blk_frozen BK399.out 0
               have hfz52_1 := blk_frozen BK399.out 1
               obtain ⟨Ao54, co54, eo54⟩ := Kd.R_slice HO_11.out
               subst eo54
               have q53 : ((jh44) : Int) ≤ ((t403.length : Int) : Int) := of_decide_eq_true (by first | (with_reducible assumption) | assumption)
               obtain ⟨i053, hi053, _, hsz53, _⟩ := info_parts info3
               have hroom53 : t403.length ≤ co54 := (Kd.R_reads' HO_11.out).2.1
               have hC53 : Kd.C (Kd.int .i64) _ Ao54 t403.length t403 := (Kd.R_reads' HO_11.out).2.2
               have ql53 : ((ji44) : Int) ≤ ((jh44) : Int) := of_decide_eq_true (by first | (with_reducible assumption) | assumption)
               have q053 : (0 : Int) ≤ ((ji44) : Int) := of_decide_eq_true (by first | (with_reducible assumption) | assumption)
               have hcut53 := cut_mid (P := Try.prog) 35 3 .i64 .i64 Try.underlying35 hi053 1 hsz53 Ao54 t403.length co54 (ji44) (jh44) q053 ql53 q53 hroom53
               have hr53 := Kd.C_mid (lo := ((ji44) : Int).toNat) (hi := ((jh44) : Int).toNat) (c := co54) hC53 (by omega) (by omega) hroom53
               obtain ⟨A53, hA53⟩ : ∃ A1, A1 = (if co54 = ((ji44) : Int).toNat then Ao54 else (Ao54 : Option Addr).map (·.add (((ji44) : Int).toNat * 1))) := ⟨_, rfl⟩
               obtain ⟨c53, hc53⟩ : ∃ c1, c1 = co54 - ((ji44) : Int).toNat := ⟨_, rfl⟩
               have hy53 : y406.length = ((jh44) : Int).toNat - ((ji44) : Int).toNat := (by rw [Ny406.out, List.length_drop, List.length_take] <;> omega)
               rw [show ((t403).take ((jh44) : Int).toNat).drop ((ji44) : Int).toNat = y406 from Ny406.out.symm] at hr53
               replace hr53 : Kd.C (Kd.int .i64) _ A53 y406.length y406 := (by rw [hA53]; exact hr53)
               rw [← hy53, ← hA53, ← hc53] at hcut53
               have HR409 := Aside0.mk hr53
               have HC409 := Aside0.mk (show y406.length ≤ c53 from by rw [hy53, hc53]; exact Nat.sub_le_sub_right (Nat.le_trans (by omega) hroom53) _)
               clear hr53 hC53 hroom53 hi053 hsz53 hc53
               have KY53 := Aside0.mk hy53
               have KA53 := Aside0.mk hA53
               clear hy53 hA53
               have KL53 := Aside0.mk (show ((jh44) : Int).toNat ≤ t403.length from by omega)
               have KM53 := Aside0.mk (show ((ji44) : Int).toNat ≤ ((jh44) : Int).toNat from by omega)
               replace q53 := eq_true q53
               go_wp2_with (first | (go_at_call 44; (with_reducible refine (impl_indexOf.calls k3 _ _ y406 a0 t410 _ ?side1 ?side2 A48.out).mono ?_); (case side1 => repeat (first | exact (by repeat (first | (with_reducible exact HR409.out) | (with_reducible refine Kd.C_alloc ?_ _) | (with_reducible refine Kd.C_drewN ?_ _) | (with_reducible refine Kd.C_drew ?_) | exact HR409.out)) | (with_reducible refine Kd.C_alloc ?_ _) | (with_reducible refine Kd.C_drewN ?_ _) | (with_reducible refine Kd.C_drew ?_))); (case side2 => exact HC409.out); rintro e w' ⟨rfl, ⟨nd, rfl⟩⟩; (try first | exact ⟨rfl, _, World.drewN_drewN _ _ _⟩ | exact ⟨rfl, _, Eq.trans (World.drewN_drewN _ _ _) (congrArg (World.drewN _) (Nat.add_assoc _ _ _))⟩); have p411 : 0 ≤ (t410 : Int) := of_decide_eq_true (by first | (with_reducible assumption) | assumption); have q411 : t410 < (l2_1.length : Int) := of_decide_eq_true (by first | (with_reducible assumption) | assumption); obtain ⟨ad411, e411, hx411_0⟩ := Kd.at_int HR2_1.out t410 p411 q411; cases e411; replace hx411_0 := (HB.out.cell (World.block_lt_of_cell? w _ hx411_0)).trans hx411_0; replace p411 := eq_true p411; replace q411 := eq_true q411))
               repeat (go_quiet (first | (go_at_call 44; (with_reducible refine (impl_indexOf.calls k3 _ _ y406 a0 t410 _ ?side1 ?side2 A48.out).mono ?_); (case side1 => repeat (first | exact (by repeat (first | (with_reducible exact HR409.out) | (with_reducible refine Kd.C_alloc ?_ _) | (with_reducible refine Kd.C_drewN ?_ _) | (with_reducible refine Kd.C_drew ?_) | exact HR409.out)) | (with_reducible refine Kd.C_alloc ?_ _) | (with_reducible refine Kd.C_drewN ?_ _) | (with_reducible refine Kd.C_drew ?_))); (case side2 => exact HC409.out); rintro e w' ⟨rfl, ⟨nd, rfl⟩⟩; (try first | exact ⟨rfl, _, World.drewN_drewN _ _ _⟩ | exact ⟨rfl, _, Eq.trans (World.drewN_drewN _ _ _) (congrArg (World.drewN _) (Nat.add_assoc _ _ _))⟩); have p411 : 0 ≤ (t410 : Int) := of_decide_eq_true (by first | (with_reducible assumption) | assumption); have q411 : t410 < (l2_1.length : Int) := of_decide_eq_true (by first | (with_reducible assumption) | assumption); obtain ⟨ad411, e411, hx411_0⟩ := Kd.at_int HR2_1.out t410 p411 q411; cases e411; replace hx411_0 := (HB.out.cell (World.block_lt_of_cell? w _ hx411_0)).trans hx411_0; replace p411 := eq_true p411; replace q411 := eq_true q411)); try go_wp2_with (first | (go_at_call 44; (with_reducible refine (impl_indexOf.calls k3 _ _ y406 a0 t410 _ ?side1 ?side2 A48.out).mono ?_); (case side1 => repeat (first | exact (by repeat (first | (with_reducible exact HR409.out) | (with_reducible refine Kd.C_alloc ?_ _) | (with_reducible refine Kd.C_drewN ?_ _) | (with_reducible refine Kd.C_drew ?_) | exact HR409.out)) | (with_reducible refine Kd.C_alloc ?_ _) | (with_reducible refine Kd.C_drewN ?_ _) | (with_reducible refine Kd.C_drew ?_))); (case side2 => exact HC409.out); rintro e w' ⟨rfl, ⟨nd, rfl⟩⟩; (try first | exact ⟨rfl, _, World.drewN_drewN _ _ _⟩ | exact ⟨rfl, _, Eq.trans (World.drewN_drewN _ _ _) (congrArg (World.drewN _) (Nat.add_assoc _ _ _))⟩); have p411 : 0 ≤ (t410 : Int) := of_decide_eq_true (by first | (with_reducible assumption) | assumption); have q411 : t410 < (l2_1.length : Int) := of_decide_eq_true (by first | (with_reducible assumption) | assumption); obtain ⟨ad411, e411, hx411_0⟩ := Kd.at_int HR2_1.out t410 p411 q411; cases e411; replace hx411_0 := (HB.out.cell (World.block_lt_of_cell? w _ hx411_0)).trans hx411_0; replace p411 := eq_true p411; replace q411 := eq_true q411)))
               go_roundg k3
               case measure => have := HJ3.out; have := HK2.out; have := HK3.out; omega
               case rel => exact ⟨(wrap64 ((wrap64 (x12_3 * a0)) + (rd l2_1 t410))), (wrap64 (x14_3 + 1)), (by first | rfl | (simp; done) | (simp [*]; done) | (simp [i64_w]; done) | (simp only [i64_w])), (by first | rfl | (simp; done) | (simp [*]; done) | (simp [i64_w]; done) | (simp only [i64_w])), H', ⟨by have := HJ3.out; have := HK2.out; have := HK3.out; omega⟩, ⟨by (with_reducible repeat (first | apply Kd.R_alloc | apply Kd.R_drewN | apply Kd.R_drew)); exact HO_11.out⟩, ⟨by (with_reducible repeat (first | refine blk_drewN ?_ _ | refine blk_drew ?_ | refine blk_alloc ?_ _)); exact BK398.out⟩, ⟨by (with_reducible repeat (first | refine blk_drewN ?_ _ | refine blk_drew ?_ | refine blk_alloc ?_ _)); exact BK399.out⟩, ⟨by repeat (first | (with_reducible first | exact HB.out | apply below_alloc | apply pw_below_drewN | apply below_drew1 | refine below_set ?_ GE398.out | refine below_set ?_ GE399.out) | exact HB.out)⟩⟩
              ·rw [if_neg c50] at H
               exact absurd H (by simp)
             ·rw [if_neg c49] at H
              exact absurd H (by simp)
            ·rw [if_neg c47] at H
             exact absurd H (by simp)
           ·rw [if_neg c46] at H
            exact absurd H (by simp)
          ·rw [if_neg c45] at H
           exact absurd H (by simp)
         ·rw [if_neg c43] at H
          have c43b0 : decide (x14_3 < a1_0) = false := decide_eq_false c43
          clear c43
          have H' := Aside0.mk H
          clear H
          go_wp2
          repeat (go_quiet (fail); try go_wp2)
          go_loopg [13, 15] k3 (fun kq v13 v15 w' => ∃ (x13_4 : Int) (x15_4 : Int), v13 = .int .i64 x13_4 ∧ v15 = .int .i64 x15_4 ∧ Aside0 (impl_DoCommute.l2 kq a0 a1_0 a2_0 x10_2 t403 x12_3 x13_4 x15_4 a1_0 l1_1 a2_0 l2_1 = some (r1, r2)) ∧ Aside0 (kq ≤ k3) ∧ Aside0 (Kd.R (Kd.int .i64) 3 w' w.heap.size (fun _ => True) v404 t403) ∧ Aside0 (w'.heap[gb398]? = some (.cells #[.int .i64 a1_0, (.slice A1_1 l1_1.length c1_1)] 41 (0, 0))) ∧ Aside0 (w'.heap[gb399]? = some (.cells #[.int .i64 a2_0, (.slice A2_1 l2_1.length c2_1)] 41 (0, 0))) ∧ Aside0 (Below w.heap.size w w'))
          case atStart => exact ⟨(0), (0), (by first | rfl | (simp; done) | (simp [*]; done)), (by first | rfl | (simp; done) | (simp [*]; done)), H', ⟨Nat.le_refl _⟩, ⟨by (with_reducible repeat (first | apply Kd.R_alloc | apply Kd.R_drewN | apply Kd.R_drew)); exact HO_11.out⟩, ⟨by (with_reducible repeat (first | refine blk_drewN ?_ _ | refine blk_drew ?_ | refine blk_alloc ?_ _)); exact BK398.out⟩, ⟨by (with_reducible repeat (first | refine blk_drewN ?_ _ | refine blk_drew ?_ | refine blk_alloc ?_ _)); exact BK399.out⟩, ⟨by repeat (first | (with_reducible first | exact HB.out | apply below_alloc | apply pw_below_drewN | apply below_drew1 | refine below_set ?_ GE398.out | refine below_set ?_ GE399.out) | exact HB.out)⟩⟩
          case round =>
           clear H'
           try clear c1
           try clear c2
           try clear p2
           try clear c3
           try clear c4
           try clear p4
           try clear q4
           try clear hx4
           try clear c5
           try clear q5
           try clear p6
           try clear c7
           try clear c7b0
           try clear c8
           try clear c8b0
           try clear c10
           try clear c12
           try clear c13
           try clear c13b0
           try clear c14
           try clear c17
           try clear c20
           try clear c27
           try clear c32
           try clear c35
           try clear c36
           try clear c40
           try clear c40b0
           try clear p41
           try clear q41
           try clear hx41
           try clear c43
           try clear c43b0
           try clear c45
           try clear c45b0
           try clear c45b1
           try clear c46
           try clear c46b0
           try clear c46b1
           try clear c47
           try clear c47b0
           try clear c47b1
           try clear c49
           try clear c49b0
           try clear c50
           try clear c50b0
           try clear c51
           try clear c53
           try clear q53
           try clear hcz15_0
           try clear hcz15_1
           try clear hcz17_0
           try clear hcz17_1
           try clear hcz19_0
           try clear hcz19_1
           try clear hcz21_0
           try clear hcz21_1
           try clear hcz23_0
           try clear hcz23_1
           try clear hcz25_0
           try clear hcz25_1
           try clear hcz26_0
           try clear hcz26_1
           try clear hcz28_0
           try clear hcz28_1
           try clear hcz30_0
           try clear hcz30_1
           try clear hcz33_0
           try clear hcz33_1
           try clear hcz37_0
           try clear hcz37_1
           try clear hcz38_0
           try clear hcz38_1
           try clear hcz52_0
           try clear hcz52_1
           try clear hfz15_0
           try clear hfz15_1
           try clear hfz17_0
           try clear hfz17_1
           try clear hfz19_0
           try clear hfz19_1
           try clear hfz21_0
           try clear hfz21_1
           try clear hfz23_0
           try clear hfz23_1
           try clear hfz25_0
           try clear hfz25_1
           try clear hfz26_0
           try clear hfz26_1
           try clear hfz28_0
           try clear hfz28_1
           try clear hfz30_0
           try clear hfz30_1
           try clear hfz33_0
           try clear hfz33_1
           try clear hfz37_0
           try clear hfz37_1
           try clear hfz38_0
           try clear hfz38_1
           try clear hfz52_0
           try clear hfz52_1
           try clear hx411_0
           try clear p2
           try clear p411
           try clear p6
           try clear q053
           try clear q411
           try clear q53
           obtain ⟨x13_4, x15_4, rfl, rfl, HA, HK4, HO_11, BK398, BK399, HB⟩ := hrel
           cases gk with
           | zero => exact absurd HA.out (by simp [impl_DoCommute.l2])
           | succ k4 =>
            have H := HA.out
            clear HA
            simp only [impl_DoCommute.l2] at H
            by_cases c55 : x15_4 < a2_0
            ·rw [if_pos c55] at H
             have c55b0 : decide (x15_4 < a2_0) = true := decide_eq_true c55
             clear c55
             have H' := Aside0.mk H
             clear H
             go_wp2
             repeat (go_quiet (fail); try go_wp2)
             go_loopg [16, 17] k4 (fun kq v16 v17 w' => ∃ (x16_5 : Int) (x17_5 : Int), v16 = .int .i64 x16_5 ∧ v17 = .int .i64 x17_5 ∧ Aside0 (impl_DoCommute.l3 kq a0 a1_0 a2_0 x10_2 t403 x12_3 x13_4 x15_4 x16_5 x17_5 a1_0 l1_1 a2_0 l2_1 = some (r1, r2)) ∧ Aside0 (kq ≤ k4) ∧ Aside0 (Kd.R (Kd.int .i64) 3 w' w.heap.size (fun _ => True) v404 t403) ∧ Aside0 (w'.heap[gb398]? = some (.cells #[.int .i64 a1_0, (.slice A1_1 l1_1.length c1_1)] 41 (0, 0))) ∧ Aside0 (w'.heap[gb399]? = some (.cells #[.int .i64 a2_0, (.slice A2_1 l2_1.length c2_1)] 41 (0, 0))) ∧ Aside0 (Below w.heap.size w w'))
             case atStart => exact ⟨(0), (0), (by first | rfl | (simp; done) | (simp [*]; done)), (by first | rfl | (simp; done) | (simp [*]; done)), H', ⟨Nat.le_refl _⟩, ⟨by (with_reducible repeat (first | apply Kd.R_alloc | apply Kd.R_drewN | apply Kd.R_drew)); exact HO_11.out⟩, ⟨by (with_reducible repeat (first | refine blk_drewN ?_ _ | refine blk_drew ?_ | refine blk_alloc ?_ _)); exact BK398.out⟩, ⟨by (with_reducible repeat (first | refine blk_drewN ?_ _ | refine blk_drew ?_ | refine blk_alloc ?_ _)); exact BK399.out⟩, ⟨by repeat (first | (with_reducible first | exact HB.out | apply below_alloc | apply pw_below_drewN | apply below_drew1 | refine below_set ?_ GE398.out | refine below_set ?_ GE399.out) | exact HB.out)⟩⟩
             case round =>
              clear H'
              try clear c1
              try clear c2
              try clear p2
              try clear c3
              try clear c4
              try clear p4
              try clear q4
              try clear hx4
              try clear c5
              try clear q5
              try clear p6
              try clear c7
              try clear c7b0
              try clear c8
              try clear c8b0
              try clear c10
              try clear c12
              try clear c13
              try clear c13b0
              try clear c14
              try clear c17
              try clear c20
              try clear c27
              try clear c32
              try clear c35
              try clear c36
              try clear c40
              try clear c40b0
              try clear p41
              try clear q41
              try clear hx41
              try clear c43
              try clear c43b0
              try clear c45
              try clear c45b0
              try clear c45b1
              try clear c46
              try clear c46b0
              try clear c46b1
              try clear c47
              try clear c47b0
              try clear c47b1
              try clear c49
              try clear c49b0
              try clear c50
              try clear c50b0
              try clear c51
              try clear c53
              try clear q53
              try clear c55
              try clear c55b0
              try clear hcz15_0
              try clear hcz15_1
              try clear hcz17_0
              try clear hcz17_1
              try clear hcz19_0
              try clear hcz19_1
              try clear hcz21_0
              try clear hcz21_1
              try clear hcz23_0
              try clear hcz23_1
              try clear hcz25_0
              try clear hcz25_1
              try clear hcz26_0
              try clear hcz26_1
              try clear hcz28_0
              try clear hcz28_1
              try clear hcz30_0
              try clear hcz30_1
              try clear hcz33_0
              try clear hcz33_1
              try clear hcz37_0
              try clear hcz37_1
              try clear hcz38_0
              try clear hcz38_1
              try clear hcz52_0
              try clear hcz52_1
              try clear hfz15_0
              try clear hfz15_1
              try clear hfz17_0
              try clear hfz17_1
              try clear hfz19_0
              try clear hfz19_1
              try clear hfz21_0
              try clear hfz21_1
              try clear hfz23_0
              try clear hfz23_1
              try clear hfz25_0
              try clear hfz25_1
              try clear hfz26_0
              try clear hfz26_1
              try clear hfz28_0
              try clear hfz28_1
              try clear hfz30_0
              try clear hfz30_1
              try clear hfz33_0
              try clear hfz33_1
              try clear hfz37_0
              try clear hfz37_1
              try clear hfz38_0
              try clear hfz38_1
              try clear hfz52_0
              try clear hfz52_1
              try clear hx411_0
              try clear p2
              try clear p4
              try clear p41
              try clear p411
              try clear p6
              try clear q053
              try clear q4
              try clear q41
              try clear q411
              try clear q5
              try clear q53
              obtain ⟨x16_5, x17_5, rfl, rfl, HA, HK5, HO_11, BK398, BK399, HB⟩ := hrel
              cases gk with
              | zero => exact absurd HA.out (by simp [impl_DoCommute.l3])
              | succ k5 =>
               have H := HA.out
               clear HA
               simp only [impl_DoCommute.l3] at H
               by_cases c56 : x17_5 < a1_0
               ·rw [if_pos c56] at H
                have c56b0 : decide (x17_5 < a1_0) = true := decide_eq_true c56
                clear c56
                obtain ⟨ji57, hji57⟩ : ∃ j_ : Int, (wrap64 ((wrap64 (x17_5 * a2_0)) + x15_4)) = j_ := ⟨_, rfl⟩
                replace H : (if 0 ≤ (ji57) then (if (ji57) < (t403.length : Int) then (impl_DoCommute.l3 k5 a0 a1_0 a2_0 x10_2 t403 x12_3 x13_4 x15_4 (wrap64 ((wrap64 (x16_5 * a0)) + (rd t403 (ji57)))) (wrap64 (x17_5 + 1)) a1_0 l1_1 a2_0 l2_1) else (none)) else (none)) = some (r1, r2) := by first | (rw [hji57] at H; exact H) | (simp only [hji57] at H ⊢; exact H)
                have hji57w : (IntKind.i64.wrap ((wrap64 (x17_5 * a2_0)) + x15_4)) = ji57 := (i64_w _).trans hji57
                by_cases c58 : 0 ≤ (ji57)
                ·rw [if_pos c58] at H
                 have c58b0 : decide (0 ≤ (ji57)) = true := decide_eq_true c58
                 clear c58
                 by_cases c59 : (ji57) < (t403.length : Int)
                 ·rw [if_pos c59] at H
                  have c59b0 : decide ((ji57) < (t403.length : Int)) = true := decide_eq_true c59
                  clear c59
                  have H' := Aside0.mk H
                  clear H
                  obtain ⟨Ao60, co60, eo60⟩ := Kd.R_slice HO_11.out
                  subst eo60
                  have p414 : 0 ≤ ((ji57) : Int) := of_decide_eq_true (by first | (with_reducible assumption) | assumption)
                  have q414 : (ji57) < (t403.length : Int) := of_decide_eq_true (by first | (with_reducible assumption) | assumption)
                  obtain ⟨ad414, e414, hx414_0⟩ := Kd.at_int (Kd.R_reads' HO_11.out).2.2 (ji57) p414 q414
                  cases e414
                  replace p414 := eq_true p414
                  replace q414 := eq_true q414
                  go_wp2
                  repeat (go_quiet (fail); try go_wp2)
                  go_roundg k5
                  case measure => have := HJ3.out; have := HK2.out; have := HK3.out; have := HK4.out; have := HK5.out; omega
                  case rel => exact ⟨(wrap64 ((wrap64 (x16_5 * a0)) + (rd t403 (ji57)))), (wrap64 (x17_5 + 1)), (by first | rfl | (simp; done) | (simp only [← hji57] <;> (first | rfl | simp)) | (simp [*]; done)), (by first | rfl | (simp; done) | (simp [*]; done)), H', ⟨by have := HJ3.out; have := HK2.out; have := HK3.out; have := HK4.out; have := HK5.out; omega⟩, ⟨by (with_reducible repeat (first | apply Kd.R_alloc | apply Kd.R_drewN | apply Kd.R_drew)); exact HO_11.out⟩, ⟨by (with_reducible repeat (first | refine blk_drewN ?_ _ | refine blk_drew ?_ | refine blk_alloc ?_ _)); exact BK398.out⟩, ⟨by (with_reducible repeat (first | refine blk_drewN ?_ _ | refine blk_drew ?_ | refine blk_alloc ?_ _)); exact BK399.out⟩, ⟨by repeat (first | (with_reducible first | exact HB.out | apply below_alloc | apply pw_below_drewN | apply below_drew1 | refine below_set ?_ GE398.out | refine below_set ?_ GE399.out) | exact HB.out)⟩⟩
                 ·rw [if_neg c59] at H
                  exact absurd H (by simp)
                ·rw [if_neg c58] at H
                 exact absurd H (by simp)
               ·rw [if_neg c56] at H
                have c56b0 : decide (x17_5 < a1_0) = false := decide_eq_false c56
                clear c56
                by_cases c61 : 0 ≤ x16_5
                ·rw [if_pos c61] at H
                 have c61b0 : decide (0 ≤ x16_5) = true := decide_eq_true c61
                 clear c61
                 by_cases c62 : x16_5 < (l1_1.length : Int)
                 ·rw [if_pos c62] at H
                  have c62b0 : decide (x16_5 < (l1_1.length : Int)) = true := decide_eq_true c62
                  clear c62
                  have H' := Aside0.mk H
                  clear H
                  have hnb63 := NB398_399.out
                  have hnc63 := NB399_398.out
                  have hcz64_0 : wr.cell? ⟨gb398, 0, none⟩ = some (.int .i64 a1_0) := (blk_cell BK398.out 0).trans rfl
                  have hcz64_1 : wr.cell? ⟨gb398, 1, none⟩ = some (.slice A1_1 l1_1.length c1_1) := (blk_cell BK398.out 1).trans rfl
                  have hfz64_0 := blk_frozen BK398.out 0
                  have hfz64_1 := blk_frozen BK398.out 1
                  have p415 : 0 ≤ (x16_5 : Int) := of_decide_eq_true (by first | (with_reducible assumption) | assumption)
                  have q415 : x16_5 < (l1_1.length : Int) := of_decide_eq_true (by first | (with_reducible assumption) | assumption)
                  obtain ⟨ad415, e415, hx415_0⟩ := Kd.at_int HR1_1.out x16_5 p415 q415
                  cases e415
                  replace hx415_0 := (HB.out.cell (World.block_lt_of_cell? w _ hx415_0)).trans hx415_0
                  replace p415 := eq_true p415
                  replace q415 := eq_true q415
                  go_wp2
                  repeat (go_quiet (fail); try go_wp2)
                  go_roundg k5
                  case measure => have := HJ3.out; have := HK2.out; have := HK3.out; have := HK4.out; have := HK5.out; omega
                  case rel => exact ⟨(wrap64 ((wrap64 (x13_4 * a0)) + (rd l1_1 x16_5))), (wrap64 (x15_4 + 1)), (by first | rfl | (simp; done) | (simp [*]; done)), (by first | rfl | (simp; done) | (simp [*]; done)), H', ⟨by have := HJ3.out; have := HK2.out; have := HK3.out; have := HK4.out; have := HK5.out; omega⟩, ⟨by (with_reducible repeat (first | apply Kd.R_alloc | apply Kd.R_drewN | apply Kd.R_drew)); exact HO_11.out⟩, ⟨by (with_reducible repeat (first | refine blk_drewN ?_ _ | refine blk_drew ?_ | refine blk_alloc ?_ _)); exact BK398.out⟩, ⟨by (with_reducible repeat (first | refine blk_drewN ?_ _ | refine blk_drew ?_ | refine blk_alloc ?_ _)); exact BK399.out⟩, ⟨by repeat (first | (with_reducible first | exact HB.out | apply below_alloc | apply pw_below_drewN | apply below_drew1 | refine below_set ?_ GE398.out | refine below_set ?_ GE399.out) | exact HB.out)⟩⟩
                 ·rw [if_neg c62] at H
                  exact absurd H (by simp)
                ·rw [if_neg c61] at H
                 exact absurd H (by simp)
            ·rw [if_neg c55] at H
             have c55b0 : decide (x15_4 < a2_0) = false := decide_eq_false c55
             clear c55
             by_cases c65 : 0 ≤ x12_3
             ·rw [if_pos c65] at H
              have c65b0 : decide (0 ≤ x12_3) = true := decide_eq_true c65
              clear c65
              by_cases c66 : x12_3 < (l1_1.length : Int)
              ·rw [if_pos c66] at H
               have c66b0 : decide (x12_3 < (l1_1.length : Int)) = true := decide_eq_true c66
               clear c66
               by_cases c67 : 0 ≤ x13_4
               ·rw [if_pos c67] at H
                have c67b0 : decide (0 ≤ x13_4) = true := decide_eq_true c67
                clear c67
                by_cases c68 : x13_4 < (l2_1.length : Int)
                ·rw [if_pos c68] at H
                 have c68b0 : decide (x13_4 < (l2_1.length : Int)) = true := decide_eq_true c68
                 clear c68
                 by_cases c69 : (rd l1_1 x12_3) = (rd l2_1 x13_4)
                 ·rw [if_pos c69] at H
                  have c69b0 : ((rd l1_1 x12_3) == (rd l2_1 x13_4)) = true := beq_iff_eq.mpr c69
                  have c69b1 : ((rd l1_1 x12_3) != (rd l2_1 x13_4)) = false := bne_eq_false_iff_eq.mpr c69
                  clear c69
                  have H' := Aside0.mk H
                  clear H
                  have hnb70 := NB398_399.out
                  have hnc70 := NB399_398.out
                  have hcz71_0 : wr.cell? ⟨gb398, 0, none⟩ = some (.int .i64 a1_0) := (blk_cell BK398.out 0).trans rfl
                  have hcz71_1 : wr.cell? ⟨gb398, 1, none⟩ = some (.slice A1_1 l1_1.length c1_1) := (blk_cell BK398.out 1).trans rfl
                  have hfz71_0 := blk_frozen BK398.out 0
                  have hfz71_1 := blk_frozen BK398.out 1
                  have p412 : 0 ≤ (x12_3 : Int) := of_decide_eq_true (by first | (with_reducible assumption) | assumption)
                  have q412 : x12_3 < (l1_1.length : Int) := of_decide_eq_true (by first | (with_reducible assumption) | assumption)
                  obtain ⟨ad412, e412, hx412_0⟩ := Kd.at_int HR1_1.out x12_3 p412 q412
                  cases e412
                  replace hx412_0 := (HB.out.cell (World.block_lt_of_cell? w _ hx412_0)).trans hx412_0
                  replace p412 := eq_true p412
                  replace q412 := eq_true q412
                  have hcz72_0 : wr.cell? ⟨gb399, 0, none⟩ = some (.int .i64 a2_0) := (blk_cell BK399.out 0).trans rfl
                  have hcz72_1 : wr.cell? ⟨gb399, 1, none⟩ = some (.slice A2_1 l2_1.length c2_1) := (blk_cell BK399.out 1).trans rfl
                  have hfz72_0 := blk_frozen BK399.out 0
                  have hfz72_1 := blk_frozen BK399.out 1
                  have p413 : 0 ≤ (x13_4 : Int) := of_decide_eq_true (by first | (with_reducible assumption) | assumption)
                  have q413 : x13_4 < (l2_1.length : Int) := of_decide_eq_true (by first | (with_reducible assumption) | assumption)
                  obtain ⟨ad413, e413, hx413_0⟩ := Kd.at_int HR2_1.out x13_4 p413 q413
                  cases e413
                  replace hx413_0 := (HB.out.cell (World.block_lt_of_cell? w _ hx413_0)).trans hx413_0
                  replace p413 := eq_true p413
                  replace q413 := eq_true q413
                  go_wp2
                  repeat (go_quiet (fail); try go_wp2)
                  go_roundg k4
                  case measure => have := HJ3.out; have := HK2.out; have := HK3.out; have := HK4.out; omega
                  case rel => exact ⟨(wrap64 (x10_2 + 1)), (by first | rfl | (simp; done) | (simp [*]; done)), H', ⟨by have := HJ3.out; have := HK2.out; have := HK3.out; have := HK4.out; omega⟩, ⟨by (with_reducible repeat (first | refine blk_drewN ?_ _ | refine blk_drew ?_ | refine blk_alloc ?_ _)); exact BK398.out⟩, ⟨by (with_reducible repeat (first | refine blk_drewN ?_ _ | refine blk_drew ?_ | refine blk_alloc ?_ _)); exact BK399.out⟩, ⟨by repeat (first | (with_reducible first | exact HB.out | apply below_alloc | apply pw_below_drewN | apply below_drew1 | refine below_set ?_ GE398.out | refine below_set ?_ GE399.out) | exact HB.out)⟩⟩
                 ·rw [if_neg c69] at H
                  have c69b0 : ((rd l1_1 x12_3) == (rd l2_1 x13_4)) = false := beq_eq_false_iff_ne.mpr c69
                  have c69b1 : ((rd l1_1 x12_3) != (rd l2_1 x13_4)) = true := bne_iff_ne.mpr c69
                  simp only [Option.some.injEq, Prod.mk.injEq] at H
                  obtain ⟨rfl, rfl⟩ := H
                  have hnb73 := NB398_399.out
                  have hnc73 := NB399_398.out
                  have hcz74_0 : wr.cell? ⟨gb398, 0, none⟩ = some (.int .i64 a1_0) := (blk_cell BK398.out 0).trans rfl
                  have hcz74_1 : wr.cell? ⟨gb398, 1, none⟩ = some (.slice A1_1 l1_1.length c1_1) := (blk_cell BK398.out 1).trans rfl
                  have hfz74_0 := blk_frozen BK398.out 0
                  have hfz74_1 := blk_frozen BK398.out 1
                  have p412 : 0 ≤ (x12_3 : Int) := of_decide_eq_true (by first | (with_reducible assumption) | assumption)
                  have q412 : x12_3 < (l1_1.length : Int) := of_decide_eq_true (by first | (with_reducible assumption) | assumption)
                  obtain ⟨ad412, e412, hx412_0⟩ := Kd.at_int HR1_1.out x12_3 p412 q412
                  cases e412
                  replace hx412_0 := (HB.out.cell (World.block_lt_of_cell? w _ hx412_0)).trans hx412_0
                  replace p412 := eq_true p412
                  replace q412 := eq_true q412
                  have hcz75_0 : wr.cell? ⟨gb399, 0, none⟩ = some (.int .i64 a2_0) := (blk_cell BK399.out 0).trans rfl
                  have hcz75_1 : wr.cell? ⟨gb399, 1, none⟩ = some (.slice A2_1 l2_1.length c2_1) := (blk_cell BK399.out 1).trans rfl
                  have hfz75_0 := blk_frozen BK399.out 0
                  have hfz75_1 := blk_frozen BK399.out 1
                  have p413 : 0 ≤ (x13_4 : Int) := of_decide_eq_true (by first | (with_reducible assumption) | assumption)
                  have q413 : x13_4 < (l2_1.length : Int) := of_decide_eq_true (by first | (with_reducible assumption) | assumption)
                  obtain ⟨ad413, e413, hx413_0⟩ := Kd.at_int HR2_1.out x13_4 p413 q413
                  cases e413
                  replace hx413_0 := (HB.out.cell (World.block_lt_of_cell? w _ hx413_0)).trans hx413_0
                  replace p413 := eq_true p413
                  replace q413 := eq_true q413
                  go_wp2
                  repeat (go_quiet (fail); try go_wp2)
                  go_ret2
                  exact ⟨by first | rfl | (simp [errW_none, errW_some] <;> rfl) | (simp [*, errW_none, errW_some] <;> rfl), by repeat (first | (with_reducible first | exact HB.out | apply below_alloc | apply pw_below_drewN | apply below_drew1 | refine below_set ?_ GE398.out | refine below_set ?_ GE399.out) | exact HB.out)⟩
                ·rw [if_neg c68] at H
                 exact absurd H (by simp)
               ·rw [if_neg c67] at H
                exact absurd H (by simp)
              ·rw [if_neg c66] at H
               exact absurd H (by simp)
             ·rw [if_neg c65] at H
              exact absurd H (by simp)
      ·rw [if_neg c40] at H
       have c40b0 : decide (x10_2 < t402) = false := decide_eq_false c40
       clear c40
       simp only [Option.some.injEq, Prod.mk.injEq] at H
       obtain ⟨rfl, rfl⟩ := H
       go_wp2_with (first | (go_at_call 42; (with_reducible refine (impl_power.calls k2 a0 (wrap64 (a1_0 * a2_0)) t402 _ A39.out).mono ?_); rintro e w' ⟨rfl, ⟨nd, rfl⟩⟩; (try first | exact ⟨rfl, _, World.drewN_drewN _ _ _⟩ | exact ⟨rfl, _, Eq.trans (World.drewN_drewN _ _ _) (congrArg (World.drewN _) (Nat.add_assoc _ _ _))⟩)))
       repeat (go_quiet (first | (go_at_call 42; (with_reducible refine (impl_power.calls k2 a0 (wrap64 (a1_0 * a2_0)) t402 _ A39.out).mono ?_); rintro e w' ⟨rfl, ⟨nd, rfl⟩⟩; (try first | exact ⟨rfl, _, World.drewN_drewN _ _ _⟩ | exact ⟨rfl, _, Eq.trans (World.drewN_drewN _ _ _) (congrArg (World.drewN _) (Nat.add_assoc _ _ _))⟩))); try go_wp2_with (first | (go_at_call 42; (with_reducible refine (impl_power.calls k2 a0 (wrap64 (a1_0 * a2_0)) t402 _ A39.out).mono ?_); rintro e w' ⟨rfl, ⟨nd, rfl⟩⟩; (try first | exact ⟨rfl, _, World.drewN_drewN _ _ _⟩ | exact ⟨rfl, _, Eq.trans (World.drewN_drewN _ _ _) (congrArg (World.drewN _) (Nat.add_assoc _ _ _))⟩))))
       go_ret2
       exact ⟨by first | rfl | (simp [errW_none, errW_some] <;> rfl) | (simp [*, errW_none, errW_some] <;> rfl), by repeat (first | (with_reducible first | exact HB.out | apply below_alloc | apply pw_below_drewN | apply below_drew1 | refine below_set ?_ GE398.out | refine below_set ?_ GE399.out) | exact HB.out)⟩
end Go.Proofs.Ytccjheikjcpgmaa.Q

namespace Go.Proofs.Ytccjheikjcpgmaa.Live
open Go.RowKit Go.Proofs.YtccjheikjcpgmaaW.PrintWords Go.Proofs.YtccjheikjcpgmaaW.PrintLast
set_option linter.unusedVariables false
structure Part where
 lo : Nat
 hi : Nat
 P : World → Prop
def Seg (w : World) (x : Part) : Prop := ∀ w' : World, (∀ k, x.lo ≤ k → k < x.hi → w'.heap[k]? = w.heap[k]?) → x.P w'
def Live (w : World) (L : List Part) : Prop := (∀ x ∈ L, x.lo ≤ x.hi ∧ x.hi ≤ w.heap.size ∧ Seg w x) ∧ L.Pairwise (fun new old => old.hi ≤ new.lo)
theorem Live.nil (w : World) : Live w [] := ⟨fun x hx => by simp at hx, List.Pairwise.nil⟩
theorem Live.get {w : World} {L : List Part} (h : Live w L) (i : Nat) {x : Part} (hi : L[i]? = some x) : x.P w :=
 (h.1 x (List.mem_of_getElem? hi)).2.2 w (fun _ _ _ => rfl)
theorem Seg.kept {w w' : World} {x : Part} {S : Nat → Prop} (h : Seg w x) (hk : Kept w w' S) (hh : x.hi ≤ w.heap.size) (hs : ∀ k, x.lo ≤ k → k < x.hi → ¬ S k) : Seg w' x :=
 fun w2 h2 => h w2 (fun k h3 h4 => (h2 k h3 h4).trans (hk.2 k (by omega) (hs k h3 h4)))
theorem Live.kept {w w' : World} {L : List Part} {S : Nat → Prop} (h : Live w L) (hk : Kept w w' S) (hs : ∀ x ∈ L, ∀ k, x.lo ≤ k → k < x.hi → ¬ S k) : Live w' L :=
 ⟨fun x hx => ⟨(h.1 x hx).1, Nat.le_trans (h.1 x hx).2.1 hk.1, (h.1 x hx).2.2.kept hk (h.1 x hx).2.1 (hs x hx)⟩, h.2⟩
theorem Live.below {w w' : World} {L : List Part} (h : Live w L) (hb : Below w.heap.size w w') : Live w' L :=
 h.kept (Kept.of_below hb (fun _ => False)) (fun _ _ _ _ _ hf => hf)
theorem Live.drew {w : World} {L : List Part} (h : Live w L) : Live w.drew L := h
theorem Live.make {w w' : World} {L : List Part} (h : Live w L) (hb : Below w.heap.size w w') {P : World → Prop} (hP : Seg w' ⟨w.heap.size, w'.heap.size, P⟩) : Live w' (⟨w.heap.size, w'.heap.size, P⟩ :: L) := by
 have h1 := h.below hb
 refine ⟨fun x hx => ?_, List.Pairwise.cons (fun x hx => (h.1 x hx).2.1) h1.2⟩
 rcases List.mem_cons.1 hx with rfl | hx
 ·exact ⟨hb.size, Nat.le_refl _, hP⟩
 ·exact h1.1 x hx
theorem Live.make_box {w : World} {L : List Part} (h : Live w L) (o : Obj) (g : Nat) (hg : g = w.heap.size) : ∃ lo hi, Live (w.alloc o) (⟨lo, hi, fun w => w.heap[g]? = some o ∧ lo ≤ g ∧ g < hi⟩ :: L) :=
 ⟨w.heap.size, (w.alloc o).heap.size, h.make (below_alloc (Below.refl _ _) o) (fun w' hw => by subst hg; exact ⟨(hw _ (Nat.le_refl _) (by simp)).trans (heap_alloc_new w o), Nat.le_refl _, by simp⟩)⟩
theorem Live.make_R {α : Type} {d : Kd α} {e base : Nat} {ok : Nat → Prop} {v : Value} {xs : List α} {w w' : World} {L : List Part} (h : Live w L) (hb : Below w.heap.size w w') (ho : d.R e w' w.heap.size ok v xs) (hbase : base ≤ w.heap.size) :
  ∃ lo hi, Live w' (⟨lo, hi, fun w => d.R e w base (fun k => lo ≤ k ∧ k < hi) v xs⟩ :: L) :=
 ⟨_, _, h.make hb (fun w2 hw => Kd.R_lower (Kd.R_move (Kd.R_mono (Kd.R_bound ho) (fun k hk => ⟨hk.2.1, hk.2.2.1⟩)) (fun k hk => hw k hk.1 hk.2)) hbase)⟩
section
variable {α : Type} {d : Kd α} {e base lo hi : Nat} {w : World} {ok : Nat → Prop} {v : Value} {xs : List α}
end
end Go.Proofs.Ytccjheikjcpgmaa.Live

namespace Go.Proofs.Ytccjheikjcpgmaa
open Go.RowKit Go.Proofs.YtccjheikjcpgmaaW.PrintWords Go.Proofs.YtccjheikjcpgmaaW.PrintLast Go.Proofs.YtccjheikjcpgmaaW.PrintMore Go.Proofs.Ytccjheikjcpgmaa.Live Go.Proofs.Ytccjheikjcpgmaa.Q
def Stmt.FnExactDoCommute : Prop := ∀ (a0 : Int) (a1 : Int) (l1 : List (Int)) (a2 : Int) (l2 : List (Int)), (Lit.int .i64 a0).wf = true → (Lit.int .i64 a1).wf = true → l1.length ≤ maxLen → (∀ x ∈ l1, (Lit.int .i64 x).wf = true) → (Lit.int .i64 a2).wf = true → l2.length ≤ maxLen → (∀ x ∈ l2, (Lit.int .i64 x).wf = true) → ∃ k : Nat, ∃ t0 : Int, laws_szOp.f a1 l1 1048576 = some t0 ∧ (0 ≤ t0 → ∃ t1 : Int, laws_szOp.f a2 l2 t0 = some t1 ∧ (0 ≤ t1 → ∃ (X0 : Int) (X1 : List Int) (X2 : Int) (X3 : List Int) (X4 : Bool) (X5 : Bool), laws_toOp.f k a1 l1 = some (X0, X1) ∧ laws_toOp.f k a2 l2 = some (X2, X3) ∧ spec_DoCommute.f k a0 X0 X1 X2 X3 = some (X4, X5) ∧ impl_DoCommute.f k a0 X0 X1 X2 X3 = some (X4, X5) ∧ laws_eqOp.f k X0 X1 X0 X1 = some true ∧ laws_eqOp.f k X2 X3 X2 X3 = some true))
end Go.Proofs.Ytccjheikjcpgmaa

namespace Go.Proofs.Ytccjheikjcpgmaa
open Go.ChangeShapes Go.WideShapes
end Go.Proofs.Ytccjheikjcpgmaa
namespace Go.Proofs.Ytccjheikjcpgmaa.Pure
open Go.RowKit Go.Proofs.Ytccjheikjcpgmaa.Q Go.Proofs.YtccjheikjcpgmaaW.PrintWords Go.Proofs.YtccjheikjcpgmaaW.PrintLast
set_option linter.unusedVariables false
set_option linter.unusedSimpArgs false
theorem Ev.pos {α : Type} {c : Prop} [Decidable c] {f g : Nat → Option α} {r : α} (h : c) (hf : Ev f r) : Ev (fun k => if c then f k else g k) r := by
 simpa only [if_pos h] using hf
theorem Ev.neg {α : Type} {c : Prop} [Decidable c] {f g : Nat → Option α} {r : α} (h : ¬ c) (hg : Ev g r) : Ev (fun k => if c then f k else g k) r := by
 simpa only [if_neg h] using hg
theorem Ev.ite {α : Type} {c : Prop} [Decidable c] {f g : Nat → Option α} {r : α} (h : c → Ev f r) (h' : ¬ c → Ev g r) : Ev (fun k => if c then f k else g k) r := by
 by_cases hc : c
 ·exact Ev.pos hc (h hc)
 ·exact Ev.neg hc (h' hc)
theorem Ev.bind1 {α β : Type} {x : α} {f : Nat → α → Option β} {r : β} (k : Ev (fun n => f n x) r) : Ev (fun n => (some x).bind (f n)) r := k
theorem _root_.Go.Proofs.YtccjheikjcpgmaaW.PrintWords.Ev.to {α : Type} {g : Nat → Option α} {r s : α} (h : Ev g r) (e : r = s) : Ev g s := e ▸ h
theorem w64 {x : Int} (h1 : -9223372036854775808 ≤ x) (h2 : x ≤ 9223372036854775807) : wrap64 x = x := by unfold wrap64; omega
theorem w64s {i n : Nat} (h : i < n) (hn : n ≤ 9223372036854775807) : wrap64 ((i : Int) + 1) = ((i + 1 : Nat) : Int) := by unfold wrap64; omega
def gd (l : List Int) (i : Nat) : Int := l.getD i 0
theorem rdn (xs : List Int) (i : Nat) : rd xs (i : Int) = gd xs i := by simp [rd, gd]
theorem gd_lt {xs : List Int} {i : Nat} (h : i < xs.length) : gd xs i = xs[i] := by simp [gd, List.getD, h]
theorem ext_gd {a b : List Int} (h : a.length = b.length) (e : ∀ i, i < a.length → gd a i = gd b i) : a = b := by
 apply List.ext_getElem h
 intro i h1 h2
 have := e i h1
 rwa [gd_lt h1, gd_lt h2] at this
theorem take_snoc (l : List Int) {i : Nat} (h : i < l.length) : l.take i ++ [gd l i] = l.take (i + 1) := by
 rw [gd_lt h, List.take_append_getElem]
theorem _root_.Go.Proofs.YtccjheikjcpgmaaW.PrintWords.Ev.and {α β : Type} {g : Nat → Option α} {f : Nat → Option β} {r : α} {s : β} (h : Ev g r) (h' : Ev f s) : ∃ K, ∀ k, K ≤ k → g k = some r ∧ f k = some s := by
 obtain ⟨K, h⟩ := h
 obtain ⟨K', h'⟩ := h'
 exact ⟨max K K', fun k hk => ⟨h k (by omega), h' k (by omega)⟩⟩
def Evs (P : Nat → Prop) : Prop := ∃ K, ∀ k, K ≤ k → P k
theorem Evs.of {α : Type} {g : Nat → Option α} {r : α} (h : Ev g r) : Evs (fun k => g k = some r) := h
theorem Evs.and {P Q : Nat → Prop} (h : Evs P) (h' : Evs Q) : Evs (fun k => P k ∧ Q k) := by
 obtain ⟨K, h⟩ := h
 obtain ⟨K', h'⟩ := h'
 exact ⟨max K K', fun k hk => ⟨h k (by omega), h' k (by omega)⟩⟩
theorem Evs.true {P : Prop} (h : P) : Evs (fun _ => P) := ⟨0, fun _ _ => h⟩
theorem Evs.ex {P : Nat → Prop} (h : Evs P) : ∃ k, P k := by
 obtain ⟨K, h⟩ := h
 exact ⟨K, h K (Nat.le_refl _)⟩
theorem drop_cons {α : Type} (l : List α) (z : α) {i : Nat} (h : i < l.length) : l.drop i = l.getD i z :: l.drop (i + 1) := by
 rw [List.drop_eq_getElem_cons h]
 simp [List.getD, h]
theorem all_loop {α : Type} (l : List α) (z : α) (p : α → Bool) (L : Nat → Int → Option Bool) (hend : Ev (fun k => L k (l.length : Int)) true)
  (hT : ∀ (i : Nat) (r : Bool), i < l.length → p (l.getD i z) = true → Ev (fun k => L k ((i + 1 : Nat) : Int)) r → Ev (fun k => L k (i : Int)) r)
  (hF : ∀ i : Nat, i < l.length → p (l.getD i z) = false → Ev (fun k => L k (i : Int)) false) : ∀ (d i : Nat), i + d = l.length → Ev (fun k => L k (i : Int)) ((l.drop i).all p) := by
 intro d
 induction d with
 | zero =>
  intro i hi
  have : i = l.length := by omega
  subst this
  simpa using hend
 | succ d ih =>
  intro i hi
  rw [drop_cons l z (by omega), List.all_cons]
  cases hp : p (l.getD i z) with
  | true => simpa using hT i _ (by omega) hp (ih (i + 1) (by omega))
  | false => simpa using hF i (by omega) hp
def sizeB (n : Int) : Bool := decide (1 ≤ n ∧ n ≤ 8)
theorem spec_l1In_eq (a b c : Int) : spec_l1In.f a b c = some (decide (b ≤ a ∧ a ≤ c)) := by
 unfold spec_l1In.f
 split
 ·congr 1; simp; omega
 ·congr 1; simp; omega
theorem toIntS_loop (l : List Int) (hl : l.length ≤ 35184372088832) : ∀ (d i : Nat) (x : List Int), i + d = l.length → x.length = l.length → (∀ j, j < i → gd x j = gd l j) → Ev (fun k => laws_toIntS.l0 k l x (i : Int)) l := by
 intro d
 induction d with
 | zero =>
  intro i x hi hx h
  refine Ev.step (fun _ => laws_toIntS.l0.eq_2 ..) ?_
  refine Ev.neg (by omega) ?_
  have : x = l := by
   apply List.ext_getElem hx
   intro j h1 h2
   have := h j (by omega)
   simpa [gd, List.getD, h1, h2] using this
  subst this
  exact Ev.now _
 | succ d ih =>
  intro i x hi hx h
  refine Ev.step (fun _ => laws_toIntS.l0.eq_2 ..) ?_
  refine Ev.pos (by omega) ?_
  refine Ev.pos (by omega) ?_
  refine Ev.pos (by omega) ?_
  rw [w64s (n := l.length) (by omega) (by omega), rdn, Int.toNat_natCast]
  refine ih (i + 1) _ (by omega) (by simpa using hx) ?_
  intro j hj
  by_cases e : j = i
  ·subst e
   simp [gd, List.getD, show j < x.length by omega]
  ·have := h j (by omega)
   simp only [gd, List.getD] at this ⊢
   rw [List.getElem?_set_ne (by omega)]
   exact this
theorem toIntS_ev (l : List Int) (hl : l.length ≤ 35184372088832) : Ev (fun k => laws_toIntS.f k l) l := by
 unfold laws_toIntS.f
 refine Ev.pos (by omega) ?_
 refine Ev.pos (by omega) ?_
 exact toIntS_loop l hl l.length 0 _ (by omega) (by simp) (fun j hj => by omega)
theorem eqIntS_loop (a b : List Int) (hb : b.length = a.length) (hl : a.length ≤ 35184372088832) : ∀ (d i : Nat), i + d = a.length → Ev (fun k => laws_eqIntS.l0 k a b (i : Int)) (decide (a.drop i = b.drop i)) := by
 intro d
 induction d with
 | zero =>
  intro i hi
  refine Ev.step (fun _ => laws_eqIntS.l0.eq_2 ..) ?_
  refine Ev.neg (by omega) ?_
  refine (Ev.now _).to ?_
  rw [List.drop_of_length_le (by omega), List.drop_of_length_le (by omega)]
  simp
 | succ d ih =>
  intro i hi
  refine Ev.step (fun _ => laws_eqIntS.l0.eq_2 ..) ?_
  refine Ev.pos (by omega) ?_
  refine Ev.pos (by omega) ?_
  refine Ev.pos (by omega) ?_
  rw [w64s (n := a.length) (by omega) (by omega), rdn, rdn]
  have e1 : a.drop i = gd a i :: a.drop (i + 1) := by rw [gd_lt (by omega)]; exact List.drop_eq_getElem_cons (by omega)
  have e2 : b.drop i = gd b i :: b.drop (i + 1) := by rw [gd_lt (by omega)]; exact List.drop_eq_getElem_cons (by omega)
  refine Ev.ite (fun h => ?_) (fun h => ?_)
  ·refine (ih (i + 1) (by omega)).to ?_
   rw [e1, e2, h]
   simp
  ·refine (Ev.now _).to ?_
   rw [e1, e2]
   simp [h]
theorem eqIntS_ev (a b : List Int) (hl : a.length ≤ 35184372088832) : Ev (fun k => laws_eqIntS.f k a b) (decide (a = b)) := by
 unfold laws_eqIntS.f
 refine Ev.ite (fun h => ?_) (fun h => ?_)
 ·exact eqIntS_loop a b (by omega) hl a.length 0 (by omega)
 ·refine (Ev.now _).to ?_
  have : a ≠ b := fun e => h (by rw [e])
  simp [this]
theorem eqIntS_same (a : List Int) (hl : a.length ≤ 35184372088832) : Ev (fun k => laws_eqIntS.f k a a) true := (eqIntS_ev a a hl).to (by simp)
def inB (n x : Int) : Bool := decide (0 ≤ x ∧ x < n)
def powI (n k : Int) : Int := n ^ k.toNat
def opB (n a : Int) (l : List Int) : Bool := decide (0 ≤ a ∧ a ≤ 3) && (decide ((l.length : Int) = powI n a) && l.all (inB n))
theorem impl_power_ev (n k : Int) (hn : 1 ≤ n ∧ n ≤ 8) (hk : 0 ≤ k ∧ k ≤ 3) : Ev (fun f => impl_power.f f n k) (powI n k) := by
 have h1 : n = 1 ∨ n = 2 ∨ n = 3 ∨ n = 4 ∨ n = 5 ∨ n = 6 ∨ n = 7 ∨ n = 8 := by omega
 have h2 : k = 0 ∨ k = 1 ∨ k = 2 ∨ k = 3 := by omega
 refine Ev.of (fun f => impl_power.mono n k f) (k := 5) ?_
 rcases h1 with rfl | rfl | rfl | rfl | rfl | rfl | rfl | rfl <;> rcases h2 with rfl | rfl | rfl | rfl <;> decide +kernel
theorem spec_l2Pow_ev (n k : Int) (hn : 1 ≤ n ∧ n ≤ 8) (hk : 0 ≤ k ∧ k ≤ 3) : Ev (fun f => spec_l2Pow.f f n k) (powI n k) := by
 have h1 : n = 1 ∨ n = 2 ∨ n = 3 ∨ n = 4 ∨ n = 5 ∨ n = 6 ∨ n = 7 ∨ n = 8 := by omega
 have h2 : k = 0 ∨ k = 1 ∨ k = 2 ∨ k = 3 := by omega
 refine Ev.of (fun f => spec_l2Pow.mono n k f) (k := 5) ?_
 rcases h1 with rfl | rfl | rfl | rfl | rfl | rfl | rfl | rfl <;> rcases h2 with rfl | rfl | rfl | rfl <;> decide +kernel
theorem impl_inSize_ev (l : List Int) (n : Int) (hl : l.length ≤ 35184372088832) : Ev (fun k => impl_inSize.f k l n) (l.all (inB n)) := by
 unfold impl_inSize.f
 refine all_loop l 0 (inB n) (fun k i => impl_inSize.l0 k n l (l.length : Int) i) ?_ ?_ ?_ l.length 0 (by omega)
 ·exact Ev.step (fun _ => impl_inSize.l0.eq_2 ..) (Ev.neg (by omega) (Ev.now _))
 ·intro i r hi hp h
  have hp' := of_decide_eq_true hp
  refine Ev.step (fun _ => impl_inSize.l0.eq_2 ..) ?_
  rw [w64s (n := l.length) (by omega) (by omega), rdn]
  change 0 ≤ gd l i ∧ gd l i < n at hp'
  exact Ev.pos (by omega) (Ev.pos (by omega) (Ev.pos (by omega) (Ev.neg (by omega) (Ev.neg (by omega) h))))
 ·intro i hi hp
  have hp' := of_decide_eq_false hp
  change ¬ (0 ≤ gd l i ∧ gd l i < n) at hp'
  refine Ev.step (fun _ => impl_inSize.l0.eq_2 ..) ?_
  rw [rdn]
  refine Ev.pos (by omega) (Ev.pos (by omega) (Ev.pos (by omega) (Ev.ite (fun _ => Ev.now _) (fun h1 => Ev.pos (by omega) (Ev.now _)))))
theorem impl_isOp_ev (n a : Int) (l : List Int) (hn : sizeB n = true) (hl : l.length ≤ 35184372088832) : Ev (fun k => impl_isOp.f k a l n) (opB n a l) := by
 have hn' := of_decide_eq_true hn
 unfold impl_isOp.f opB
 refine Ev.ite (fun h1 => Ev.ite (fun h2 => ?_) (fun h2 => (Ev.now _).to ?_)) (fun h1 => (Ev.now _).to ?_)
 ·refine (impl_power_ev n a hn' ⟨by omega, by omega⟩).bind (Ev.ite (fun h3 => ?_) (fun h3 => (Ev.now _).to ?_))
  ·refine (impl_inSize_ev l n hl).bind ((Ev.now _).to ?_)
   rw [decide_eq_true (show 0 ≤ a ∧ a ≤ 3 by omega), decide_eq_true h3]
   simp
  ·rw [decide_eq_false h3]
   simp
 ·rw [decide_eq_false (show ¬ (0 ≤ a ∧ a ≤ 3) by omega)]
  simp
 ·rw [decide_eq_false (show ¬ (0 ≤ a ∧ a ≤ 3) by omega)]
  simp
theorem spec_l2Op_ev (n a : Int) (l : List Int) (hn : sizeB n = true) (hl : l.length ≤ 35184372088832) : Ev (fun k => spec_l2Op.f k n a l) (opB n a l) := by
 have hn' := of_decide_eq_true hn
 have loop : Ev (fun k => spec_l2Op.l0 k n 0 a l) (l.all (inB n)) := by
  refine all_loop l 0 (inB n) (fun k i => spec_l2Op.l0 k n i a l) ?_ ?_ ?_ l.length 0 (by omega)
  ·exact Ev.step (fun _ => spec_l2Op.l0.eq_2 ..) (Ev.neg (by omega) (Ev.now _))
  ·intro i r hi hp h
   have hp' := of_decide_eq_true hp
   change 0 ≤ gd l i ∧ gd l i < n at hp'
   refine Ev.step (fun _ => spec_l2Op.l0.eq_2 ..) ?_
   rw [w64s (n := l.length) (by omega) (by omega), rdn, spec_l1In_eq, w64 (by omega) (by omega)]
   refine Ev.pos (by omega) (Ev.pos (by omega) (Ev.bind1 (Ev.pos (decide_eq_true (by omega)) h)))
  ·intro i hi hp
   have hp' := of_decide_eq_false hp
   change ¬ (0 ≤ gd l i ∧ gd l i < n) at hp'
   refine Ev.step (fun _ => spec_l2Op.l0.eq_2 ..) ?_
   rw [rdn, spec_l1In_eq, w64 (by omega) (by omega)]
   refine Ev.pos (by omega) (Ev.pos (by omega) (Ev.bind1 (Ev.neg (by rw [decide_eq_true_eq]; omega) (Ev.now _))))
 unfold spec_l2Op.f opB
 rw [spec_l1In_eq]
 refine Ev.bind1 (Ev.ite (fun h1 => ?_) (fun h1 => ?_))
 ·have h1' := of_decide_eq_true h1
  refine (spec_l2Pow_ev n a hn' h1').bind ?_
  refine Ev.step (fun _ => spec_l2Op.j0.eq_2 ..) (Ev.ite (fun h2 => (Ev.now _).to ?_) (fun h2 => loop.to ?_))
  ·have : ¬ ((l.length : Int) = powI n a) := by simpa using h2
   simp [this]
  ·have : (l.length : Int) = powI n a := by simpa using h2
   rw [decide_eq_true h1', decide_eq_true this]
   simp
 ·refine Ev.step (fun _ => spec_l2Op.j0.eq_2 ..) (Ev.pos rfl ((Ev.now _).to ?_))
  simp at h1 ⊢
  omega
def argsM (n : Int) : Nat → Int → List Int
 | 0, _ => []
 | k + 1, i => argsM n k (i / n) ++ [i % n]
def valM (n : Int) (l : List Int) : Int := l.foldl (fun at_ x => at_ * n + x) 0
theorem argsM_length (n : Int) : ∀ (k : Nat) (i : Int), (argsM n k i).length = k := by
 intro k
 induction k with
 | zero => intro i; rfl
 | succ k ih => intro i; simp [argsM, ih]
theorem argsM_in {n : Int} (hn : 1 ≤ n) : ∀ (k : Nat) (i : Int), 0 ≤ i → ∀ x ∈ argsM n k i, 0 ≤ x ∧ x < n := by
 intro k
 induction k with
 | zero => intro i _ x hx; simp [argsM] at hx
 | succ k ih =>
  intro i hi x hx
  simp only [argsM, List.mem_append, List.mem_singleton] at hx
  rcases hx with hx | rfl
  ·exact ih _ (Int.ediv_nonneg hi (by omega)) x hx
  ·exact ⟨Int.emod_nonneg _ (by omega), Int.emod_lt_of_pos _ (by omega)⟩
theorem valM_snoc (n : Int) (l : List Int) (x : Int) : valM n (l ++ [x]) = valM n l * n + x := by simp [valM]
theorem rev_ind {α : Type} {P : List α → Prop} (h0 : P []) (h1 : ∀ l x, P l → P (l ++ [x])) (l : List α) : P l := by
 have key : ∀ (n : Nat) (l : List α), l.length = n → P l := by
  intro n
  induction n with
  | zero =>
   intro l hl
   have : l = [] := List.eq_nil_of_length_eq_zero hl
   subst this
   exact h0
  | succ n ih =>
   intro l hl
   have hne : l ≠ [] := fun h => by subst h; simp at hl
   rw [← List.dropLast_concat_getLast hne]
   exact h1 _ _ (ih _ (by simp [hl]))
 exact key l.length l rfl
theorem valM_in {n : Int} (hn : 1 ≤ n) (l : List Int) : (∀ x ∈ l, 0 ≤ x ∧ x < n) → 0 ≤ valM n l ∧ valM n l < n ^ l.length := by
 induction l using rev_ind with
 | h0 => intro _; simp [valM]
 | h1 l x ih =>
  intro h
  obtain ⟨h1, h2⟩ := ih (fun y hy => h y (by simp [hy]))
  obtain ⟨h3, h4⟩ := h x (by simp)
  rw [valM_snoc, List.length_append, List.length_singleton, Int.pow_succ]
  have h5 : 0 ≤ valM n l * n := Int.mul_nonneg h1 (by omega)
  have h6 : (valM n l + 1) * n ≤ n ^ l.length * n := Int.mul_le_mul_of_nonneg_right (by omega) (by omega)
  rw [Int.add_mul] at h6
  omega
theorem div_in {i n : Int} (h0 : 0 ≤ i) (hi : i ≤ 1152921504606846976) (hn : 1 ≤ n) : wrap64 (Int.tdiv i n) = i / n ∧ 0 ≤ i / n ∧ i / n ≤ i := by
 have h1 : Int.tdiv i n = i / n := Int.tdiv_eq_ediv_of_nonneg h0
 have h2 : 0 ≤ i / n := Int.ediv_nonneg h0 (by omega)
 have h3 : i / n ≤ i := Int.ediv_le_self n h0
 exact ⟨by rw [h1, w64 (by omega) (by omega)], h2, h3⟩
theorem impl_argsAt_loop (n : Int) (hn : 1 ≤ n) (k : Nat) (hk : k ≤ 8796093022208) : ∀ (j : Nat) (i : Int) (x : List Int), j ≤ k → x.length = k → 0 ≤ i → i ≤ 1152921504606846976 → Ev (fun f => impl_argsAt.l0 f i n x ((j : Int) - 1)) (argsM n j i ++ x.drop j) := by
 intro j
 induction j with
 | zero =>
  intro i x _ _ _ _
  exact Ev.step (fun _ => impl_argsAt.l0.eq_2 ..) (Ev.neg (by omega) (Ev.now _))
 | succ j ih =>
  intro i x hj hx h0 hi
  obtain ⟨e1, e2, e3⟩ := div_in h0 hi hn
  refine Ev.step (fun _ => impl_argsAt.l0.eq_2 ..) (Ev.pos (by omega) (Ev.neg (by omega) (Ev.pos (by omega) (Ev.pos (by omega) ?_))))
  rw [e1, Int.tmod_eq_emod_of_nonneg h0, show (((j + 1 : Nat) : Int) - 1).toNat = j by omega, w64 (x := ((j + 1 : Nat) : Int) - 1 - 1) (by omega) (by omega), show (((j + 1 : Nat) : Int) - 1 - 1) = (j : Int) - 1 by omega]
  refine (ih (i / n) (x.set j (i % n)) (by omega) (by simpa using hx) e2 (by omega)).to ?_
  rw [argsM, List.append_assoc]
  congr 1
  rw [List.drop_eq_getElem_cons (by simp; omega), List.drop_set_of_lt (by omega)]
  simp
theorem spec_l2Args_loop (n : Int) (hn : 1 ≤ n) (k : Nat) (hk : k ≤ 8796093022208) : ∀ (j : Nat) (i : Int) (x : List Int), j ≤ k → x.length = k → 0 ≤ i → i ≤ 1152921504606846976 → Ev (fun f => spec_l2Args.l0 f n i x ((j : Int) - 1)) (argsM n j i ++ x.drop j) := by
 intro j
 induction j with
 | zero =>
  intro i x _ _ _ _
  exact Ev.step (fun _ => spec_l2Args.l0.eq_2 ..) (Ev.neg (by omega) (Ev.now _))
 | succ j ih =>
  intro i x hj hx h0 hi
  obtain ⟨e1, e2, e3⟩ := div_in h0 hi hn
  refine Ev.step (fun _ => spec_l2Args.l0.eq_2 ..) (Ev.pos (by omega) (Ev.neg (by omega) (Ev.pos (by omega) (Ev.pos (by omega) ?_))))
  rw [e1, Int.tmod_eq_emod_of_nonneg h0, show (((j + 1 : Nat) : Int) - 1).toNat = j by omega, w64 (x := ((j + 1 : Nat) : Int) - 1 - 1) (by omega) (by omega), show (((j + 1 : Nat) : Int) - 1 - 1) = (j : Int) - 1 by omega]
  refine (ih (i / n) (x.set j (i % n)) (by omega) (by simpa using hx) e2 (by omega)).to ?_
  rw [argsM, List.append_assoc]
  congr 1
  rw [List.drop_eq_getElem_cons (by simp; omega), List.drop_set_of_lt (by omega)]
  simp
theorem grow_in {n a x : Int} (hn : 1 ≤ n ∧ n ≤ 8) (ha : 0 ≤ a ∧ a ≤ 1048576) (hx : 0 ≤ x ∧ x < n) : wrap64 (wrap64 (a * n) + x) = a * n + x := by
 have h1 : 0 ≤ a * n := Int.mul_nonneg ha.1 (by omega)
 have h2 : a * n ≤ 1048576 * 8 := Int.mul_le_mul ha.2 hn.2 (by omega) (by omega)
 rw [w64 (x := a * n) (by omega) (by omega), w64 (by omega) (by omega)]
theorem pow_le3 {n : Int} (hn : 1 ≤ n ∧ n ≤ 8) {k : Nat} (hk : k ≤ 3) : n ^ k ≤ 512 := by
 have h1 : n = 1 ∨ n = 2 ∨ n = 3 ∨ n = 4 ∨ n = 5 ∨ n = 6 ∨ n = 7 ∨ n = 8 := by omega
 have h2 : k = 0 ∨ k = 1 ∨ k = 2 ∨ k = 3 := by omega
 rcases h1 with rfl | rfl | rfl | rfl | rfl | rfl | rfl | rfl <;> rcases h2 with rfl | rfl | rfl | rfl <;> decide
theorem impl_indexOf_loop (n : Int) (args : List Int) (hn : 1 ≤ n ∧ n ≤ 8) (ha : ∀ x ∈ args, 0 ≤ x ∧ x < n) (hl : args.length ≤ 3) : ∀ (d i : Nat), i + d = args.length → Ev (fun k => impl_indexOf.l0 k n (valM n (args.take i)) args (args.length : Int) (i : Int)) (valM n args) := by
 intro d
 induction d with
 | zero =>
  intro i hi
  refine Ev.step (fun _ => impl_indexOf.l0.eq_2 ..) (Ev.neg (by omega) ?_)
  rw [List.take_of_length_le (by omega)]
  exact Ev.now _
 | succ d ih =>
  intro i hi
  have hx := ha (gd args i) (by rw [gd_lt (by omega)]; exact List.getElem_mem _)
  have hvi := valM_in hn.1 (args.take i) (fun x h => ha x (List.mem_of_mem_take h))
  have h512 := pow_le3 hn (k := (args.take i).length) (by simp; omega)
  refine Ev.step (fun _ => impl_indexOf.l0.eq_2 ..) (Ev.pos (by omega) (Ev.pos (by omega) (Ev.pos (by omega) ?_)))
  rw [rdn, grow_in hn ⟨hvi.1, by omega⟩ hx, w64s (n := args.length) (by omega) (by omega), ← valM_snoc, take_snoc _ (by omega)]
  exact ih (i + 1) (by omega)
theorem impl_indexOf_ev (n : Int) (args : List Int) (hn : 1 ≤ n ∧ n ≤ 8) (ha : ∀ x ∈ args, 0 ≤ x ∧ x < n) (hl : args.length ≤ 3) : Ev (fun k => impl_indexOf.f k args n) (valM n args) := by
 unfold impl_indexOf.f
 exact impl_indexOf_loop n args hn ha hl args.length 0 (by omega)
theorem opB_of {n a : Int} {l : List Int} (h : opB n a l = true) : ∃ k : Nat, a = k ∧ k ≤ 3 ∧ (l.length : Int) = n ^ k ∧ ∀ x ∈ l, 0 ≤ x ∧ x < n := by
 simp only [opB, Bool.and_eq_true, decide_eq_true_eq, List.all_eq_true, inB] at h
 refine ⟨a.toNat, by omega, by omega, h.2.1, h.2.2⟩
theorem laws_szIntS_eq (l : List Int) (t : Int) (hl : l.length ≤ maxLen) (ht : 0 ≤ t ∧ t ≤ 1048576) : ∃ r, laws_szIntS.f l t = some r ∧ -1 ≤ r ∧ (0 ≤ r → r = t - l.length) ∧ (r < 0 → t < (l.length : Int)) := by
 unfold maxLen at hl
 unfold laws_szIntS.f
 rw [w64 (by omega) (by omega)]
 split
 ·exact ⟨-1, rfl, by omega, by omega, by omega⟩
 ·exact ⟨_, rfl, by omega, by omega, by omega⟩
theorem laws_szOp_eq (a : Int) (l : List Int) (t : Int) (hl : l.length ≤ maxLen) (ht : 0 ≤ t ∧ t ≤ 1048576) : ∃ r, laws_szOp.f a l t = some r ∧ -1 ≤ r ∧ (0 ≤ r → r = t - l.length) ∧ (r < 0 → t < (l.length : Int)) := by
 obtain ⟨r, hr, h1, h2, h3⟩ := laws_szIntS_eq l t hl ht
 unfold laws_szOp.f
 rw [hr]
 simp only [Option.bind_some]
 split
 ·exact ⟨-1, rfl, by omega, by omega, fun _ => h3 (by omega)⟩
 ·exact ⟨r, rfl, h1, h2, h3⟩
theorem laws_toOp_ev (a : Int) (l : List Int) (hl : l.length ≤ 35184372088832) : Ev (fun k => laws_toOp.f k a l) (a, l) := by
 unfold laws_toOp.f
 exact (toIntS_ev l hl).bind (Ev.now _)
theorem laws_eqOp_same (a : Int) (l : List Int) (hl : l.length ≤ 35184372088832) : Ev (fun k => laws_eqOp.f k a l a l) true := by
 unfold laws_eqOp.f
 exact Ev.pos rfl ((eqIntS_same l hl).bind (Ev.pos rfl (Ev.now _)))
theorem rdi (l : List Int) {i : Int} (h : 0 ≤ i) : rd l i = gd l i.toNat := by
 obtain ⟨j, rfl⟩ : ∃ j : Nat, i = (j : Int) := ⟨i.toNat, by omega⟩
 rw [rdn, Int.toNat_natCast]
theorem commute_pow (n : Int) (N : Nat) (hn : 1 ≤ n ∧ n ≤ 4) (hN : N ≤ 4) : Ev (fun f => impl_power.f f n N) (n ^ N) ∧ Ev (fun f => spec_l2Pow.f f n N) (n ^ N) ∧ 1 ≤ n ^ N ∧ n ^ N ≤ 256 := by
 have h1 : n = 1 ∨ n = 2 ∨ n = 3 ∨ n = 4 := by omega
 have h2 : N = 0 ∨ N = 1 ∨ N = 2 ∨ N = 3 ∨ N = 4 := by omega
 refine ⟨Ev.of (fun f => impl_power.mono n N f) (k := 6) ?_, Ev.of (fun f => spec_l2Pow.mono n N f) (k := 6) ?_, ?_, ?_⟩ <;> rcases h1 with rfl | rfl | rfl | rfl <;> rcases h2 with rfl | rfl | rfl | rfl | rfl <;> decide +kernel
theorem commute_args (n : Int) (N : Nat) (i : Int) (hn : 1 ≤ n) (hN : N ≤ 4) (h0 : 0 ≤ i) (h1 : i ≤ 1048576) : Ev (fun f => impl_argsAt.f f i (N : Int) n) (argsM n N i) ∧ Ev (fun f => spec_l2Args.f f n (N : Int) i) (argsM n N i) := by
 constructor
 ·unfold impl_argsAt.f
  refine Ev.pos (by omega) (Ev.pos (by omega) ?_)
  rw [w64 (by omega) (by omega)]
  exact (impl_argsAt_loop n hn N (by omega) N i _ (Nat.le_refl _) (by simp) h0 (by omega)).to (by simp)
 ·unfold spec_l2Args.f
  refine Ev.pos (by omega) (Ev.pos (by omega) ?_)
  rw [w64 (by omega) (by omega)]
  exact (spec_l2Args_loop n hn N (by omega) N i _ (Nat.le_refl _) (by simp) h0 (by omega)).to (by simp)
theorem acc_loop {γ : Type} (n : Int) (m : Nat) (f : Nat → Int) (L : Nat → Int → Int → Option γ) (r : γ) (hend : Ev (fun k => L k (valM n ((List.range m).map f)) (m : Int)) r)
  (hstep : ∀ (j : Nat) (a : Int), j < m → a = valM n ((List.range j).map f) → Ev (fun k => L k (a * n + f j) ((j + 1 : Nat) : Int)) r → Ev (fun k => L k a (j : Int)) r) :
  ∀ (d j : Nat), j + d = m → Ev (fun k => L k (valM n ((List.range j).map f)) (j : Int)) r := by
 intro d
 induction d with
 | zero =>
  intro j hj
  have : j = m := by omega
  subst this
  exact hend
 | succ d ih =>
  intro j hj
  refine hstep j _ (by omega) rfl ?_
  have := ih (j + 1) (by omega)
  rw [List.range_succ, List.map_append, List.map_cons, List.map_nil, valM_snoc] at this
  exact this
def rowC (c : List Int) (s j : Nat) : List Int := (List.range s).map fun k => gd c (j * s + k)
def colC (c : List Int) (r s k : Nat) : List Int := (List.range r).map fun j => gd c (j * s + k)
def byR (n : Int) (c : List Int) (r s : Nat) (G : List Int) : List Int := (List.range r).map fun j => gd G (valM n (rowC c s j)).toNat
def byC (n : Int) (c : List Int) (r s : Nat) (F : List Int) : List Int := (List.range s).map fun k => gd F (valM n (colC c r s k)).toNat
def commAt (n : Int) (r s : Nat) (F G : List Int) (i : Nat) : Bool := decide (gd F (valM n (byR n (argsM n (r * s) (i : Int)) r s G)).toNat = gd G (valM n (byC n (argsM n (r * s) (i : Int)) r s F)).toNat)
def commB (n : Int) (r s : Nat) (F G : List Int) : Bool := (List.range' 0 (n ^ (r * s)).toNat).all (commAt n r s F G)
structure CommOk (n : Int) (r s : Nat) (F G : List Int) : Prop where
 n1 : 1 ≤ n
 n4 : n ≤ 4
 r2 : r ≤ 2
 s2 : s ≤ 2
 fl : (F.length : Int) = n ^ r
 gl : (G.length : Int) = n ^ s
 fi : ∀ x ∈ F, 0 ≤ x ∧ x < n
 gi : ∀ x ∈ G, 0 ≤ x ∧ x < n
theorem comm_rs {r s : Nat} (hr : r ≤ 2) (hs : s ≤ 2) : r * s ≤ 4 := Nat.mul_le_mul hr hs
theorem comm_idx {r s j k : Nat} (hj : j < r) (hk : k < s) : j * s + k < r * s := by
 have := Nat.mul_le_mul_right s (show j + 1 ≤ r from hj)
 rw [Nat.add_mul] at this
 omega
theorem comm_row {n : Int} {r s : Nat} {F G : List Int} (h : CommOk n r s F G) (i : Nat) {j : Nat} (hj : j < r) : (∀ x ∈ rowC (argsM n (r * s) (i : Int)) s j, 0 ≤ x ∧ x < n) ∧ 0 ≤ valM n (rowC (argsM n (r * s) (i : Int)) s j) ∧ valM n (rowC (argsM n (r * s) (i : Int)) s j) < (G.length : Int) ∧ 0 ≤ gd G (valM n (rowC (argsM n (r * s) (i : Int)) s j)).toNat ∧ gd G (valM n (rowC (argsM n (r * s) (i : Int)) s j)).toNat < n := by
 have h1 : ∀ x ∈ rowC (argsM n (r * s) (i : Int)) s j, 0 ≤ x ∧ x < n := fun x hx => by
  obtain ⟨k, hk, rfl⟩ := List.mem_map.1 hx
  have hk' := List.mem_range.1 hk
  have := comm_idx hj hk'
  rw [gd_lt (by rw [argsM_length]; exact this)]
  exact argsM_in h.n1 (r * s) (i : Int) (by omega) _ (List.getElem_mem _)
 have hv := valM_in h.n1 _ h1
 rw [show (rowC (argsM n (r * s) (i : Int)) s j).length = s by simp [rowC], ← h.gl] at hv
 have hg := h.gi (gd G (valM n (rowC (argsM n (r * s) (i : Int)) s j)).toNat) (by rw [gd_lt (by omega)]; exact List.getElem_mem _)
 exact ⟨h1, hv.1, hv.2, hg⟩
theorem comm_col {n : Int} {r s : Nat} {F G : List Int} (h : CommOk n r s F G) (i : Nat) {k : Nat} (hk : k < s) : (∀ x ∈ colC (argsM n (r * s) (i : Int)) r s k, 0 ≤ x ∧ x < n) ∧ 0 ≤ valM n (colC (argsM n (r * s) (i : Int)) r s k) ∧ valM n (colC (argsM n (r * s) (i : Int)) r s k) < (F.length : Int) ∧ 0 ≤ gd F (valM n (colC (argsM n (r * s) (i : Int)) r s k)).toNat ∧ gd F (valM n (colC (argsM n (r * s) (i : Int)) r s k)).toNat < n := by
 have h1 : ∀ x ∈ colC (argsM n (r * s) (i : Int)) r s k, 0 ≤ x ∧ x < n := fun x hx => by
  obtain ⟨j, hj, rfl⟩ := List.mem_map.1 hx
  have hj' := List.mem_range.1 hj
  have := comm_idx hj' hk
  rw [gd_lt (by rw [argsM_length]; exact this)]
  exact argsM_in h.n1 (r * s) (i : Int) (by omega) _ (List.getElem_mem _)
 have hv := valM_in h.n1 _ h1
 rw [show (colC (argsM n (r * s) (i : Int)) r s k).length = r by simp [colC], ← h.fl] at hv
 have hg := h.fi (gd F (valM n (colC (argsM n (r * s) (i : Int)) r s k)).toNat) (by rw [gd_lt (by omega)]; exact List.getElem_mem _)
 exact ⟨h1, hv.1, hv.2, hg⟩
theorem comm_end {n : Int} {r s : Nat} {F G : List Int} (h : CommOk n r s F G) (i : Nat) : 0 ≤ valM n (byR n (argsM n (r * s) (i : Int)) r s G) ∧ valM n (byR n (argsM n (r * s) (i : Int)) r s G) < (F.length : Int) ∧ 0 ≤ valM n (byC n (argsM n (r * s) (i : Int)) r s F) ∧ valM n (byC n (argsM n (r * s) (i : Int)) r s F) < (G.length : Int) := by
 have h1 : ∀ x ∈ byR n (argsM n (r * s) (i : Int)) r s G, 0 ≤ x ∧ x < n := fun x hx => by
  obtain ⟨j, hj, rfl⟩ := List.mem_map.1 hx
  exact (comm_row h i (List.mem_range.1 hj)).2.2.2
 have h2 : ∀ x ∈ byC n (argsM n (r * s) (i : Int)) r s F, 0 ≤ x ∧ x < n := fun x hx => by
  obtain ⟨k, hk, rfl⟩ := List.mem_map.1 hx
  exact (comm_col h i (List.mem_range.1 hk)).2.2.2
 have v1 := valM_in h.n1 _ h1
 have v2 := valM_in h.n1 _ h2
 rw [show (byR n (argsM n (r * s) (i : Int)) r s G).length = r by simp [byR], ← h.fl] at v1
 rw [show (byC n (argsM n (r * s) (i : Int)) r s F).length = s by simp [byC], ← h.gl] at v2
 exact ⟨v1.1, v1.2, v2.1, v2.2⟩
theorem acc_small {n : Int} (hn : 1 ≤ n ∧ n ≤ 4) {m j : Nat} (hm : m ≤ 2) (hj : j < m) (f : Nat → Int) (hf : ∀ i, i < m → 0 ≤ f i ∧ f i < n) : 0 ≤ valM n ((List.range j).map f) ∧ valM n ((List.range j).map f) ≤ 1048576 := by
 have h1 : ∀ x ∈ (List.range j).map f, 0 ≤ x ∧ x < n := fun x hx => by
  obtain ⟨i, hi, rfl⟩ := List.mem_map.1 hx
  have := List.mem_range.1 hi
  exact hf i (by omega)
 have hv := valM_in hn.1 _ h1
 have := pow_le3 (n := n) ⟨hn.1, by omega⟩ (k := ((List.range j).map f).length) (by simp; omega)
 omega
theorem mul_w {j s : Nat} (hj : j ≤ 2) (hs : s ≤ 2) : wrap64 ((j : Int) * (s : Int)) = ((j * s : Nat) : Int) := by
 have := Nat.mul_le_mul hj hs
 rw [← Int.natCast_mul, w64 (by omega) (by omega)]
theorem row_cut {c : List Int} {s j : Nat} (h : (j + 1) * s ≤ c.length) : (c.take ((j + 1) * s)).drop (j * s) = rowC c s j := by
 have e : (j + 1) * s = j * s + s := by rw [Nat.add_mul, Nat.one_mul]
 refine ext_gd (by simp [rowC]; omega) (fun k hk => ?_)
 have hk' : k < s := by simp at hk; omega
 rw [gd_lt hk, List.getElem_drop, List.getElem_take]
 simp [rowC, gd, List.getD, hk', show j * s + k < c.length by omega]
theorem comm_col_acc {n : Int} {r s : Nat} {F G : List Int} (h : CommOk n r s F G) (i : Nat) {k : Nat} (hk : k < s) : ∀ j, j < r → 0 ≤ gd (argsM n (r * s) (i : Int)) (j * s + k) ∧ gd (argsM n (r * s) (i : Int)) (j * s + k) < n := fun j hj => by
 have := comm_idx hj hk
 rw [gd_lt (by rw [argsM_length]; exact this)]
 exact argsM_in h.n1 (r * s) (i : Int) (by omega) _ (List.getElem_mem _)
theorem impl_DoCommute_loop {n : Int} {r s : Nat} {F G : List Int} (h : CommOk n r s F G) : ∀ (d i : Nat), i + d = (n ^ (r * s)).toNat → Ev (fun k => impl_DoCommute.l0 k n (r : Int) (s : Int) (i : Int) (r : Int) F (s : Int) G) ((List.range' i d).all (commAt n r s F G), true) := by
 have hrs := comm_rs h.r2 h.s2
 obtain ⟨n1, n4, r2, s2, fl, gl, fi, gi⟩ := h
 have h : CommOk n r s F G := ⟨n1, n4, r2, s2, fl, gl, fi, gi⟩
 obtain ⟨p1, p2, p3, p4⟩ := commute_pow n (r * s) ⟨n1, n4⟩ hrs
 intro d
 induction d with
 | zero =>
  intro i hi
  refine Ev.step (fun _ => impl_DoCommute.l0.eq_2 ..) ?_
  rw [mul_w r2 s2]
  exact p1.bind (Ev.neg (by omega) (Ev.now _))
 | succ d ih =>
  intro i hi
  obtain ⟨e1, e2, e3, e4⟩ := comm_end h i
  have hal := argsM_length n (r * s) (i : Int)
  refine Ev.step (fun _ => impl_DoCommute.l0.eq_2 ..) ?_
  rw [mul_w r2 s2]
  refine p1.bind (Ev.pos (by omega) ((commute_args n (r * s) (i : Int) n1 hrs (by omega) (by omega)).1.bind ?_))
  have fin : Ev (fun k => impl_DoCommute.l2 k n (r : Int) (s : Int) (i : Int) (argsM n (r * s) (i : Int)) (valM n (byR n (argsM n (r * s) (i : Int)) r s G)) (valM n (byC n (argsM n (r * s) (i : Int)) r s F)) (s : Int) (r : Int) F (s : Int) G) ((List.range' i (d + 1)).all (commAt n r s F G), true) := by
   refine Ev.step (fun _ => impl_DoCommute.l2.eq_2 ..) (Ev.neg (by omega) (Ev.pos e1 (Ev.pos e2 (Ev.pos e3 (Ev.pos e4 ?_)))))
   rw [rdi F e1, rdi G e3, w64s (i := i) (n := 1000) (by omega) (by omega), List.range'_succ, List.all_cons]
   refine Ev.ite (fun hc => (ih (i + 1) (by omega)).to ?_) (fun hc => (Ev.now _).to ?_)
   ·rw [show commAt n r s F G i = true from decide_eq_true hc, Bool.true_and]
   ·rw [show commAt n r s F G i = false from decide_eq_false hc, Bool.false_and]
  have cols : Ev (fun k => impl_DoCommute.l2 k n (r : Int) (s : Int) (i : Int) (argsM n (r * s) (i : Int)) (valM n (byR n (argsM n (r * s) (i : Int)) r s G)) 0 0 (r : Int) F (s : Int) G) ((List.range' i (d + 1)).all (commAt n r s F G), true) := by
   refine acc_loop n s (fun k => gd F (valM n (colC (argsM n (r * s) (i : Int)) r s k)).toNat) (fun g a k => impl_DoCommute.l2 g n (r : Int) (s : Int) (i : Int) (argsM n (r * s) (i : Int)) (valM n (byR n (argsM n (r * s) (i : Int)) r s G)) a k (r : Int) F (s : Int) G) _ fin ?_ s 0 (by omega)
   intro k a hk ha hh
   obtain ⟨c1, c2, c3, c4, c5⟩ := comm_col h i hk
   have hsm := acc_small ⟨n1, n4⟩ s2 hk (fun k => gd F (valM n (colC (argsM n (r * s) (i : Int)) r s k)).toNat) (fun z hz => (comm_col h i hz).2.2.2)
   rw [← ha] at hsm
   refine Ev.step (fun _ => impl_DoCommute.l2.eq_2 ..) (Ev.pos (by omega) ?_)
   refine acc_loop n r (fun j => gd (argsM n (r * s) (i : Int)) (j * s + k)) (fun g b j => impl_DoCommute.l3 g n (r : Int) (s : Int) (i : Int) (argsM n (r * s) (i : Int)) (valM n (byR n (argsM n (r * s) (i : Int)) r s G)) a (k : Int) b j (r : Int) F (s : Int) G) _ ?_ ?_ r 0 (by omega)
   ·refine Ev.step (fun _ => impl_DoCommute.l3.eq_2 ..) (Ev.neg (by omega) (Ev.pos c2 (Ev.pos c3 ?_)))
    rw [rdi F (show 0 ≤ valM n ((List.range r).map fun j => gd (argsM n (r * s) (i : Int)) (j * s + k)) from c2), w64s (i := k) (n := 1000) (by omega) (by omega)]
    rw [show ((List.range r).map fun j => gd (argsM n (r * s) (i : Int)) (j * s + k)) = colC (argsM n (r * s) (i : Int)) r s k from rfl]
    rw [grow_in ⟨n1, by omega⟩ hsm ⟨c4, c5⟩]
    exact hh
   ·intro j b hj hb hh2
    have hix := comm_idx hj hk
    have hv := comm_col_acc h i hk j hj
    have hsm2 := acc_small ⟨n1, n4⟩ r2 hj (fun j => gd (argsM n (r * s) (i : Int)) (j * s + k)) (comm_col_acc h i hk)
    rw [← hb] at hsm2
    refine Ev.step (fun _ => impl_DoCommute.l3.eq_2 ..) (Ev.pos (by omega) ?_)
    rw [mul_w (by omega) s2, show wrap64 (((j * s : Nat) : Int) + (k : Int)) = ((j * s + k : Nat) : Int) by rw [w64 (by omega) (by omega)]; omega, rdn, grow_in ⟨n1, by omega⟩ hsm2 hv, w64s (i := j) (n := 1000) (by omega) (by omega)]
    exact Ev.pos (by omega) (Ev.pos (by omega) hh2)
  refine acc_loop n r (fun j => gd G (valM n (rowC (argsM n (r * s) (i : Int)) s j)).toNat) (fun g a j => impl_DoCommute.l1 g n (r : Int) (s : Int) (i : Int) (argsM n (r * s) (i : Int)) a 0 j (r : Int) F (s : Int) G) _ ?_ ?_ r 0 (by omega)
  ·exact Ev.step (fun _ => impl_DoCommute.l1.eq_2 ..) (Ev.neg (by omega) cols)
  ·intro j a hj ha hh
   obtain ⟨c1, c2, c3, c4, c5⟩ := comm_row h i hj
   have hsm := acc_small ⟨n1, n4⟩ r2 hj (fun j => gd G (valM n (rowC (argsM n (r * s) (i : Int)) s j)).toNat) (fun z hz => (comm_row h i hz).2.2.2)
   rw [← ha] at hsm
   have hle : (j + 1) * s ≤ r * s := Nat.mul_le_mul_right s hj
   have hle2 : j * s ≤ (j + 1) * s := Nat.mul_le_mul_right s (Nat.le_succ j)
   refine Ev.step (fun _ => impl_DoCommute.l1.eq_2 ..) (Ev.pos (by omega) ?_)
   rw [w64s (i := j) (n := 1000) (by omega) (by omega), mul_w (by omega) s2, mul_w (by omega) s2, Int.toNat_natCast, Int.toNat_natCast, row_cut (by omega)]
   refine Ev.pos (by omega) (Ev.pos (by omega) (Ev.pos (by omega) ((impl_indexOf_ev n _ ⟨n1, by omega⟩ c1 (by simp [rowC]; omega)).bind (Ev.pos c2 (Ev.pos c3 ?_)))))
   rw [rdi G c2, grow_in ⟨n1, by omega⟩ hsm ⟨c4, c5⟩]
   exact hh
theorem spec_l12Commute_loop {n : Int} {r s : Nat} {F G : List Int} (h : CommOk n r s F G) : ∀ (d i : Nat), i + d = (n ^ (r * s)).toNat → Ev (fun k => spec_l12Commute.l0 k n (r : Int) (s : Int) (i : Int) (r : Int) F (s : Int) G) ((List.range' i d).all (commAt n r s F G)) := by
 have hrs := comm_rs h.r2 h.s2
 obtain ⟨n1, n4, r2, s2, fl, gl, fi, gi⟩ := h
 have h : CommOk n r s F G := ⟨n1, n4, r2, s2, fl, gl, fi, gi⟩
 obtain ⟨p1, p2, p3, p4⟩ := commute_pow n (r * s) ⟨n1, n4⟩ hrs
 intro d
 induction d with
 | zero =>
  intro i hi
  refine Ev.step (fun _ => spec_l12Commute.l0.eq_2 ..) ?_
  rw [mul_w r2 s2]
  exact p2.bind (Ev.neg (by omega) (Ev.now _))
 | succ d ih =>
  intro i hi
  obtain ⟨e1, e2, e3, e4⟩ := comm_end h i
  have hal := argsM_length n (r * s) (i : Int)
  refine Ev.step (fun _ => spec_l12Commute.l0.eq_2 ..) ?_
  rw [mul_w r2 s2]
  refine p2.bind (Ev.pos (by omega) ((commute_args n (r * s) (i : Int) n1 hrs (by omega) (by omega)).2.bind ?_))
  have fin : Ev (fun k => spec_l12Commute.l3 k n (r : Int) (s : Int) (i : Int) (argsM n (r * s) (i : Int)) (valM n (byR n (argsM n (r * s) (i : Int)) r s G)) (valM n (byC n (argsM n (r * s) (i : Int)) r s F)) (s : Int) (r : Int) F (s : Int) G) ((List.range' i (d + 1)).all (commAt n r s F G)) := by
   refine Ev.step (fun _ => spec_l12Commute.l3.eq_2 ..) (Ev.neg (by omega) (Ev.pos e1 (Ev.pos e2 (Ev.pos e3 (Ev.pos e4 ?_)))))
   rw [rdi F e1, rdi G e3, w64s (i := i) (n := 1000) (by omega) (by omega), List.range'_succ, List.all_cons]
   refine Ev.ite (fun hc => (ih (i + 1) (by omega)).to ?_) (fun hc => (Ev.now _).to ?_)
   ·rw [show commAt n r s F G i = true from decide_eq_true hc, Bool.true_and]
   ·rw [show commAt n r s F G i = false from decide_eq_false hc, Bool.false_and]
  have cols : Ev (fun k => spec_l12Commute.l3 k n (r : Int) (s : Int) (i : Int) (argsM n (r * s) (i : Int)) (valM n (byR n (argsM n (r * s) (i : Int)) r s G)) 0 0 (r : Int) F (s : Int) G) ((List.range' i (d + 1)).all (commAt n r s F G)) := by
   refine acc_loop n s (fun k => gd F (valM n (colC (argsM n (r * s) (i : Int)) r s k)).toNat) (fun g a k => spec_l12Commute.l3 g n (r : Int) (s : Int) (i : Int) (argsM n (r * s) (i : Int)) (valM n (byR n (argsM n (r * s) (i : Int)) r s G)) a k (r : Int) F (s : Int) G) _ fin ?_ s 0 (by omega)
   intro k a hk ha hh
   obtain ⟨c1, c2, c3, c4, c5⟩ := comm_col h i hk
   have hsm := acc_small ⟨n1, n4⟩ s2 hk (fun k => gd F (valM n (colC (argsM n (r * s) (i : Int)) r s k)).toNat) (fun z hz => (comm_col h i hz).2.2.2)
   rw [← ha] at hsm
   refine Ev.step (fun _ => spec_l12Commute.l3.eq_2 ..) (Ev.pos (by omega) ?_)
   refine acc_loop n r (fun j => gd (argsM n (r * s) (i : Int)) (j * s + k)) (fun g b j => spec_l12Commute.l4 g n (r : Int) (s : Int) (i : Int) (argsM n (r * s) (i : Int)) (valM n (byR n (argsM n (r * s) (i : Int)) r s G)) a (k : Int) b j (r : Int) F (s : Int) G) _ ?_ ?_ r 0 (by omega)
   ·refine Ev.step (fun _ => spec_l12Commute.l4.eq_2 ..) (Ev.neg (by omega) (Ev.pos c2 (Ev.pos c3 ?_)))
    rw [rdi F (show 0 ≤ valM n ((List.range r).map fun j => gd (argsM n (r * s) (i : Int)) (j * s + k)) from c2), w64s (i := k) (n := 1000) (by omega) (by omega)]
    rw [show ((List.range r).map fun j => gd (argsM n (r * s) (i : Int)) (j * s + k)) = colC (argsM n (r * s) (i : Int)) r s k from rfl]
    rw [grow_in ⟨n1, by omega⟩ hsm ⟨c4, c5⟩]
    exact hh
   ·intro j b hj hb hh2
    have hix := comm_idx hj hk
    have hv := comm_col_acc h i hk j hj
    have hsm2 := acc_small ⟨n1, n4⟩ r2 hj (fun j => gd (argsM n (r * s) (i : Int)) (j * s + k)) (comm_col_acc h i hk)
    rw [← hb] at hsm2
    refine Ev.step (fun _ => spec_l12Commute.l4.eq_2 ..) (Ev.pos (by omega) ?_)
    rw [mul_w (by omega) s2, show wrap64 (((j * s : Nat) : Int) + (k : Int)) = ((j * s + k : Nat) : Int) by rw [w64 (by omega) (by omega)]; omega, rdn, grow_in ⟨n1, by omega⟩ hsm2 hv, w64s (i := j) (n := 1000) (by omega) (by omega)]
    exact Ev.pos (by omega) (Ev.pos (by omega) hh2)
  refine acc_loop n r (fun j => gd G (valM n (rowC (argsM n (r * s) (i : Int)) s j)).toNat) (fun g a j => spec_l12Commute.l1 g n (r : Int) (s : Int) (i : Int) (argsM n (r * s) (i : Int)) a 0 j (r : Int) F (s : Int) G) _ ?_ ?_ r 0 (by omega)
  ·exact Ev.step (fun _ => spec_l12Commute.l1.eq_2 ..) (Ev.neg (by omega) cols)
  ·intro j a hj ha hh
   obtain ⟨c1, c2, c3, c4, c5⟩ := comm_row h i hj
   have hsm := acc_small ⟨n1, n4⟩ r2 hj (fun j => gd G (valM n (rowC (argsM n (r * s) (i : Int)) s j)).toNat) (fun z hz => (comm_row h i hz).2.2.2)
   rw [← ha] at hsm
   refine Ev.step (fun _ => spec_l12Commute.l1.eq_2 ..) (Ev.pos (by omega) ?_)
   refine acc_loop n s (fun k => gd (argsM n (r * s) (i : Int)) (j * s + k)) (fun g b k => spec_l12Commute.l2 g n (r : Int) (s : Int) (i : Int) (argsM n (r * s) (i : Int)) a 0 (j : Int) b k (r : Int) F (s : Int) G) _ ?_ ?_ s 0 (by omega)
   ·refine Ev.step (fun _ => spec_l12Commute.l2.eq_2 ..) (Ev.neg (by omega) (Ev.pos c2 (Ev.pos c3 ?_)))
    rw [rdi G (show 0 ≤ valM n ((List.range s).map fun k => gd (argsM n (r * s) (i : Int)) (j * s + k)) from c2), w64s (i := j) (n := 1000) (by omega) (by omega)]
    rw [show ((List.range s).map fun k => gd (argsM n (r * s) (i : Int)) (j * s + k)) = rowC (argsM n (r * s) (i : Int)) s j from rfl]
    rw [grow_in ⟨n1, by omega⟩ hsm ⟨c4, c5⟩]
    exact hh
   ·intro k b hk hb hh2
    have hix := comm_idx hj hk
    have hacc : ∀ z, z < s → 0 ≤ gd (argsM n (r * s) (i : Int)) (j * s + z) ∧ gd (argsM n (r * s) (i : Int)) (j * s + z) < n := fun z hz => comm_col_acc h i hz j hj
    have hsm2 := acc_small ⟨n1, n4⟩ s2 hk (fun k => gd (argsM n (r * s) (i : Int)) (j * s + k)) hacc
    rw [← hb] at hsm2
    refine Ev.step (fun _ => spec_l12Commute.l2.eq_2 ..) (Ev.pos (by omega) ?_)
    rw [mul_w (by omega) s2, show wrap64 (((j * s : Nat) : Int) + (k : Int)) = ((j * s + k : Nat) : Int) by rw [w64 (by omega) (by omega)]; omega, rdn, grow_in ⟨n1, by omega⟩ hsm2 (hacc k hk), w64s (i := k) (n := 1000) (by omega) (by omega)]
    exact Ev.pos (by omega) (Ev.pos (by omega) hh2)
def commP (n a : Int) (F : List Int) (b : Int) (G : List Int) : Prop := (1 ≤ n ∧ n ≤ 4) ∧ (opB n a F = true ∧ opB n b G = true) ∧ a ≤ 2 ∧ b ≤ 2
noncomputable def commM (n a : Int) (F : List Int) (b : Int) (G : List Int) : Bool × Bool := @ite _ (commP n a F b G) (Classical.propDecidable _) (commB n a.toNat b.toNat F G, true) (false, false)
theorem commM_no {n a b : Int} {F G : List Int} (h : ¬ commP n a F b G) : commM n a F b G = (false, false) := by rw [commM, if_neg h]
theorem commM_yes {n a b : Int} {F G : List Int} (h : commP n a F b G) : commM n a F b G = (commB n a.toNat b.toNat F G, true) := by rw [commM, if_pos h]
theorem comm_ok {n a b : Int} {F G : List Int} (h : commP n a F b G) : ∃ r s : Nat, a = r ∧ b = s ∧ CommOk n r s F G := by
 obtain ⟨hn, ⟨h1, h2⟩, ha, hb⟩ := h
 obtain ⟨r, rfl, _, f3, f4⟩ := opB_of h1
 obtain ⟨s, rfl, _, g3, g4⟩ := opB_of h2
 exact ⟨r, s, rfl, rfl, hn.1, hn.2, by omega, by omega, f3, g3, f4, g4⟩
theorem impl_DoCommute_ev (n a : Int) (F : List Int) (b : Int) (G : List Int) (hF : F.length ≤ 1048576) (hG : G.length ≤ 1048576) : Ev (fun k => impl_DoCommute.f k n a F b G) (commM n a F b G) := by
 have no : ∀ z, z = true → ¬ commP n a F b G → Ev (fun k => impl_DoCommute.j0 k n z a F b G) (commM n a F b G) := fun z hz h =>
  Ev.step (fun _ => impl_DoCommute.j0.eq_2 ..) (Ev.pos hz ((Ev.now _).to (commM_no h).symm))
 unfold impl_DoCommute.f
 refine Ev.ite (fun h => no _ rfl (fun h' => by have := h'.1; omega)) (fun h => Ev.ite (fun h1 => no _ rfl (fun h' => by have := h'.1; omega)) (fun h1 => ?_))
 have hs : sizeB n = true := decide_eq_true (by omega)
 refine (impl_isOp_ev n a F hs (by omega)).bind (Ev.ite (fun h2 => ?_) (fun h2 => no _ rfl (fun h' => h2 h'.2.1.1)))
 refine (impl_isOp_ev n b G hs (by omega)).bind (Ev.ite (fun h3 => ?_) (fun h3 => no _ rfl (fun h' => h3 h'.2.1.2)))
 refine Ev.ite (fun h4 => no _ rfl (fun h' => by have := h'.2.2; omega)) (fun h4 => ?_)
 by_cases h5 : b > 2
 ·exact no _ (decide_eq_true h5) (fun h' => by have := h'.2.2; omega)
 ·have hp : commP n a F b G := ⟨by omega, ⟨h2, h3⟩, by omega, by omega⟩
  obtain ⟨r, s, rfl, rfl, ok⟩ := comm_ok hp
  rw [commM_yes hp, Int.toNat_natCast, Int.toNat_natCast]
  refine Ev.step (fun _ => impl_DoCommute.j0.eq_2 ..) (Ev.neg (by simpa using h5) ?_)
  exact impl_DoCommute_loop ok (n ^ (r * s)).toNat 0 (by omega)
theorem spec_DoCommute_ev (n a : Int) (F : List Int) (b : Int) (G : List Int) (hF : F.length ≤ 1048576) (hG : G.length ≤ 1048576) : Ev (fun k => spec_DoCommute.f k n a F b G) (commM n a F b G) := by
 unfold spec_DoCommute.f
 rw [spec_l1In_eq]
 refine Ev.bind1 (Ev.ite (fun h => ?_) (fun h => (Ev.now _).to (commM_no (fun h' => h (decide_eq_true h'.1))).symm))
 have hn := of_decide_eq_true h
 have hs : sizeB n = true := decide_eq_true (by omega)
 refine (spec_l2Op_ev n a F hs (by omega)).bind (Ev.ite (fun h2 => ?_) (fun h2 => (Ev.now _).to (commM_no (fun h' => h2 h'.2.1.1)).symm))
 refine (spec_l2Op_ev n b G hs (by omega)).bind (Ev.ite (fun h3 => ?_) (fun h3 => (Ev.now _).to (commM_no (fun h' => h3 h'.2.1.2)).symm))
 refine Ev.ite (fun h4 => (Ev.now _).to (commM_no (fun h' => by have := h'.2.2; omega)).symm) (fun h4 => Ev.ite (fun h5 => (Ev.now _).to (commM_no (fun h' => by have := h'.2.2; omega)).symm) (fun h5 => ?_))
 have hp : commP n a F b G := ⟨hn, ⟨h2, h3⟩, by omega, by omega⟩
 obtain ⟨r, s, rfl, rfl, ok⟩ := comm_ok hp
 rw [commM_yes hp, Int.toNat_natCast, Int.toNat_natCast]
 refine (?_ : Ev (fun k => spec_l12Commute.f k n (r : Int) F (s : Int) G) (commB n r s F G)).bind (Ev.now _)
 unfold spec_l12Commute.f
 exact spec_l12Commute_loop ok (n ^ (r * s)).toNat 0 (by omega)
theorem FnExactDoCommute : Stmt.FnExactDoCommute := by
 intro a0 a1 l1 a2 l2 _ _ hm1 _ _ hm2 _
 obtain ⟨t, e1, s1, s2, s3⟩ := laws_szOp_eq a1 l1 1048576 hm1 (by omega)
 by_cases ht : 0 ≤ t
 ·have b1 := s2 ht
  obtain ⟨u, g1, r1, r2, r3⟩ := laws_szOp_eq a2 l2 t hm2 (by omega)
  by_cases hu : 0 ≤ u
  ·have b2 := r2 hu
   have z1 : l1.length ≤ 1048576 := by omega
   have z2 : l2.length ≤ 1048576 := by omega
   obtain ⟨k, f1, f2, f3, f4, f5, f6⟩ := ((Evs.of (laws_toOp_ev a1 l1 (by omega))).and ((Evs.of (laws_toOp_ev a2 l2 (by omega))).and ((Evs.of (spec_DoCommute_ev a0 a1 l1 a2 l2 z1 z2)).and ((Evs.of (impl_DoCommute_ev a0 a1 l1 a2 l2 z1 z2)).and
    ((Evs.of (laws_eqOp_same a1 l1 (by omega))).and (Evs.of (laws_eqOp_same a2 l2 (by omega)))))))).ex
   exact ⟨k, t, e1, fun _ => ⟨u, g1, fun _ => ⟨a1, l1, a2, l2, (commM a0 a1 l1 a2 l2).1, (commM a0 a1 l1 a2 l2).2, f1, f2, f3, f4, f5, f6⟩⟩⟩
  ·exact ⟨0, t, e1, fun _ => ⟨u, g1, fun h => absurd h hu⟩⟩
 ·exact ⟨0, t, e1, fun h => absurd h ht⟩
end Go.Proofs.Ytccjheikjcpgmaa.Pure

namespace Go.Proofs.Ytccjheikjcpgmaa
open Go.RowKit Go.Proofs.YtccjheikjcpgmaaW.PrintWords Go.Proofs.YtccjheikjcpgmaaW.PrintLast Go.Proofs.YtccjheikjcpgmaaW.PrintMore Go.Proofs.Ytccjheikjcpgmaa.Live Go.Proofs.Ytccjheikjcpgmaa.Q
set_option linter.unusedVariables false
set_option linter.unusedSimpArgs false
set_option maxRecDepth 100000
set_option maxHeartbeats 8000000 in
theorem Walk.FnExactDoCommute (a0 : Int) (a1 : Int) (A1 : Option Addr) (c1 : Nat) (l1 : List (Int)) (a2 : Int) (A2 : Option Addr) (c2 : Nat) (l2 : List (Int)) (W : World) (hr1 : Kd.C (Kd.int .i64) W A1 l1.length l1) (hc1 : l1.length ≤ c1) (hr2 : Kd.C (Kd.int .i64) W A2 l2.length l2) (hc2 : l2.length ≤ c2) (g0 : (Lit.int .i64 a0).wf = true) (g1 : (Lit.int .i64 a1).wf = true) (hm1 : l1.length ≤ maxLen) (hg1 : ∀ x ∈ l1, (Lit.int .i64 x).wf = true) (g2 : (Lit.int .i64 a2).wf = true) (hm2 : l2.length ≤ maxLen) (hg2 : ∀ x ∈ l2, (Lit.int .i64 x).wf = true) :
  Calls Try.prog 4 #[.int .i64 a0, .agg #[.int .i64 a1, .slice A1 l1.length c1], .agg #[.int .i64 a2, .slice A2 l2.length c2]] W fun e w' => e = .returned (.bool true) ∧ Below W.heap.size W w' := by
 have P := fun (_ : True) => Pure.FnExactDoCommute a0 a1 l1 a2 l2 g0 g1 hm1 hg1 g2 hm2 hg2
 have hu37 := Try.underlying37
 have hu41 := Try.underlying41
 have HR1 := Aside0.mk hr1
 have HC1 := Aside0.mk hc1
 have hm1_ : l1.length ≤ 9223372036854775807 := by unfold maxLen at hm1; omega
 have HR2 := Aside0.mk hr2
 have HC2 := Aside0.mk hc2
 have hm2_ : l2.length ≤ 9223372036854775807 := by unfold maxLen at hm2; omega
 clear hr1 hc1 hr2 hc2 g0 g1 hm1 hg1 g2 hm2 hg2
 obtain ⟨k, P⟩ := P trivial
 obtain ⟨t0, hF0, P⟩ := P
 have F0 := Aside0.mk hF0
 clear hF0
 have HP3 := Aside0.mk P
 clear P
 by_cases d3 : t0 < 0
 ·have q3 : decide (t0 < 0) = true := decide_eq_true d3
  go_enter Try.func4, Try.ntmps4
  obtain ⟨lox1, hix1, HLx1⟩ := Live.make_box (Live.nil W) (.cells #[.int .i64 a1, .slice A1 l1.length c1] 37) (W.heap.size) (by simp)
  obtain ⟨lox2, hix2, HLx2⟩ := Live.make_box HLx1 (.cells #[.int .i64 a2, .slice A2 l2.length c2] 37) (W.heap.size + 1) (by simp)
  go_wp2_with fail
  (with_reducible refine (laws_szOp.calls a1 _ _ l1 1048576 t0 _ (Kd.C_below HR1.out (below_alloc (below_alloc (Below.refl _ _) _) _)) HC1.out F0.out).mono ?_)
  rintro e w3 ⟨rfl, hbw3⟩
  have HLw3 := Aside0.mk (HLx2.below hbw3)
  have HBw3 := Aside0.mk (below_step (below_alloc (below_alloc (Below.refl _ _) _) _) (hbw3))
  clear hbw3
  have hxb4_0_w3 : w3.cell? ⟨W.heap.size, 0, none⟩ = some (.int .i64 a1) := (blk_cell (HLw3.out.get 1 rfl).1 0).trans rfl
  have hxb4_1_w3 : w3.cell? ⟨W.heap.size, 1, none⟩ = some (.slice A1 l1.length c1) := (blk_cell (HLw3.out.get 1 rfl).1 1).trans rfl
  have hxb5_0_w3 : w3.cell? ⟨W.heap.size + 1, 0, none⟩ = some (.int .i64 a2) := (blk_cell (HLw3.out.get 0 rfl).1 0).trans rfl
  have hxb5_1_w3 : w3.cell? ⟨W.heap.size + 1, 1, none⟩ = some (.slice A2 l2.length c2) := (blk_cell (HLw3.out.get 0 rfl).1 1).trans rfl
  go_wp2
  go_ret
  exact ⟨rfl, HBw3.out⟩
 have q3 : decide (t0 < 0) = false := decide_eq_false d3
 have P := HP3.out (by omega)
 clear HP3
 obtain ⟨t1, hF1, P⟩ := P
 have F1 := Aside0.mk hF1
 clear hF1
 have HP5 := Aside0.mk P
 clear P
 by_cases d5 : t1 < 0
 ·have q5 : decide (t1 < 0) = true := decide_eq_true d5
  go_enter Try.func4, Try.ntmps4
  obtain ⟨lox1, hix1, HLx1⟩ := Live.make_box (Live.nil W) (.cells #[.int .i64 a1, .slice A1 l1.length c1] 37) (W.heap.size) (by simp)
  obtain ⟨lox2, hix2, HLx2⟩ := Live.make_box HLx1 (.cells #[.int .i64 a2, .slice A2 l2.length c2] 37) (W.heap.size + 1) (by simp)
  go_wp2_with fail
  (with_reducible refine (laws_szOp.calls a1 _ _ l1 1048576 t0 _ (Kd.C_below HR1.out (below_alloc (below_alloc (Below.refl _ _) _) _)) HC1.out F0.out).mono ?_)
  rintro e w3 ⟨rfl, hbw3⟩
  have HLw3 := Aside0.mk (HLx2.below hbw3)
  have HBw3 := Aside0.mk (below_step (below_alloc (below_alloc (Below.refl _ _) _) _) (hbw3))
  clear hbw3
  have hxb4_0_w3 : w3.cell? ⟨W.heap.size, 0, none⟩ = some (.int .i64 a1) := (blk_cell (HLw3.out.get 1 rfl).1 0).trans rfl
  have hxb4_1_w3 : w3.cell? ⟨W.heap.size, 1, none⟩ = some (.slice A1 l1.length c1) := (blk_cell (HLw3.out.get 1 rfl).1 1).trans rfl
  have hxb5_0_w3 : w3.cell? ⟨W.heap.size + 1, 0, none⟩ = some (.int .i64 a2) := (blk_cell (HLw3.out.get 0 rfl).1 0).trans rfl
  have hxb5_1_w3 : w3.cell? ⟨W.heap.size + 1, 1, none⟩ = some (.slice A2 l2.length c2) := (blk_cell (HLw3.out.get 0 rfl).1 1).trans rfl
  go_wp2_with fail
  (with_reducible refine (laws_szOp.calls a2 _ _ l2 t0 t1 _ (Kd.C_below HR2.out (HBw3.out)) HC2.out F1.out).mono ?_)
  rintro e w4 ⟨rfl, hbw4⟩
  have HLw4 := Aside0.mk (HLw3.out.below hbw4)
  have HBw4 := Aside0.mk (below_step (HBw3.out) (hbw4))
  clear hbw4
  have hxb4_0_w4 : w4.cell? ⟨W.heap.size, 0, none⟩ = some (.int .i64 a1) := (blk_cell (HLw4.out.get 1 rfl).1 0).trans rfl
  have hxb4_1_w4 : w4.cell? ⟨W.heap.size, 1, none⟩ = some (.slice A1 l1.length c1) := (blk_cell (HLw4.out.get 1 rfl).1 1).trans rfl
  have hxb5_0_w4 : w4.cell? ⟨W.heap.size + 1, 0, none⟩ = some (.int .i64 a2) := (blk_cell (HLw4.out.get 0 rfl).1 0).trans rfl
  have hxb5_1_w4 : w4.cell? ⟨W.heap.size + 1, 1, none⟩ = some (.slice A2 l2.length c2) := (blk_cell (HLw4.out.get 0 rfl).1 1).trans rfl
  go_wp2
  go_ret
  exact ⟨rfl, HBw4.out⟩
 have q5 : decide (t1 < 0) = false := decide_eq_false d5
 have P := HP5.out (by omega)
 clear HP5
 obtain ⟨X0, X1, X2, X3, X4, X5, hF2, hF3, hF4, hF5, hF6, hF7⟩ := P
 have F2 := Aside0.mk hF2
 have F3 := Aside0.mk hF3
 have F4 := Aside0.mk hF4
 have F5 := Aside0.mk hF5
 have F6 := Aside0.mk hF6
 have F7 := Aside0.mk hF7
 have HBD := Aside0.mk (show True from trivial)
 clear hF2 hF3 hF4 hF5 hF6 hF7
 have hneX0 : (X0 != X0) = false := bne_self_eq_false X0
 have hneX2 : (X2 != X2) = false := bne_self_eq_false X2
 have hneX4 : (X4 != X4) = false := bne_self_eq_false X4
 have hneX5 : (X5 != X5) = false := bne_self_eq_false X5
 go_enter Try.func4, Try.ntmps4
 obtain ⟨lox1, hix1, HLx1⟩ := Live.make_box (Live.nil W) (.cells #[.int .i64 a1, .slice A1 l1.length c1] 37) (W.heap.size) (by simp)
 obtain ⟨lox2, hix2, HLx2⟩ := Live.make_box HLx1 (.cells #[.int .i64 a2, .slice A2 l2.length c2] 37) (W.heap.size + 1) (by simp)
 go_wp2_with fail
 (with_reducible refine (laws_szOp.calls a1 _ _ l1 1048576 t0 _ (Kd.C_below HR1.out (below_alloc (below_alloc (Below.refl _ _) _) _)) HC1.out F0.out).mono ?_)
 rintro e w3 ⟨rfl, hbw3⟩
 have HLw3 := Aside0.mk (HLx2.below hbw3)
 have HBw3 := Aside0.mk (below_step (below_alloc (below_alloc (Below.refl _ _) _) _) (hbw3))
 clear hbw3
 have hxb4_0_w3 : w3.cell? ⟨W.heap.size, 0, none⟩ = some (.int .i64 a1) := (blk_cell (HLw3.out.get 1 rfl).1 0).trans rfl
 have hxb4_1_w3 : w3.cell? ⟨W.heap.size, 1, none⟩ = some (.slice A1 l1.length c1) := (blk_cell (HLw3.out.get 1 rfl).1 1).trans rfl
 have hxb5_0_w3 : w3.cell? ⟨W.heap.size + 1, 0, none⟩ = some (.int .i64 a2) := (blk_cell (HLw3.out.get 0 rfl).1 0).trans rfl
 have hxb5_1_w3 : w3.cell? ⟨W.heap.size + 1, 1, none⟩ = some (.slice A2 l2.length c2) := (blk_cell (HLw3.out.get 0 rfl).1 1).trans rfl
 go_wp2_with fail
 (with_reducible refine (laws_szOp.calls a2 _ _ l2 t0 t1 _ (Kd.C_below HR2.out (HBw3.out)) HC2.out F1.out).mono ?_)
 rintro e w4 ⟨rfl, hbw4⟩
 have HLw4 := Aside0.mk (HLw3.out.below hbw4)
 have HBw4 := Aside0.mk (below_step (HBw3.out) (hbw4))
 clear hbw4
 have hxb4_0_w4 : w4.cell? ⟨W.heap.size, 0, none⟩ = some (.int .i64 a1) := (blk_cell (HLw4.out.get 1 rfl).1 0).trans rfl
 have hxb4_1_w4 : w4.cell? ⟨W.heap.size, 1, none⟩ = some (.slice A1 l1.length c1) := (blk_cell (HLw4.out.get 1 rfl).1 1).trans rfl
 have hxb5_0_w4 : w4.cell? ⟨W.heap.size + 1, 0, none⟩ = some (.int .i64 a2) := (blk_cell (HLw4.out.get 0 rfl).1 0).trans rfl
 have hxb5_1_w4 : w4.cell? ⟨W.heap.size + 1, 1, none⟩ = some (.slice A2 l2.length c2) := (blk_cell (HLw4.out.get 0 rfl).1 1).trans rfl
 go_wp2_with fail
 go_region_held3 (fun w' => w'.cell? ⟨W.heap.size, 0, none⟩ = some (.int .i64 a1) ∧ w'.cell? ⟨W.heap.size, 1, none⟩ = some (.slice A1 l1.length c1) ∧ w'.cell? ⟨W.heap.size + 1, 0, none⟩ = some (.int .i64 a2) ∧ w'.cell? ⟨W.heap.size + 1, 1, none⟩ = some (.slice A2 l2.length c2)) (first | (simp [*]; done) | go_keep) (first | (go_at_call 16; (with_reducible refine (laws_toOp.calls k a1 _ _ l1 X0 X1 _ (Kd.C_below HR1.out (below_drew1 (HBw4.out))) HC1.out F2.out).mono ?_); rintro e w5 ⟨vw5_0, rfl, how5_0, hbw5⟩; obtain ⟨Aw5, cw5, rfl⟩ := Kd.R_slice how5_0; obtain ⟨low5, hiw5, hlw5⟩ := Live.make_R (Live.drew HLw4.out) hbw5 how5_0 (below_size (below_drew1 (HBw4.out))); have HLw5 := Aside0.mk hlw5; clear hlw5 how5_0; have HBw5 := Aside0.mk (below_step (below_drew1 (HBw4.out)) (hbw5)); clear hbw5; have hxb4_0_w5 : w5.cell? ⟨W.heap.size, 0, none⟩ = some (.int .i64 a1) := (blk_cell (HLw5.out.get 2 rfl).1 0).trans rfl; have hxb4_1_w5 : w5.cell? ⟨W.heap.size, 1, none⟩ = some (.slice A1 l1.length c1) := (blk_cell (HLw5.out.get 2 rfl).1 1).trans rfl; have hxb5_0_w5 : w5.cell? ⟨W.heap.size + 1, 0, none⟩ = some (.int .i64 a2) := (blk_cell (HLw5.out.get 1 rfl).1 0).trans rfl; have hxb5_1_w5 : w5.cell? ⟨W.heap.size + 1, 1, none⟩ = some (.slice A2 l2.length c2) := (blk_cell (HLw5.out.get 1 rfl).1 1).trans rfl) | (go_at_call 16; (with_reducible refine (laws_toOp.calls k a2 _ _ l2 X2 X3 _ (Kd.C_below HR2.out (HBw5.out)) HC2.out F3.out).mono ?_); rintro e w6 ⟨vw6_0, rfl, how6_0, hbw6⟩; obtain ⟨Aw6, cw6, rfl⟩ := Kd.R_slice how6_0; obtain ⟨low6, hiw6, hlw6⟩ := Live.make_R HLw5.out hbw6 how6_0 (below_size (HBw5.out)); have HLw6 := Aside0.mk hlw6; clear hlw6 how6_0; have HBw6 := Aside0.mk (below_step (HBw5.out) (hbw6)); clear hbw6; have hxb4_0_w6 : w6.cell? ⟨W.heap.size, 0, none⟩ = some (.int .i64 a1) := (blk_cell (HLw6.out.get 3 rfl).1 0).trans rfl; have hxb4_1_w6 : w6.cell? ⟨W.heap.size, 1, none⟩ = some (.slice A1 l1.length c1) := (blk_cell (HLw6.out.get 3 rfl).1 1).trans rfl; have hxb5_0_w6 : w6.cell? ⟨W.heap.size + 1, 0, none⟩ = some (.int .i64 a2) := (blk_cell (HLw6.out.get 2 rfl).1 0).trans rfl; have hxb5_1_w6 : w6.cell? ⟨W.heap.size + 1, 1, none⟩ = some (.slice A2 l2.length c2) := (blk_cell (HLw6.out.get 2 rfl).1 1).trans rfl) | (go_at_call 15; (with_reducible refine (spec_DoCommute.calls k a0 X0 _ _ X1 X2 _ _ X3 X4 X5 _ (Kd.R_reads' (HLw6.out.get 1 rfl)).2.2 (Kd.R_reads' (HLw6.out.get 1 rfl)).2.1 (Kd.R_reads' (HLw6.out.get 0 rfl)).2.2 (Kd.R_reads' (HLw6.out.get 0 rfl)).2.1 F4.out).mono ?_); rintro e w7 ⟨rfl, hbw7⟩; have HLw7 := Aside0.mk (HLw6.out.below hbw7); have HBw7 := Aside0.mk (below_step (HBw6.out) (hbw7)); clear hbw7; have hxb4_0_w7 : w7.cell? ⟨W.heap.size, 0, none⟩ = some (.int .i64 a1) := (blk_cell (HLw7.out.get 3 rfl).1 0).trans rfl; have hxb4_1_w7 : w7.cell? ⟨W.heap.size, 1, none⟩ = some (.slice A1 l1.length c1) := (blk_cell (HLw7.out.get 3 rfl).1 1).trans rfl; have hxb5_0_w7 : w7.cell? ⟨W.heap.size + 1, 0, none⟩ = some (.int .i64 a2) := (blk_cell (HLw7.out.get 2 rfl).1 0).trans rfl; have hxb5_1_w7 : w7.cell? ⟨W.heap.size + 1, 1, none⟩ = some (.slice A2 l2.length c2) := (blk_cell (HLw7.out.get 2 rfl).1 1).trans rfl))
 go_wp2_with fail
 (with_reducible refine (laws_toOp.calls k a1 _ _ l1 X0 X1 _ (Kd.C_below HR1.out (HBw7.out)) HC1.out F2.out).mono ?_)
 rintro e w8 ⟨vw8_0, rfl, how8_0, hbw8⟩
 obtain ⟨Aw8, cw8, rfl⟩ := Kd.R_slice how8_0
 obtain ⟨low8, hiw8, hlw8⟩ := Live.make_R HLw7.out hbw8 how8_0 (below_size (HBw7.out))
 have HLw8 := Aside0.mk hlw8
 clear hlw8 how8_0
 have HBw8 := Aside0.mk (below_step (HBw7.out) (hbw8))
 clear hbw8
 have hxb4_0_w8 : w8.cell? ⟨W.heap.size, 0, none⟩ = some (.int .i64 a1) := (blk_cell (HLw8.out.get 4 rfl).1 0).trans rfl
 have hxb4_1_w8 : w8.cell? ⟨W.heap.size, 1, none⟩ = some (.slice A1 l1.length c1) := (blk_cell (HLw8.out.get 4 rfl).1 1).trans rfl
 have hxb5_0_w8 : w8.cell? ⟨W.heap.size + 1, 0, none⟩ = some (.int .i64 a2) := (blk_cell (HLw8.out.get 3 rfl).1 0).trans rfl
 have hxb5_1_w8 : w8.cell? ⟨W.heap.size + 1, 1, none⟩ = some (.slice A2 l2.length c2) := (blk_cell (HLw8.out.get 3 rfl).1 1).trans rfl
 obtain ⟨lox9, hix9, HLx9⟩ := Live.make_box HLw8.out (.cells #[.int .i64 X0, .slice Aw8 X1.length cw8] 41) (w8.heap.size) (by simp)
 have hxb4_0_w8allocce : (w8.alloc (.cells #[.int .i64 X0, .slice Aw8 X1.length cw8] 41)).cell? ⟨W.heap.size, 0, none⟩ = some (.int .i64 a1) := (blk_cell (HLx9.get 5 rfl).1 0).trans rfl
 have hxb4_1_w8allocce : (w8.alloc (.cells #[.int .i64 X0, .slice Aw8 X1.length cw8] 41)).cell? ⟨W.heap.size, 1, none⟩ = some (.slice A1 l1.length c1) := (blk_cell (HLx9.get 5 rfl).1 1).trans rfl
 have hxb5_0_w8allocce : (w8.alloc (.cells #[.int .i64 X0, .slice Aw8 X1.length cw8] 41)).cell? ⟨W.heap.size + 1, 0, none⟩ = some (.int .i64 a2) := (blk_cell (HLx9.get 4 rfl).1 0).trans rfl
 have hxb5_1_w8allocce : (w8.alloc (.cells #[.int .i64 X0, .slice Aw8 X1.length cw8] 41)).cell? ⟨W.heap.size + 1, 1, none⟩ = some (.slice A2 l2.length c2) := (blk_cell (HLx9.get 4 rfl).1 1).trans rfl
 go_wp2_with fail
 (with_reducible refine (laws_toOp.calls k a2 _ _ l2 X2 X3 _ (Kd.C_below HR2.out (below_alloc (HBw8.out) _)) HC2.out F3.out).mono ?_)
 rintro e w10 ⟨vw10_0, rfl, how10_0, hbw10⟩
 obtain ⟨Aw10, cw10, rfl⟩ := Kd.R_slice how10_0
 obtain ⟨low10, hiw10, hlw10⟩ := Live.make_R HLx9 hbw10 how10_0 (below_size (below_alloc (HBw8.out) _))
 have HLw10 := Aside0.mk hlw10
 clear hlw10 how10_0
 have HBw10 := Aside0.mk (below_step (below_alloc (HBw8.out) _) (hbw10))
 clear hbw10
 have hxb4_0_w10 : w10.cell? ⟨W.heap.size, 0, none⟩ = some (.int .i64 a1) := (blk_cell (HLw10.out.get 6 rfl).1 0).trans rfl
 have hxb4_1_w10 : w10.cell? ⟨W.heap.size, 1, none⟩ = some (.slice A1 l1.length c1) := (blk_cell (HLw10.out.get 6 rfl).1 1).trans rfl
 have hxb5_0_w10 : w10.cell? ⟨W.heap.size + 1, 0, none⟩ = some (.int .i64 a2) := (blk_cell (HLw10.out.get 5 rfl).1 0).trans rfl
 have hxb5_1_w10 : w10.cell? ⟨W.heap.size + 1, 1, none⟩ = some (.slice A2 l2.length c2) := (blk_cell (HLw10.out.get 5 rfl).1 1).trans rfl
 have hxb10_0_w10 : w10.cell? ⟨w8.heap.size, 0, none⟩ = some (.int .i64 X0) := (blk_cell (HLw10.out.get 1 rfl).1 0).trans rfl
 have hxb10_1_w10 : w10.cell? ⟨w8.heap.size, 1, none⟩ = some (.slice Aw8 X1.length cw8) := (blk_cell (HLw10.out.get 1 rfl).1 1).trans rfl
 obtain ⟨lox11, hix11, HLx11⟩ := Live.make_box HLw10.out (.cells #[.int .i64 X2, .slice Aw10 X3.length cw10] 41) (w10.heap.size) (by simp)
 have hxb4_0_w10allocc : (w10.alloc (.cells #[.int .i64 X2, .slice Aw10 X3.length cw10] 41)).cell? ⟨W.heap.size, 0, none⟩ = some (.int .i64 a1) := (blk_cell (HLx11.get 7 rfl).1 0).trans rfl
 have hxb4_1_w10allocc : (w10.alloc (.cells #[.int .i64 X2, .slice Aw10 X3.length cw10] 41)).cell? ⟨W.heap.size, 1, none⟩ = some (.slice A1 l1.length c1) := (blk_cell (HLx11.get 7 rfl).1 1).trans rfl
 have hxb5_0_w10allocc : (w10.alloc (.cells #[.int .i64 X2, .slice Aw10 X3.length cw10] 41)).cell? ⟨W.heap.size + 1, 0, none⟩ = some (.int .i64 a2) := (blk_cell (HLx11.get 6 rfl).1 0).trans rfl
 have hxb5_1_w10allocc : (w10.alloc (.cells #[.int .i64 X2, .slice Aw10 X3.length cw10] 41)).cell? ⟨W.heap.size + 1, 1, none⟩ = some (.slice A2 l2.length c2) := (blk_cell (HLx11.get 6 rfl).1 1).trans rfl
 have hxb10_0_w10allocc : (w10.alloc (.cells #[.int .i64 X2, .slice Aw10 X3.length cw10] 41)).cell? ⟨w8.heap.size, 0, none⟩ = some (.int .i64 X0) := (blk_cell (HLx11.get 2 rfl).1 0).trans rfl
 have hxb10_1_w10allocc : (w10.alloc (.cells #[.int .i64 X2, .slice Aw10 X3.length cw10] 41)).cell? ⟨w8.heap.size, 1, none⟩ = some (.slice Aw8 X1.length cw8) := (blk_cell (HLx11.get 2 rfl).1 1).trans rfl
 go_wp2_with fail
 (with_reducible refine (impl_DoCommute.calls k a0 X0 _ _ X1 X2 _ _ X3 X4 X5 _ (Kd.R_reads' (HLx11.get 3 rfl)).2.2 (Kd.R_reads' (HLx11.get 3 rfl)).2.1 (Kd.R_reads' (HLx11.get 1 rfl)).2.2 (Kd.R_reads' (HLx11.get 1 rfl)).2.1 F5.out).mono ?_)
 rintro e w12 ⟨rfl, hbw12⟩
 have HLw12 := Aside0.mk (HLx11.below hbw12)
 have HBw12 := Aside0.mk (below_step (below_alloc (HBw10.out) _) (hbw12))
 clear hbw12
 have hxb4_0_w12 : w12.cell? ⟨W.heap.size, 0, none⟩ = some (.int .i64 a1) := (blk_cell (HLw12.out.get 7 rfl).1 0).trans rfl
 have hxb4_1_w12 : w12.cell? ⟨W.heap.size, 1, none⟩ = some (.slice A1 l1.length c1) := (blk_cell (HLw12.out.get 7 rfl).1 1).trans rfl
 have hxb5_0_w12 : w12.cell? ⟨W.heap.size + 1, 0, none⟩ = some (.int .i64 a2) := (blk_cell (HLw12.out.get 6 rfl).1 0).trans rfl
 have hxb5_1_w12 : w12.cell? ⟨W.heap.size + 1, 1, none⟩ = some (.slice A2 l2.length c2) := (blk_cell (HLw12.out.get 6 rfl).1 1).trans rfl
 have hxb10_0_w12 : w12.cell? ⟨w8.heap.size, 0, none⟩ = some (.int .i64 X0) := (blk_cell (HLw12.out.get 2 rfl).1 0).trans rfl
 have hxb10_1_w12 : w12.cell? ⟨w8.heap.size, 1, none⟩ = some (.slice Aw8 X1.length cw8) := (blk_cell (HLw12.out.get 2 rfl).1 1).trans rfl
 have hxb11_0_w12 : w12.cell? ⟨w10.heap.size, 0, none⟩ = some (.int .i64 X2) := (blk_cell (HLw12.out.get 0 rfl).1 0).trans rfl
 have hxb11_1_w12 : w12.cell? ⟨w10.heap.size, 1, none⟩ = some (.slice Aw10 X3.length cw10) := (blk_cell (HLw12.out.get 0 rfl).1 1).trans rfl
 go_wp2_with fail
 go_region_held3 (fun w' => w'.cell? ⟨W.heap.size, 0, none⟩ = some (.int .i64 a1) ∧ w'.cell? ⟨W.heap.size, 1, none⟩ = some (.slice A1 l1.length c1) ∧ w'.cell? ⟨W.heap.size + 1, 0, none⟩ = some (.int .i64 a2) ∧ w'.cell? ⟨W.heap.size + 1, 1, none⟩ = some (.slice A2 l2.length c2) ∧ w'.cell? ⟨w8.heap.size, 0, none⟩ = some (.int .i64 X0) ∧ w'.cell? ⟨w8.heap.size, 1, none⟩ = some (.slice Aw8 X1.length cw8) ∧ w'.cell? ⟨w10.heap.size, 0, none⟩ = some (.int .i64 X2) ∧ w'.cell? ⟨w10.heap.size, 1, none⟩ = some (.slice Aw10 X3.length cw10)) (first | (simp [*]; done) | go_keep) (first | (go_at_call 16; (with_reducible refine (laws_toOp.calls k a1 _ _ l1 X0 X1 _ (Kd.C_below HR1.out (below_drew1 (HBw12.out))) HC1.out F2.out).mono ?_); rintro e w13 ⟨vw13_0, rfl, how13_0, hbw13⟩; obtain ⟨Aw13, cw13, rfl⟩ := Kd.R_slice how13_0; obtain ⟨low13, hiw13, hlw13⟩ := Live.make_R (Live.drew HLw12.out) hbw13 how13_0 (below_size (below_drew1 (HBw12.out))); have HLw13 := Aside0.mk hlw13; clear hlw13 how13_0; have HBw13 := Aside0.mk (below_step (below_drew1 (HBw12.out)) (hbw13)); clear hbw13; have hxb4_0_w13 : w13.cell? ⟨W.heap.size, 0, none⟩ = some (.int .i64 a1) := (blk_cell (HLw13.out.get 8 rfl).1 0).trans rfl; have hxb4_1_w13 : w13.cell? ⟨W.heap.size, 1, none⟩ = some (.slice A1 l1.length c1) := (blk_cell (HLw13.out.get 8 rfl).1 1).trans rfl; have hxb5_0_w13 : w13.cell? ⟨W.heap.size + 1, 0, none⟩ = some (.int .i64 a2) := (blk_cell (HLw13.out.get 7 rfl).1 0).trans rfl; have hxb5_1_w13 : w13.cell? ⟨W.heap.size + 1, 1, none⟩ = some (.slice A2 l2.length c2) := (blk_cell (HLw13.out.get 7 rfl).1 1).trans rfl; have hxb10_0_w13 : w13.cell? ⟨w8.heap.size, 0, none⟩ = some (.int .i64 X0) := (blk_cell (HLw13.out.get 3 rfl).1 0).trans rfl; have hxb10_1_w13 : w13.cell? ⟨w8.heap.size, 1, none⟩ = some (.slice Aw8 X1.length cw8) := (blk_cell (HLw13.out.get 3 rfl).1 1).trans rfl; have hxb11_0_w13 : w13.cell? ⟨w10.heap.size, 0, none⟩ = some (.int .i64 X2) := (blk_cell (HLw13.out.get 1 rfl).1 0).trans rfl; have hxb11_1_w13 : w13.cell? ⟨w10.heap.size, 1, none⟩ = some (.slice Aw10 X3.length cw10) := (blk_cell (HLw13.out.get 1 rfl).1 1).trans rfl) | (go_at_call 18; (with_reducible refine (laws_eqOp.calls k X0 _ _ X1 X0 _ _ X1 true _ (Kd.R_reads' (HLw13.out.get 4 rfl)).2.2 (Kd.R_reads' (HLw13.out.get 4 rfl)).2.1 (Kd.R_reads' (HLw13.out.get 0 rfl)).2.2 (Kd.R_reads' (HLw13.out.get 0 rfl)).2.1 F6.out).mono ?_); rintro e w14 ⟨rfl, hbw14⟩; have HLw14 := Aside0.mk (HLw13.out.below hbw14); have HBw14 := Aside0.mk (below_step (HBw13.out) (hbw14)); clear hbw14; have hxb4_0_w14 : w14.cell? ⟨W.heap.size, 0, none⟩ = some (.int .i64 a1) := (blk_cell (HLw14.out.get 8 rfl).1 0).trans rfl; have hxb4_1_w14 : w14.cell? ⟨W.heap.size, 1, none⟩ = some (.slice A1 l1.length c1) := (blk_cell (HLw14.out.get 8 rfl).1 1).trans rfl; have hxb5_0_w14 : w14.cell? ⟨W.heap.size + 1, 0, none⟩ = some (.int .i64 a2) := (blk_cell (HLw14.out.get 7 rfl).1 0).trans rfl; have hxb5_1_w14 : w14.cell? ⟨W.heap.size + 1, 1, none⟩ = some (.slice A2 l2.length c2) := (blk_cell (HLw14.out.get 7 rfl).1 1).trans rfl; have hxb10_0_w14 : w14.cell? ⟨w8.heap.size, 0, none⟩ = some (.int .i64 X0) := (blk_cell (HLw14.out.get 3 rfl).1 0).trans rfl; have hxb10_1_w14 : w14.cell? ⟨w8.heap.size, 1, none⟩ = some (.slice Aw8 X1.length cw8) := (blk_cell (HLw14.out.get 3 rfl).1 1).trans rfl; have hxb11_0_w14 : w14.cell? ⟨w10.heap.size, 0, none⟩ = some (.int .i64 X2) := (blk_cell (HLw14.out.get 1 rfl).1 0).trans rfl; have hxb11_1_w14 : w14.cell? ⟨w10.heap.size, 1, none⟩ = some (.slice Aw10 X3.length cw10) := (blk_cell (HLw14.out.get 1 rfl).1 1).trans rfl))
 go_wp2_with fail
 go_region_held3 (fun w' => w'.cell? ⟨W.heap.size, 0, none⟩ = some (.int .i64 a1) ∧ w'.cell? ⟨W.heap.size, 1, none⟩ = some (.slice A1 l1.length c1) ∧ w'.cell? ⟨W.heap.size + 1, 0, none⟩ = some (.int .i64 a2) ∧ w'.cell? ⟨W.heap.size + 1, 1, none⟩ = some (.slice A2 l2.length c2) ∧ w'.cell? ⟨w8.heap.size, 0, none⟩ = some (.int .i64 X0) ∧ w'.cell? ⟨w8.heap.size, 1, none⟩ = some (.slice Aw8 X1.length cw8) ∧ w'.cell? ⟨w10.heap.size, 0, none⟩ = some (.int .i64 X2) ∧ w'.cell? ⟨w10.heap.size, 1, none⟩ = some (.slice Aw10 X3.length cw10)) (first | (simp [*]; done) | go_keep) (first | (go_at_call 16; (with_reducible refine (laws_toOp.calls k a2 _ _ l2 X2 X3 _ (Kd.C_below HR2.out (below_drew1 (HBw14.out))) HC2.out F3.out).mono ?_); rintro e w15 ⟨vw15_0, rfl, how15_0, hbw15⟩; obtain ⟨Aw15, cw15, rfl⟩ := Kd.R_slice how15_0; obtain ⟨low15, hiw15, hlw15⟩ := Live.make_R (Live.drew HLw14.out) hbw15 how15_0 (below_size (below_drew1 (HBw14.out))); have HLw15 := Aside0.mk hlw15; clear hlw15 how15_0; have HBw15 := Aside0.mk (below_step (below_drew1 (HBw14.out)) (hbw15)); clear hbw15; have hxb4_0_w15 : w15.cell? ⟨W.heap.size, 0, none⟩ = some (.int .i64 a1) := (blk_cell (HLw15.out.get 9 rfl).1 0).trans rfl; have hxb4_1_w15 : w15.cell? ⟨W.heap.size, 1, none⟩ = some (.slice A1 l1.length c1) := (blk_cell (HLw15.out.get 9 rfl).1 1).trans rfl; have hxb5_0_w15 : w15.cell? ⟨W.heap.size + 1, 0, none⟩ = some (.int .i64 a2) := (blk_cell (HLw15.out.get 8 rfl).1 0).trans rfl; have hxb5_1_w15 : w15.cell? ⟨W.heap.size + 1, 1, none⟩ = some (.slice A2 l2.length c2) := (blk_cell (HLw15.out.get 8 rfl).1 1).trans rfl; have hxb10_0_w15 : w15.cell? ⟨w8.heap.size, 0, none⟩ = some (.int .i64 X0) := (blk_cell (HLw15.out.get 4 rfl).1 0).trans rfl; have hxb10_1_w15 : w15.cell? ⟨w8.heap.size, 1, none⟩ = some (.slice Aw8 X1.length cw8) := (blk_cell (HLw15.out.get 4 rfl).1 1).trans rfl; have hxb11_0_w15 : w15.cell? ⟨w10.heap.size, 0, none⟩ = some (.int .i64 X2) := (blk_cell (HLw15.out.get 2 rfl).1 0).trans rfl; have hxb11_1_w15 : w15.cell? ⟨w10.heap.size, 1, none⟩ = some (.slice Aw10 X3.length cw10) := (blk_cell (HLw15.out.get 2 rfl).1 1).trans rfl) | (go_at_call 18; (with_reducible refine (laws_eqOp.calls k X2 _ _ X3 X2 _ _ X3 true _ (Kd.R_reads' (HLw15.out.get 3 rfl)).2.2 (Kd.R_reads' (HLw15.out.get 3 rfl)).2.1 (Kd.R_reads' (HLw15.out.get 0 rfl)).2.2 (Kd.R_reads' (HLw15.out.get 0 rfl)).2.1 F7.out).mono ?_); rintro e w16 ⟨rfl, hbw16⟩; have HLw16 := Aside0.mk (HLw15.out.below hbw16); have HBw16 := Aside0.mk (below_step (HBw15.out) (hbw16)); clear hbw16; have hxb4_0_w16 : w16.cell? ⟨W.heap.size, 0, none⟩ = some (.int .i64 a1) := (blk_cell (HLw16.out.get 9 rfl).1 0).trans rfl; have hxb4_1_w16 : w16.cell? ⟨W.heap.size, 1, none⟩ = some (.slice A1 l1.length c1) := (blk_cell (HLw16.out.get 9 rfl).1 1).trans rfl; have hxb5_0_w16 : w16.cell? ⟨W.heap.size + 1, 0, none⟩ = some (.int .i64 a2) := (blk_cell (HLw16.out.get 8 rfl).1 0).trans rfl; have hxb5_1_w16 : w16.cell? ⟨W.heap.size + 1, 1, none⟩ = some (.slice A2 l2.length c2) := (blk_cell (HLw16.out.get 8 rfl).1 1).trans rfl; have hxb10_0_w16 : w16.cell? ⟨w8.heap.size, 0, none⟩ = some (.int .i64 X0) := (blk_cell (HLw16.out.get 4 rfl).1 0).trans rfl; have hxb10_1_w16 : w16.cell? ⟨w8.heap.size, 1, none⟩ = some (.slice Aw8 X1.length cw8) := (blk_cell (HLw16.out.get 4 rfl).1 1).trans rfl; have hxb11_0_w16 : w16.cell? ⟨w10.heap.size, 0, none⟩ = some (.int .i64 X2) := (blk_cell (HLw16.out.get 2 rfl).1 0).trans rfl; have hxb11_1_w16 : w16.cell? ⟨w10.heap.size, 1, none⟩ = some (.slice Aw10 X3.length cw10) := (blk_cell (HLw16.out.get 2 rfl).1 1).trans rfl))
 go_wp2
 go_ret
 exact ⟨rfl, HBw16.out⟩
end Go.Proofs.Ytccjheikjcpgmaa
