/- Part 5 of the proof of the law FnExactLiftCongruence: functions and lists that say what the Go code computes, and that it does; no condition beside those that each theorem states. -/
import Derived.Test.YtnnbgfphinemfaaZFnExactLiftCongruenced
import Derived.Test.YtnnbgfphinemfaaZFnExactLiftCongruenceWMore
import Derived.Test.YtnnbgfphinemfaaZFnExactLiftCongruenceWKept
import Derived.Test.YtnnbgfphinemfaaZFnExactLiftCongruenceWApart
import Derived.Test.YtnnbgfphinemfaaZFnExactLiftCongruenceWFoot
import Derived.Test.YtnnbgfphinemfaaZFnExactLiftCongruenceWSized
import Derived.Deep.RegionHeld3
namespace Go.Proofs.Ytnnbgfphinemfaa.Q
open Go.RowKit Go.Proofs.YtnnbgfphinemfaaW.PrintWords Go.Proofs.YtnnbgfphinemfaaW.PrintLast Go.Proofs.YtnnbgfphinemfaaW.PrintMore
attribute [local go_sem] max2_int min2_int max_two min_two max_three min_three max_four min_four
set_option linter.unusedVariables false
set_option linter.unusedSimpArgs false
def laws_eqAlgebra.f (k : Nat) (a0_0 : Int) (l0_1 : List (S75)) (a1_0 : Int) (l1_1 : List (S75)) : Option (Bool) := if a0_0 = a1_0 then ((laws_eqOpS.f k l0_1 l1_1).bind fun t303 => (if t303 = true then (some true) else (some false))) else (some false)
theorem laws_eqAlgebra.mono : ∀ a0 a1 a2 a3 k, LeO (laws_eqAlgebra.f k a0 a1 a2 a3) (laws_eqAlgebra.f (k + 1) a0 a1 a2 a3) := by
 intro a0 a1 a2 a3 k
 unfold laws_eqAlgebra.f
 repeat' first
   | (with_reducible exact laws_eqOpS.mono _ _ _)
   | (with_reducible exact LeO.refl _)
   | (with_reducible exact LeO.none _)
   | (with_reducible refine LeO.ite ?_ ?_)
   | (with_reducible refine LeO.bind ?_ (fun _ => ?_))
   | exact laws_eqOpS.mono _ _ _
   | exact LeO.none _
   | refine LeO.ite ?_ ?_
   | refine LeO.bind ?_ (fun _ => ?_)
set_option maxHeartbeats 8000000 in
set_option maxRecDepth 100000 in
theorem laws_eqAlgebra.calls (k : Nat) (a0_0 : Int) (A0_1 : Option Addr) (c0_1 : Nat) (l0_1 : List (S75)) (a1_0 : Int) (A1_1 : Option Addr) (c1_1 : Nat) (l1_1 : List (S75)) (r : Bool) (w : World) (hr0_1 : Kd.C k75 w A0_1 l0_1.length l0_1) (hc0_1 : l0_1.length ≤ c0_1) (hr1_1 : Kd.C k75 w A1_1 l1_1.length l1_1) (hc1_1 : l1_1.length ≤ c1_1) (h : laws_eqAlgebra.f k a0_0 l0_1 a1_0 l1_1 = some r) :
  Calls Try.prog 21 #[.agg #[.int .i64 a0_0, .slice A0_1 l0_1.length c0_1], .agg #[.int .i64 a1_0, .slice A1_1 l1_1.length c1_1]] w fun e w' => e = .returned (.bool r) ∧ Below w.heap.size w w' := by
 have hu31 := Try.underlying31
 have HR0_1 := Aside0.mk hr0_1
 have HC0_1 := Aside0.mk hc0_1
 clear hr0_1 hc0_1
 have HR1_1 := Aside0.mk hr1_1
 have HC1_1 := Aside0.mk hc1_1
 clear hr1_1 hc1_1
 have HB := Aside0.mk (Below.refl w.heap.size w)
 have H : (if a0_0 = a1_0 then ((laws_eqOpS.f k l0_1 l1_1).bind fun t303 => (if t303 = true then (some true) else (some false))) else (some false)) = some r := h
 clear h
 by_cases c3 : a0_0 = a1_0
 ·rw [if_pos c3] at H
  have c3b0 : (a0_0 == a1_0) = true := beq_iff_eq.mpr c3
  have c3b1 : (a0_0 != a1_0) = false := bne_eq_false_iff_eq.mpr c3
  clear c3
  replace H := Option.bind_eq_some_iff.mp H
  obtain ⟨t303, A40, H⟩ := H
  replace H : (if t303 = true then (some true) else (some false)) = some r := H
  have A4 := Aside0.mk A40
  clear A40
  by_cases c5 : t303 = true
  ·subst c5
   have H1 : (some true) = some r := by rw [if_pos rfl] at H; exact H
   clear H
   have H := H1
   clear H1
   obtain rfl := Option.some.inj H
   go_enter Try.func21, Try.ntmps21
   go_wp2_with (first | ((with_reducible refine gate_dst (N := 2) rfl ?_); refine box_event ?hg (N := 2) ?hd (cs := #[.int .i64 a0_0, .slice A0_1 l0_1.length c0_1]) (t := 31) ?hr ?_; (case hd => rfl); (case hg => rfl); (case hr => first | (go_simp; done) | (go_simp; rfl)); intro gb301 hg w6 hbox hb; have n0_ := Aside0.mk (below_step (by repeat (first | (with_reducible first | exact HB.out | apply below_alloc | apply pw_below_drewN | apply below_drew1) | exact HB.out)) hb); have n1_ := Aside0.mk (hbox); have n2_ := Aside0.mk ((by rw [hg]; exact (below_size (by repeat (first | (with_reducible first | exact HB.out | apply below_alloc | apply pw_below_drewN | apply below_drew1) | exact HB.out))) : w.heap.size ≤ gb301)); have n3_ := Aside0.mk ((by rw [hg]; exact (below_size (by repeat (first | (with_reducible first | exact HB.out | apply below_alloc | apply pw_below_drewN | apply below_drew1) | exact HB.out))) : w.heap.size ≤ gb301)); clear HB; have HB := n0_; have BK301 := n1_; have GW301 := n2_; have GE301 := n3_; clear n0_ n1_ n2_ n3_; clear hb hbox hg) | ((with_reducible refine gate_dst (N := 3) rfl ?_); refine box_event ?hg (N := 3) ?hd (cs := #[.int .i64 a1_0, .slice A1_1 l1_1.length c1_1]) (t := 31) ?hr ?_; (case hd => rfl); (case hg => rfl); (case hr => first | (go_simp; done) | (go_simp; rfl)); intro gb302 hg w7 hbox hb; have n0_ := Aside0.mk (blk_below (g := gb301) (o := .cells #[.int .i64 a0_0, .slice A0_1 l0_1.length c0_1] 31 (0, 0)) (by (with_reducible repeat (first | refine blk_drewN ?_ _ | refine blk_drew ?_ | refine blk_alloc ?_ _)); exact BK301.out) hb); have n1_ := Aside0.mk (below_step (by repeat (first | (with_reducible first | exact HB.out | apply below_alloc | apply pw_below_drewN | apply below_drew1 | refine below_set ?_ GE301.out) | exact HB.out)) hb); have n2_ := Aside0.mk (hbox); have n3_ := Aside0.mk ((by rw [hg]; exact (below_size (by repeat (first | (with_reducible first | exact HB.out | apply below_alloc | apply pw_below_drewN | apply below_drew1 | refine below_set ?_ GE301.out) | exact HB.out))) : w.heap.size ≤ gb302)); have n4_ := Aside0.mk ((by rw [hg]; exact (below_size (by repeat (first | (with_reducible first | exact HB.out | apply below_alloc | apply pw_below_drewN | apply below_drew1 | refine below_set ?_ GE301.out) | exact HB.out))) : w.heap.size ≤ gb302)); have n5_ := Aside0.mk ((by rw [hg]; exact Nat.ne_of_lt (blk_lt (g := gb301) (o := .cells #[.int .i64 a0_0, .slice A0_1 l0_1.length c0_1] 31 (0, 0)) (by (with_reducible repeat (first | refine blk_drewN ?_ _ | refine blk_drew ?_ | refine blk_alloc ?_ _)); exact BK301.out)) : gb301 ≠ gb302)); have n6_ := Aside0.mk ((by rw [hg]; exact Nat.ne_of_gt (blk_lt (g := gb301) (o := .cells #[.int .i64 a0_0, .slice A0_1 l0_1.length c0_1] 31 (0, 0)) (by (with_reducible repeat (first | refine blk_drewN ?_ _ | refine blk_drew ?_ | refine blk_alloc ?_ _)); exact BK301.out)) : gb302 ≠ gb301)); clear BK301; clear HB; have BK301 := n0_; have HB := n1_; have BK302 := n2_; have GW302 := n3_; have GE302 := n4_; have NB301_302 := n5_; have NB302_301 := n6_; clear n0_ n1_ n2_ n3_ n4_ n5_ n6_; clear hb hbox hg; have hnb8 := NB301_302.out; have hnc8 := NB302_301.out; have hcz9_0 : w7.cell? ⟨gb301, 0, none⟩ = some (.int .i64 a0_0) := (blk_cell BK301.out 0).trans rfl; have hcz9_1 : w7.cell? ⟨gb301, 1, none⟩ = some (.slice A0_1 l0_1.length c0_1) := (blk_cell BK301.out 1).trans rfl; have hfz9_0 := blk_frozen BK301.out 0; have hfz9_1 := blk_frozen BK301.out 1; have hcz10_0 : w7.cell? ⟨gb302, 0, none⟩ = some (.int .i64 a1_0) := (blk_cell BK302.out 0).trans rfl; have hcz10_1 : w7.cell? ⟨gb302, 1, none⟩ = some (.slice A1_1 l1_1.length c1_1) := (blk_cell BK302.out 1).trans rfl; have hfz10_0 := blk_frozen BK302.out 0; have hfz10_1 := blk_frozen BK302.out 1) | ((with_reducible refine gate_callee (f := 66) rfl ?_); refine goesL_ (some 14) rfl rfl Try.func66 (by kernel_rfl) rfl #[.slice A0_1 l0_1.length c0_1, .slice A1_1 l1_1.length c1_1] rfl (by (try simp only [List.map_toArray, List.map_cons, List.map_nil]); first | done | rfl | (simp only [List.length_drop, List.length_take]; rfl)) ?_; (with_reducible refine (laws_eqOpS.calls k _ _ l0_1 _ _ l1_1 true _ ?side1 ?side2 ?side3 ?side4 A4.out).mono ?_); (case side1 => repeat (first | exact (Kd.C_below HR0_1.out HB.out) | (with_reducible refine Kd.C_alloc ?_ _) | (with_reducible refine Kd.C_drewN ?_ _) | (with_reducible refine Kd.C_drew ?_))); (case side2 => exact HC0_1.out); (case side3 => repeat (first | exact (Kd.C_below HR1_1.out HB.out) | (with_reducible refine Kd.C_alloc ?_ _) | (with_reducible refine Kd.C_drewN ?_ _) | (with_reducible refine Kd.C_drew ?_))); (case side4 => exact HC1_1.out); rintro e w11 ⟨rfl, hb⟩; refine ⟨_, rfl, ?_⟩; have n0_ := Aside0.mk (blk_below (g := gb301) (o := .cells #[.int .i64 a0_0, .slice A0_1 l0_1.length c0_1] 31 (0, 0)) (by (with_reducible repeat (first | refine blk_drewN ?_ _ | refine blk_drew ?_ | refine blk_alloc ?_ _)); exact BK301.out) hb); have n1_ := Aside0.mk (blk_below (g := gb302) (o := .cells #[.int .i64 a1_0, .slice A1_1 l1_1.length c1_1] 31 (0, 0)) (by (with_reducible repeat (first | refine blk_drewN ?_ _ | refine blk_drew ?_ | refine blk_alloc ?_ _)); exact BK302.out) hb); have n2_ := Aside0.mk (below_step (by repeat (first | (with_reducible first | exact HB.out | apply below_alloc | apply pw_below_drewN | apply below_drew1 | refine below_set ?_ GE301.out | refine below_set ?_ GE302.out) | exact HB.out)) hb); clear BK301; clear BK302; clear HB; have BK301 := n0_; have BK302 := n1_; have HB := n2_; clear n0_ n1_ n2_; (try clear hb); (try clear hb2); (try clear hk); (try clear hi)))
   go_ret
   exact ⟨by first | rfl | (simp [errW_none, errW_some] <;> rfl) | (simp [*, errW_none, errW_some] <;> rfl), by repeat (first | (with_reducible first | exact HB.out | apply below_alloc | apply pw_below_drewN | apply below_drew1 | refine below_set ?_ GE301.out | refine below_set ?_ GE302.out) | exact HB.out)⟩
  ·replace c5 := Bool.eq_false_iff.mpr c5
   subst c5
   have H1 : (some false) = some r := by rw [if_neg (show ¬ (false = true) by decide)] at H; exact H
   clear H
   have H := H1
   clear H1
   obtain rfl := Option.some.inj H
   go_enter Try.func21, Try.ntmps21
   go_wp2_with (first | ((with_reducible refine gate_dst (N := 2) rfl ?_); refine box_event ?hg (N := 2) ?hd (cs := #[.int .i64 a0_0, .slice A0_1 l0_1.length c0_1]) (t := 31) ?hr ?_; (case hd => rfl); (case hg => rfl); (case hr => first | (go_simp; done) | (go_simp; rfl)); intro gb301 hg w12 hbox hb; have n0_ := Aside0.mk (below_step (by repeat (first | (with_reducible first | exact HB.out | apply below_alloc | apply pw_below_drewN | apply below_drew1) | exact HB.out)) hb); have n1_ := Aside0.mk (hbox); have n2_ := Aside0.mk ((by rw [hg]; exact (below_size (by repeat (first | (with_reducible first | exact HB.out | apply below_alloc | apply pw_below_drewN | apply below_drew1) | exact HB.out))) : w.heap.size ≤ gb301)); have n3_ := Aside0.mk ((by rw [hg]; exact (below_size (by repeat (first | (with_reducible first | exact HB.out | apply below_alloc | apply pw_below_drewN | apply below_drew1) | exact HB.out))) : w.heap.size ≤ gb301)); clear HB; have HB := n0_; have BK301 := n1_; have GW301 := n2_; have GE301 := n3_; clear n0_ n1_ n2_ n3_; clear hb hbox hg) | ((with_reducible refine gate_dst (N := 3) rfl ?_); refine box_event ?hg (N := 3) ?hd (cs := #[.int .i64 a1_0, .slice A1_1 l1_1.length c1_1]) (t := 31) ?hr ?_; (case hd => rfl); (case hg => rfl); (case hr => first | (go_simp; done) | (go_simp; rfl)); intro gb302 hg w13 hbox hb; have n0_ := Aside0.mk (blk_below (g := gb301) (o := .cells #[.int .i64 a0_0, .slice A0_1 l0_1.length c0_1] 31 (0, 0)) (by (with_reducible repeat (first | refine blk_drewN ?_ _ | refine blk_drew ?_ | refine blk_alloc ?_ _)); exact BK301.out) hb); have n1_ := Aside0.mk (below_step (by repeat (first | (with_reducible first | exact HB.out | apply below_alloc | apply pw_below_drewN | apply below_drew1 | refine below_set ?_ GE301.out) | exact HB.out)) hb); have n2_ := Aside0.mk (hbox); have n3_ := Aside0.mk ((by rw [hg]; exact (below_size (by repeat (first | (with_reducible first | exact HB.out | apply below_alloc | apply pw_below_drewN | apply below_drew1 | refine below_set ?_ GE301.out) | exact HB.out))) : w.heap.size ≤ gb302)); have n4_ := Aside0.mk ((by rw [hg]; exact (below_size (by repeat (first | (with_reducible first | exact HB.out | apply below_alloc | apply pw_below_drewN | apply below_drew1 | refine below_set ?_ GE301.out) | exact HB.out))) : w.heap.size ≤ gb302)); have n5_ := Aside0.mk ((by rw [hg]; exact Nat.ne_of_lt (blk_lt (g := gb301) (o := .cells #[.int .i64 a0_0, .slice A0_1 l0_1.length c0_1] 31 (0, 0)) (by (with_reducible repeat (first | refine blk_drewN ?_ _ | refine blk_drew ?_ | refine blk_alloc ?_ _)); exact BK301.out)) : gb301 ≠ gb302)); have n6_ := Aside0.mk ((by rw [hg]; exact Nat.ne_of_gt (blk_lt (g := gb301) (o := .cells #[.int .i64 a0_0, .slice A0_1 l0_1.length c0_1] 31 (0, 0)) (by (with_reducible repeat (first | refine blk_drewN ?_ _ | refine blk_drew ?_ | refine blk_alloc ?_ _)); exact BK301.out)) : gb302 ≠ gb301)); clear BK301; clear HB; have BK301 := n0_; have HB := n1_; have BK302 := n2_; have GW302 := n3_; have GE302 := n4_; have NB301_302 := n5_; have NB302_301 := n6_; clear n0_ n1_ n2_ n3_ n4_ n5_ n6_; clear hb hbox hg; have hnb14 := NB301_302.out; have hnc14 := NB302_301.out; have hcz15_0 : w13.cell? ⟨gb301, 0, none⟩ = some (.int .i64 a0_0) := (blk_cell BK301.out 0).trans rfl; have hcz15_1 : w13.cell? ⟨gb301, 1, none⟩ = some (.slice A0_1 l0_1.length c0_1) := (blk_cell BK301.out 1).trans rfl; have hfz15_0 := blk_frozen BK301.out 0; have hfz15_1 := blk_frozen BK301.out 1; have hcz16_0 : w13.cell? ⟨gb302, 0, none⟩ = some (.int .i64 a1_0) := (blk_cell BK302.out 0).trans rfl; have hcz16_1 : w13.cell? ⟨gb302, 1, none⟩ = some (.slice A1_1 l1_1.length c1_1) := (blk_cell BK302.out 1).trans rfl; have hfz16_0 := blk_frozen BK302.out 0; have hfz16_1 := blk_frozen BK302.out 1) | ((with_reducible refine gate_callee (f := 66) rfl ?_); refine goesL_ (some 14) rfl rfl Try.func66 (by kernel_rfl) rfl #[.slice A0_1 l0_1.length c0_1, .slice A1_1 l1_1.length c1_1] rfl (by (try simp only [List.map_toArray, List.map_cons, List.map_nil]); first | done | rfl | (simp only [List.length_drop, List.length_take]; rfl)) ?_; (with_reducible refine (laws_eqOpS.calls k _ _ l0_1 _ _ l1_1 false _ ?side1 ?side2 ?side3 ?side4 A4.out).mono ?_); (case side1 => repeat (first | exact (Kd.C_below HR0_1.out HB.out) | (with_reducible refine Kd.C_alloc ?_ _) | (with_reducible refine Kd.C_drewN ?_ _) | (with_reducible refine Kd.C_drew ?_))); (case side2 => exact HC0_1.out); (case side3 => repeat (first | exact (Kd.C_below HR1_1.out HB.out) | (with_reducible refine Kd.C_alloc ?_ _) | (with_reducible refine Kd.C_drewN ?_ _) | (with_reducible refine Kd.C_drew ?_))); (case side4 => exact HC1_1.out); rintro e w17 ⟨rfl, hb⟩; refine ⟨_, rfl, ?_⟩; have n0_ := Aside0.mk (blk_below (g := gb301) (o := .cells #[.int .i64 a0_0, .slice A0_1 l0_1.length c0_1] 31 (0, 0)) (by (with_reducible repeat (first | refine blk_drewN ?_ _ | refine blk_drew ?_ | refine blk_alloc ?_ _)); exact BK301.out) hb); have n1_ := Aside0.mk (blk_below (g := gb302) (o := .cells #[.int .i64 a1_0, .slice A1_1 l1_1.length c1_1] 31 (0, 0)) (by (with_reducible repeat (first | refine blk_drewN ?_ _ | refine blk_drew ?_ | refine blk_alloc ?_ _)); exact BK302.out) hb); have n2_ := Aside0.mk (below_step (by repeat (first | (with_reducible first | exact HB.out | apply below_alloc | apply pw_below_drewN | apply below_drew1 | refine below_set ?_ GE301.out | refine below_set ?_ GE302.out) | exact HB.out)) hb); clear BK301; clear BK302; clear HB; have BK301 := n0_; have BK302 := n1_; have HB := n2_; clear n0_ n1_ n2_; (try clear hb); (try clear hb2); (try clear hk); (try clear hi)))
   go_ret
   exact ⟨by first | rfl | (simp [errW_none, errW_some] <;> rfl) | (simp [*, errW_none, errW_some] <;> rfl), by repeat (first | (with_reducible first | exact HB.out | apply below_alloc | apply pw_below_drewN | apply below_drew1 | refine below_set ?_ GE301.out | refine below_set ?_ GE302.out) | exact HB.out)⟩
 ·rw [if_neg c3] at H
  have c3b0 : (a0_0 == a1_0) = false := beq_eq_false_iff_ne.mpr c3
  have c3b1 : (a0_0 != a1_0) = true := bne_iff_ne.mpr c3
  obtain rfl := Option.some.inj H
  go_enter Try.func21, Try.ntmps21
  go_wp2_with (first | ((with_reducible refine gate_dst (N := 2) rfl ?_); refine box_event ?hg (N := 2) ?hd (cs := #[.int .i64 a0_0, .slice A0_1 l0_1.length c0_1]) (t := 31) ?hr ?_; (case hd => rfl); (case hg => rfl); (case hr => first | (go_simp; done) | (go_simp; rfl)); intro gb301 hg w18 hbox hb; have n0_ := Aside0.mk (below_step (by repeat (first | (with_reducible first | exact HB.out | apply below_alloc | apply pw_below_drewN | apply below_drew1) | exact HB.out)) hb); have n1_ := Aside0.mk (hbox); have n2_ := Aside0.mk ((by rw [hg]; exact (below_size (by repeat (first | (with_reducible first | exact HB.out | apply below_alloc | apply pw_below_drewN | apply below_drew1) | exact HB.out))) : w.heap.size ≤ gb301)); have n3_ := Aside0.mk ((by rw [hg]; exact (below_size (by repeat (first | (with_reducible first | exact HB.out | apply below_alloc | apply pw_below_drewN | apply below_drew1) | exact HB.out))) : w.heap.size ≤ gb301)); clear HB; have HB := n0_; have BK301 := n1_; have GW301 := n2_; have GE301 := n3_; clear n0_ n1_ n2_ n3_; clear hb hbox hg) | ((with_reducible refine gate_dst (N := 3) rfl ?_); refine box_event ?hg (N := 3) ?hd (cs := #[.int .i64 a1_0, .slice A1_1 l1_1.length c1_1]) (t := 31) ?hr ?_; (case hd => rfl); (case hg => rfl); (case hr => first | (go_simp; done) | (go_simp; rfl)); intro gb302 hg w19 hbox hb; have n0_ := Aside0.mk (blk_below (g := gb301) (o := .cells #[.int .i64 a0_0, .slice A0_1 l0_1.length c0_1] 31 (0, 0)) (by (with_reducible repeat (first | refine blk_drewN ?_ _ | refine blk_drew ?_ | refine blk_alloc ?_ _)); exact BK301.out) hb); have n1_ := Aside0.mk (below_step (by repeat (first | (with_reducible first | exact HB.out | apply below_alloc | apply pw_below_drewN | apply below_drew1 | refine below_set ?_ GE301.out) | exact HB.out)) hb); have n2_ := Aside0.mk (hbox); have n3_ := Aside0.mk ((by rw [hg]; exact (below_size (by repeat (first | (with_reducible first | exact HB.out | apply below_alloc | apply pw_below_drewN | apply below_drew1 | refine below_set ?_ GE301.out) | exact HB.out))) : w.heap.size ≤ gb302)); have n4_ := Aside0.mk ((by rw [hg]; exact (below_size (by repeat (first | (with_reducible first | exact HB.out | apply below_alloc | apply pw_below_drewN | apply below_drew1 | refine below_set ?_ GE301.out) | exact HB.out))) : w.heap.size ≤ gb302)); have n5_ := Aside0.mk ((by rw [hg]; exact Nat.ne_of_lt (blk_lt (g := gb301) (o := .cells #[.int .i64 a0_0, .slice A0_1 l0_1.length c0_1] 31 (0, 0)) (by (with_reducible repeat (first | refine blk_drewN ?_ _ | refine blk_drew ?_ | refine blk_alloc ?_ _)); exact BK301.out)) : gb301 ≠ gb302)); have n6_ := Aside0.mk ((by rw [hg]; exact Nat.ne_of_gt (blk_lt (g := gb301) (o := .cells #[.int .i64 a0_0, .slice A0_1 l0_1.length c0_1] 31 (0, 0)) (by (with_reducible repeat (first | refine blk_drewN ?_ _ | refine blk_drew ?_ | refine blk_alloc ?_ _)); exact BK301.out)) : gb302 ≠ gb301)); clear BK301; clear HB; have BK301 := n0_; have HB := n1_; have BK302 := n2_; have GW302 := n3_; have GE302 := n4_; have NB301_302 := n5_; have NB302_301 := n6_; clear n0_ n1_ n2_ n3_ n4_ n5_ n6_; clear hb hbox hg; have hnb20 := NB301_302.out; have hnc20 := NB302_301.out; have hcz21_0 : w19.cell? ⟨gb301, 0, none⟩ = some (.int .i64 a0_0) := (blk_cell BK301.out 0).trans rfl; have hcz21_1 : w19.cell? ⟨gb301, 1, none⟩ = some (.slice A0_1 l0_1.length c0_1) := (blk_cell BK301.out 1).trans rfl; have hfz21_0 := blk_frozen BK301.out 0; have hfz21_1 := blk_frozen BK301.out 1; have hcz22_0 : w19.cell? ⟨gb302, 0, none⟩ = some (.int .i64 a1_0) := (blk_cell BK302.out 0).trans rfl; have hcz22_1 : w19.cell? ⟨gb302, 1, none⟩ = some (.slice A1_1 l1_1.length c1_1) := (blk_cell BK302.out 1).trans rfl; have hfz22_0 := blk_frozen BK302.out 0; have hfz22_1 := blk_frozen BK302.out 1))
  go_ret
  exact ⟨by first | rfl | (simp [errW_none, errW_some] <;> rfl) | (simp [*, errW_none, errW_some] <;> rfl), by repeat (first | (with_reducible first | exact HB.out | apply below_alloc | apply pw_below_drewN | apply below_drew1 | refine below_set ?_ GE301.out | refine below_set ?_ GE302.out) | exact HB.out)⟩
end Go.Proofs.Ytnnbgfphinemfaa.Q

namespace Go.Proofs.Ytnnbgfphinemfaa.Live
open Go.RowKit Go.Proofs.YtnnbgfphinemfaaW.PrintWords Go.Proofs.YtnnbgfphinemfaaW.PrintLast
set_option linter.unusedVariables false
structure Part where
 lo : Nat
 hi : Nat
 P : World → Prop
def Seg (w : World) (x : Part) : Prop := ∀ w' : World, (∀ k, x.lo ≤ k → k < x.hi → w'.heap[k]? = w.heap[k]?) → x.P w'
def Live (w : World) (L : List Part) : Prop := (∀ x ∈ L, x.lo ≤ x.hi ∧ x.hi ≤ w.heap.size ∧ Seg w x) ∧ L.Pairwise (fun new old => old.hi ≤ new.lo)
theorem Live.nil (w : World) : Live w [] := ⟨fun x hx => by simp at hx, List.Pairwise.nil⟩
theorem Live.get {w : World} {L : List Part} (h : Live w L) (i : Nat) {x : Part} (hi : L[i]? = some x) : x.P w :=
 (h.1 x (List.mem_of_getElem? hi)).2.2 w (fun _ _ _ => rfl)
theorem Seg.kept {w w' : World} {x : Part} {S : Nat → Prop} (h : Seg w x) (hk : Kept w w' S) (hh : x.hi ≤ w.heap.size) (hs : ∀ k, x.lo ≤ k → k < x.hi → ¬ S k) : Seg w' x :=
 fun w2 h2 => h w2 (fun k h3 h4 => (h2 k h3 h4).trans (hk.2 k (by omega) (hs k h3 h4)))
theorem Live.kept {w w' : World} {L : List Part} {S : Nat → Prop} (h : Live w L) (hk : Kept w w' S) (hs : ∀ x ∈ L, ∀ k, x.lo ≤ k → k < x.hi → ¬ S k) : Live w' L :=
 ⟨fun x hx => ⟨(h.1 x hx).1, Nat.le_trans (h.1 x hx).2.1 hk.1, (h.1 x hx).2.2.kept hk (h.1 x hx).2.1 (hs x hx)⟩, h.2⟩
theorem Live.below {w w' : World} {L : List Part} (h : Live w L) (hb : Below w.heap.size w w') : Live w' L :=
 h.kept (Kept.of_below hb (fun _ => False)) (fun _ _ _ _ _ hf => hf)
theorem Live.drew {w : World} {L : List Part} (h : Live w L) : Live w.drew L := h
theorem Live.make {w w' : World} {L : List Part} (h : Live w L) (hb : Below w.heap.size w w') {P : World → Prop} (hP : Seg w' ⟨w.heap.size, w'.heap.size, P⟩) : Live w' (⟨w.heap.size, w'.heap.size, P⟩ :: L) := by
 have h1 := h.below hb
 refine ⟨fun x hx => ?_, List.Pairwise.cons (fun x hx => (h.1 x hx).2.1) h1.2⟩
 rcases List.mem_cons.1 hx with rfl | hx
 ·exact ⟨hb.size, Nat.le_refl _, hP⟩
 ·exact h1.1 x hx
theorem pairwise_set {L : List Part} (h : L.Pairwise (fun new old => old.hi ≤ new.lo)) (i : Nat) {x y : Part} (hi : L[i]? = some x) (h1 : y.lo = x.lo) (h2 : y.hi = x.hi) : (L.set i y).Pairwise (fun new old => old.hi ≤ new.lo) := by
 rw [List.pairwise_iff_getElem] at h ⊢
 obtain ⟨hil, hx⟩ := List.getElem?_eq_some_iff.1 hi
 have key : ∀ (j : Nat) (hj : j < (L.set i y).length), ((L.set i y)[j]).lo = (L[j]'(by simpa using hj)).lo ∧ ((L.set i y)[j]).hi = (L[j]'(by simpa using hj)).hi := by
  intro j hj
  rw [List.getElem_set]
  split
  ·rename_i e
   subst e
   rw [h1, h2, ← hx]
   exact ⟨rfl, rfl⟩
  ·exact ⟨rfl, rfl⟩
 intro a b ha hb hab
 rw [(key a ha).1, (key b hb).2]
 exact h a b (by simpa using ha) (by simpa using hb) hab
theorem Live.mark {w w' : World} {L : List Part} (h : Live w L) (i : Nat) {x : Part} (hi : L[i]? = some x) (hk : Kept w w' (fun k => x.lo ≤ k ∧ k < x.hi)) {P' : World → Prop} (hP : Seg w' ⟨x.lo, x.hi, P'⟩) : Live w' (L.set i ⟨x.lo, x.hi, P'⟩) := by
 have hp := h.2
 rw [List.pairwise_iff_getElem] at hp
 obtain ⟨hil, hx⟩ := List.getElem?_eq_some_iff.1 hi
 refine ⟨fun y hy => ?_, pairwise_set h.2 i hi rfl rfl⟩
 obtain ⟨j, hj⟩ := List.getElem?_of_mem hy
 rw [List.getElem?_set] at hj
 by_cases e : i = j
 ·subst e
  rw [if_pos rfl, if_pos hil] at hj
  injection hj with hj
  subst hj
  have hm := h.1 x (List.mem_of_getElem? hi)
  exact ⟨hm.1, Nat.le_trans hm.2.1 hk.1, hP⟩
 ·rw [if_neg e] at hj
  obtain ⟨hjl, hjx⟩ := List.getElem?_eq_some_iff.1 hj
  have hm := h.1 y (List.mem_of_getElem? hj)
  refine ⟨hm.1, Nat.le_trans hm.2.1 hk.1, hm.2.2.kept hk hm.2.1 (fun k h3 h4 h5 => ?_)⟩
  rcases Nat.lt_or_ge i j with h6 | h6
  ·have := hp i j hil hjl h6
   rw [hx, hjx] at this
   omega
  ·have := hp j i hjl hil (by omega)
   rw [hx, hjx] at this
   omega
theorem Live.make_box {w : World} {L : List Part} (h : Live w L) (o : Obj) (g : Nat) (hg : g = w.heap.size) : ∃ lo hi, Live (w.alloc o) (⟨lo, hi, fun w => w.heap[g]? = some o ∧ lo ≤ g ∧ g < hi⟩ :: L) :=
 ⟨w.heap.size, (w.alloc o).heap.size, h.make (below_alloc (Below.refl _ _) o) (fun w' hw => by subst hg; exact ⟨(hw _ (Nat.le_refl _) (by simp)).trans (heap_alloc_new w o), Nat.le_refl _, by simp⟩)⟩
theorem Live.make_S {α : Type} {d : Kd α} {e base : Nat} {ok : Nat → Prop} {v : Value} {xs : List α} {w w' : World} {L : List Part} (h : Live w L) (hb : Below w.heap.size w w') (ho : Kd.S d e w' w.heap.size ok v xs) (hbase : base ≤ w.heap.size) :
  ∃ lo hi, Live w' (⟨lo, hi, fun w => Kd.S d e w base (fun k => lo ≤ k ∧ k < hi) v xs⟩ :: L) :=
 ⟨_, _, h.make hb (fun w2 hw => Kd.S_lower (Kd.S_move (Kd.S_mono (Kd.S_bound ho) (fun k hk => ⟨hk.2.1, hk.2.2.1⟩)) (fun k hk => hw k hk.1 hk.2)) hbase)⟩
theorem Live.make_R {α : Type} {d : Kd α} {e base : Nat} {ok : Nat → Prop} {v : Value} {xs : List α} {w w' : World} {L : List Part} (h : Live w L) (hb : Below w.heap.size w w') (ho : d.R e w' w.heap.size ok v xs) (hbase : base ≤ w.heap.size) :
  ∃ lo hi, Live w' (⟨lo, hi, fun w => d.R e w base (fun k => lo ≤ k ∧ k < hi) v xs⟩ :: L) :=
 ⟨_, _, h.make hb (fun w2 hw => Kd.R_lower (Kd.R_move (Kd.R_mono (Kd.R_bound ho) (fun k hk => ⟨hk.2.1, hk.2.2.1⟩)) (fun k hk => hw k hk.1 hk.2)) hbase)⟩
section
variable {α : Type} {d : Kd α} {e base lo hi : Nat} {w : World} {ok : Nat → Prop} {v : Value} {xs : List α}
theorem seg_R {base' : Nat} (h : d.R e w base ok v xs) (hok : ∀ k, ok k → base ≤ k → k < w.heap.size → lo ≤ k ∧ k < hi) (hb : base' ≤ base) : Seg w ⟨lo, hi, fun w => d.R e w base' (fun k => lo ≤ k ∧ k < hi) v xs⟩ := fun w' hw =>
 Kd.R_lower (Kd.R_move (Kd.R_mono (Kd.R_bound h) (fun k hk => hok k hk.1 hk.2.1 hk.2.2.1)) (fun k hk => hw k hk.1 hk.2)) hb
theorem seg_S {base' : Nat} (h : Kd.S d e w base ok v xs) (hok : ∀ k, ok k → base ≤ k → k < w.heap.size → lo ≤ k ∧ k < hi) (hb : base' ≤ base) : Seg w ⟨lo, hi, fun w => Kd.S d e w base' (fun k => lo ≤ k ∧ k < hi) v xs⟩ := fun w' hw =>
 Kd.S_lower (Kd.S_move (Kd.S_mono (Kd.S_bound h) (fun k hk => hok k hk.1 hk.2.1 hk.2.2.1)) (fun k hk => hw k hk.1 hk.2)) hb
end
end Go.Proofs.Ytnnbgfphinemfaa.Live

namespace Go.Proofs.Ytnnbgfphinemfaa
open Go.RowKit Go.Proofs.YtnnbgfphinemfaaW.PrintWords Go.Proofs.YtnnbgfphinemfaaW.PrintLast Go.Proofs.YtnnbgfphinemfaaW.PrintMore Go.Proofs.Ytnnbgfphinemfaa.Live Go.Proofs.Ytnnbgfphinemfaa.Q
def Stmt.FnExactLiftCongruence : Prop := ∀ (a0 : Int) (l0 : List (Q.S110)) (l1 : List (Int)) (l2 : List (Int)), (Lit.int .i64 a0).wf = true → l0.length ≤ maxLen → (∀ x ∈ l0, (Lit.int .i64 x.f0).wf = true ∧ x.f1.length ≤ maxLen ∧ ∀ y_x ∈ x.f1, (Lit.int .i64 y_x).wf = true) → l1.length ≤ maxLen → (∀ x ∈ l1, (Lit.int .i64 x).wf = true) → l2.length ≤ maxLen → (∀ x ∈ l2, (Lit.int .i64 x).wf = true) → l1.length ≤ 1048576 → l2.length ≤ 1048576 → ∃ k : Nat, ∃ t0 : Int, laws_szAlgebra.f k a0 l0 1048576 = some t0 ∧ (0 ≤ t0 → ∃ (X0 : Int) (X1 : List (S75)) (X2 : List Int) (X3 : List Int) (X4 : List Int) (X5 : Bool), laws_toAlgebra.f k a0 l0 = some (X0, X1) ∧ laws_toIntS.f k l1 = some X2 ∧ laws_toIntS.f k l2 = some X3 ∧ spec_LiftCongruence.f k X0 X1 X2 X3 = some (X4, X5) ∧ impl_LiftCongruence.f k X0 X1 X2 X3 = some (X4, X5) ∧ laws_eqIntS.f k X4 X4 = some true ∧ laws_eqAlgebra.f k X0 X1 X0 X1 = some true ∧ laws_eqIntS.f k X2 X2 = some true ∧ laws_eqIntS.f k X3 X3 = some true ∧ laws_markIntS.f k X2 (1 + (totO X1 : Int)) = some ((((1 + (totO X1 : Int)) + (X2.length : Int))), (asc X2.length (1 + (totO X1 : Int)))) ∧ laws_markIntS.f k X3 ((1 + (totO X1 : Int)) + (X2.length : Int)) = some (((((1 + (totO X1 : Int)) + (X2.length : Int)) + (X3.length : Int))), (asc X3.length ((1 + (totO X1 : Int)) + (X2.length : Int)))) ∧ laws_markIntS.f k X4 1 = some (((1 + (X4.length : Int))), (asc X4.length 1)) ∧ laws_heldIntS.f k (asc X4.length 1) 1 = some (1 + (X4.length : Int)) ∧ (1 + (totO X1 : Int)) ≤ 4611686018427387904)
end Go.Proofs.Ytnnbgfphinemfaa

namespace Go.Proofs.Ytnnbgfphinemfaa
open Go.ChangeShapes Go.WideShapes
end Go.Proofs.Ytnnbgfphinemfaa
namespace Go.Proofs.Ytnnbgfphinemfaa.Pure
open Go.RowKit Go.Proofs.Ytnnbgfphinemfaa.Q Go.Proofs.YtnnbgfphinemfaaW.PrintWords Go.Proofs.YtnnbgfphinemfaaW.PrintLast
set_option linter.unusedVariables false
set_option linter.unusedSimpArgs false
theorem Ev.pos {α : Type} {c : Prop} [Decidable c] {f g : Nat → Option α} {r : α} (h : c) (hf : Ev f r) : Ev (fun k => if c then f k else g k) r := by
 simpa only [if_pos h] using hf
theorem Ev.neg {α : Type} {c : Prop} [Decidable c] {f g : Nat → Option α} {r : α} (h : ¬ c) (hg : Ev g r) : Ev (fun k => if c then f k else g k) r := by
 simpa only [if_neg h] using hg
theorem Ev.ite {α : Type} {c : Prop} [Decidable c] {f g : Nat → Option α} {r : α} (h : c → Ev f r) (h' : ¬ c → Ev g r) : Ev (fun k => if c then f k else g k) r := by
 by_cases hc : c
 ·exact Ev.pos hc (h hc)
 ·exact Ev.neg hc (h' hc)
theorem Ev.bind1 {α β : Type} {x : α} {f : Nat → α → Option β} {r : β} (k : Ev (fun n => f n x) r) : Ev (fun n => (some x).bind (f n)) r := k
theorem _root_.Go.Proofs.YtnnbgfphinemfaaW.PrintWords.Ev.to {α : Type} {g : Nat → Option α} {r s : α} (h : Ev g r) (e : r = s) : Ev g s := e ▸ h
theorem w64 {x : Int} (h1 : -9223372036854775808 ≤ x) (h2 : x ≤ 9223372036854775807) : wrap64 x = x := by unfold wrap64; omega
theorem w64s {i n : Nat} (h : i < n) (hn : n ≤ 9223372036854775807) : wrap64 ((i : Int) + 1) = ((i + 1 : Nat) : Int) := by unfold wrap64; omega
def gd (l : List Int) (i : Nat) : Int := l.getD i 0
theorem rdn (xs : List Int) (i : Nat) : rd xs (i : Int) = gd xs i := by simp [rd, gd]
theorem gd_lt {xs : List Int} {i : Nat} (h : i < xs.length) : gd xs i = xs[i] := by simp [gd, List.getD, h]
theorem set_self {x : List Int} {i : Nat} {v : Int} (h : gd x i = v) (hi : i < x.length) : x.set i v = x := by
 subst h
 rw [gd_lt hi, List.set_getElem_self]
theorem set_at {x : List Int} {i : Nat} (v : Int) (hi : i < x.length) : gd (x.set i v) i = v := by simp [gd, List.getD, hi]
theorem set_ne {x : List Int} {i j : Nat} (v : Int) (h : i ≠ j) : gd (x.set i v) j = gd x j := by simp only [gd, List.getD]; rw [List.getElem?_set_ne h]
theorem ext_gd {a b : List Int} (h : a.length = b.length) (e : ∀ i, i < a.length → gd a i = gd b i) : a = b := by
 apply List.ext_getElem h
 intro i h1 h2
 have := e i h1
 rwa [gd_lt h1, gd_lt h2] at this
theorem take_snoc (l : List Int) {i : Nat} (h : i < l.length) : l.take i ++ [gd l i] = l.take (i + 1) := by
 rw [gd_lt h, List.take_append_getElem]
theorem _root_.Go.Proofs.YtnnbgfphinemfaaW.PrintWords.Ev.and {α β : Type} {g : Nat → Option α} {f : Nat → Option β} {r : α} {s : β} (h : Ev g r) (h' : Ev f s) : ∃ K, ∀ k, K ≤ k → g k = some r ∧ f k = some s := by
 obtain ⟨K, h⟩ := h
 obtain ⟨K', h'⟩ := h'
 exact ⟨max K K', fun k hk => ⟨h k (by omega), h' k (by omega)⟩⟩
def Evs (P : Nat → Prop) : Prop := ∃ K, ∀ k, K ≤ k → P k
theorem Evs.of {α : Type} {g : Nat → Option α} {r : α} (h : Ev g r) : Evs (fun k => g k = some r) := h
theorem Evs.and {P Q : Nat → Prop} (h : Evs P) (h' : Evs Q) : Evs (fun k => P k ∧ Q k) := by
 obtain ⟨K, h⟩ := h
 obtain ⟨K', h'⟩ := h'
 exact ⟨max K K', fun k hk => ⟨h k (by omega), h' k (by omega)⟩⟩
theorem Evs.true {P : Prop} (h : P) : Evs (fun _ => P) := ⟨0, fun _ _ => h⟩
theorem Evs.ex {P : Nat → Prop} (h : Evs P) : ∃ k, P k := by
 obtain ⟨K, h⟩ := h
 exact ⟨K, h K (Nat.le_refl _)⟩
theorem drop_cons {α : Type} (l : List α) (z : α) {i : Nat} (h : i < l.length) : l.drop i = l.getD i z :: l.drop (i + 1) := by
 rw [List.drop_eq_getElem_cons h]
 simp [List.getD, h]
theorem all_loop {α : Type} (l : List α) (z : α) (p : α → Bool) (L : Nat → Int → Option Bool) (hend : Ev (fun k => L k (l.length : Int)) true)
  (hT : ∀ (i : Nat) (r : Bool), i < l.length → p (l.getD i z) = true → Ev (fun k => L k ((i + 1 : Nat) : Int)) r → Ev (fun k => L k (i : Int)) r)
  (hF : ∀ i : Nat, i < l.length → p (l.getD i z) = false → Ev (fun k => L k (i : Int)) false) : ∀ (d i : Nat), i + d = l.length → Ev (fun k => L k (i : Int)) ((l.drop i).all p) := by
 intro d
 induction d with
 | zero =>
  intro i hi
  have : i = l.length := by omega
  subst this
  simpa using hend
 | succ d ih =>
  intro i hi
  rw [drop_cons l z (by omega), List.all_cons]
  cases hp : p (l.getD i z) with
  | true => simpa using hT i _ (by omega) hp (ih (i + 1) (by omega))
  | false => simpa using hF i (by omega) hp
theorem map_loop {α β γ : Type} (l : List α) (z : α) (f : α → β) (L : Nat → List β → Int → Option γ) (fin : γ) (hend : Ev (fun k => L k (l.map f) (l.length : Int)) fin)
  (hstep : ∀ (i : Nat) (out : List β), i < l.length → out.length = i → Ev (fun k => L k (out ++ [f (l.getD i z)]) ((i + 1 : Nat) : Int)) fin → Ev (fun k => L k out (i : Int)) fin) :
  ∀ (d i : Nat), i + d = l.length → Ev (fun k => L k ((l.take i).map f) (i : Int)) fin := by
 intro d
 induction d with
 | zero =>
  intro i hi
  have : i = l.length := by omega
  subst this
  simpa using hend
 | succ d ih =>
  intro i hi
  refine hstep i _ (by omega) (by simp; omega) ?_
  have := ih (i + 1) (by omega)
  rw [List.take_succ_eq_append_getElem (by omega), List.map_append] at this
  simpa [List.getD, show i < l.length by omega] using this
theorem set_loop {α β γ : Type} (l : List α) (z : α) (f : α → β) (L : Nat → List β → Int → Option γ) (fin : γ) (hend : Ev (fun k => L k (l.map f) (l.length : Int)) fin)
  (hstep : ∀ (i : Nat) (out : List β), i < l.length → out.length = l.length → Ev (fun k => L k (out.set i (f (l.getD i z))) ((i + 1 : Nat) : Int)) fin → Ev (fun k => L k out (i : Int)) fin) :
  ∀ (d i : Nat) (out : List β), i + d = l.length → out.length = l.length → (∀ j, j < i → out[j]? = (l.map f)[j]?) → Ev (fun k => L k out (i : Int)) fin := by
 intro d
 induction d with
 | zero =>
  intro i out hi ho h
  have : i = l.length := by omega
  subst this
  have : out = l.map f := by
   apply List.ext_getElem?
   intro j
   rcases Nat.lt_or_ge j l.length with h1 | h1
   ·exact h j h1
   ·rw [List.getElem?_eq_none (by omega), List.getElem?_eq_none (by simpa using h1)]
  rw [this]
  exact hend
 | succ d ih =>
  intro i out hi ho h
  refine hstep i out (by omega) ho (ih (i + 1) _ (by omega) (by simpa using ho) (fun j hj => ?_))
  rw [List.getElem?_set]
  by_cases e : i = j
  ·subst e
   rw [if_pos rfl, if_pos (by omega)]
   simp [List.getD, show i < l.length by omega]
  ·rw [if_neg e]
   exact h j (by omega)
def partAt (p : List Int) (i : Nat) : Bool := decide (0 ≤ gd p i) && (decide (gd p i ≤ (i : Int)) && decide (gd p (gd p i).toNat = gd p i))
def partB (n : Int) (p : List Int) : Bool := decide ((p.length : Int) = n) && (List.range' 0 p.length).all (partAt p)
def sizeB (n : Int) : Bool := decide (1 ≤ n ∧ n ≤ 8)
theorem spec_l1In_eq (a b c : Int) : spec_l1In.f a b c = some (decide (b ≤ a ∧ a ≤ c)) := by
 unfold spec_l1In.f
 split
 ·congr 1; simp; omega
 ·congr 1; simp; omega
theorem impl_isPartition_loop (p : List Int) (hl : p.length ≤ 35184372088832) : ∀ (d i : Nat), i + d = p.length → Ev (fun k => impl_isPartition.l0 k p p (p.length : Int) (i : Int)) ((List.range' i d).all (partAt p)) := by
 intro d
 induction d with
 | zero =>
  intro i hi
  refine Ev.step (fun _ => impl_isPartition.l0.eq_2 ..) ?_
  refine Ev.neg (by omega) ?_
  exact Ev.now _
 | succ d ih =>
  intro i hi
  refine Ev.step (fun _ => impl_isPartition.l0.eq_2 ..) ?_
  refine Ev.pos (by omega) ?_
  refine Ev.pos (by omega) ?_
  refine Ev.pos (by omega) ?_
  rw [w64s (n := p.length) (by omega) (by omega), rdn, List.range'_succ, List.all_cons]
  refine Ev.ite (fun h => (Ev.now _).to (by simp [partAt]; omega)) (fun h1 => ?_)
  refine Ev.ite (fun h => (Ev.now _).to (by simp [partAt]; omega)) (fun h2 => ?_)
  refine Ev.pos (by omega) ?_
  refine Ev.pos (by omega) ?_
  have e : rd p (gd p i) = gd p (gd p i).toNat := rfl
  rw [e]
  refine Ev.ite (fun h => ?_) (fun h => (Ev.now _).to (by simp [partAt]; omega))
  refine (ih (i + 1) (by omega)).to ?_
  have : partAt p i = true := by simp [partAt]; omega
  rw [this]
  simp
theorem impl_isPartition_ev (n : Int) (p : List Int) (hl : p.length ≤ 35184372088832) : Ev (fun k => impl_isPartition.f k n p) (partB n p) := by
 unfold impl_isPartition.f partB
 refine Ev.ite (fun h => ?_) (fun h => ?_)
 ·refine (impl_isPartition_loop p hl p.length 0 (by omega)).to ?_
  simp [h]
 ·exact (Ev.now _).to (by simp [h])
theorem spec_l6Partition_loop (p : List Int) (hl : p.length ≤ 35184372088832) : ∀ (d i : Nat), i + d = p.length → Ev (fun k => spec_l6Partition.l0 k (p.length : Int) p (i : Int)) ((List.range' i d).all (partAt p)) := by
 intro d
 induction d with
 | zero =>
  intro i hi
  refine Ev.step (fun _ => spec_l6Partition.l0.eq_2 ..) ?_
  refine Ev.neg (by omega) ?_
  exact Ev.now _
 | succ d ih =>
  intro i hi
  refine Ev.step (fun _ => spec_l6Partition.l0.eq_2 ..) ?_
  refine Ev.pos (by omega) ?_
  refine Ev.pos (by omega) ?_
  refine Ev.pos (by omega) ?_
  rw [w64s (n := p.length) (by omega) (by omega), rdn, List.range'_succ, List.all_cons, spec_l1In_eq]
  refine Ev.bind1 ?_
  refine Ev.ite (fun h1 => ?_) (fun h => (Ev.now _).to (by simp [partAt] at h ⊢; omega))
  have h2 := of_decide_eq_true h1
  refine Ev.pos (by omega) ?_
  refine Ev.pos (by omega) ?_
  have e : rd p (gd p i) = gd p (gd p i).toNat := rfl
  rw [e]
  refine Ev.ite (fun h => ?_) (fun h => (Ev.now _).to (by simp [partAt]; omega))
  refine (ih (i + 1) (by omega)).to ?_
  have : partAt p i = true := by simp [partAt]; omega
  rw [this]
  simp
theorem spec_l6Partition_ev (n : Int) (p : List Int) (hl : p.length ≤ 35184372088832) : Ev (fun k => spec_l6Partition.f k n p) (partB n p) := by
 unfold spec_l6Partition.f partB
 refine Ev.ite (fun h => ?_) (fun h => ?_)
 ·rw [← h]
  refine (spec_l6Partition_loop p hl p.length 0 (by omega)).to ?_
  simp
 ·exact (Ev.now _).to (by simp [h])
theorem partAt_of {n : Int} {p : List Int} (h : partB n p = true) {i : Nat} (hi : i < p.length) : 0 ≤ gd p i ∧ gd p i ≤ i ∧ gd p (gd p i).toNat = gd p i := by
 simp only [partB, Bool.and_eq_true, List.all_eq_true, List.mem_range'_1, decide_eq_true_eq] at h
 have := h.2 i ⟨by omega, by omega⟩
 simpa [partAt] using this
theorem partB_len {n : Int} {p : List Int} (h : partB n p = true) : (p.length : Int) = n := by
 simp only [partB, Bool.and_eq_true, decide_eq_true_eq] at h
 exact h.1
def uni (p : List Int) (x y : Int) : List Int :=
 p.map fun v => if v = max (gd p x.toNat) (gd p y.toNat) then min (gd p x.toNat) (gd p y.toNat) else v
theorem uni_length (p : List Int) (x y : Int) : (uni p x y).length = p.length := by simp [uni]
theorem gd_map (f : Int → Int) (p : List Int) {i : Nat} (h : i < p.length) : gd (p.map f) i = f (gd p i) := by
 rw [gd_lt (by simpa using h), gd_lt h]
 simp
theorem impl_unite_loop (q : List Int) (a b : Int) (hq : q.length ≤ 35184372088832) : ∀ (d i : Nat) (x : List Int), i + d = q.length → x.length = q.length →
  (∀ j, j < i → gd x j = if gd q j = b then a else gd q j) → (∀ j, i ≤ j → gd x j = gd q j) →
  Ev (fun k => impl_unite.l0 k x a b (q.length : Int) (i : Int)) (true, q.map fun v => if v = b then a else v) := by
 intro d
 induction d with
 | zero =>
  intro i x hi hx h1 h2
  refine Ev.step (fun _ => impl_unite.l0.eq_2 ..) (Ev.neg (by omega) ?_)
  have : x = q.map fun v => if v = b then a else v := ext_gd (by simp [hx]) (fun j hj => by rw [gd_map _ _ (by omega)]; exact h1 j (by omega))
  rw [this]
  exact Ev.now _
 | succ d ih =>
  intro i x hi hx h1 h2
  refine Ev.step (fun _ => impl_unite.l0.eq_2 ..) ?_
  rw [rdn, w64s (n := q.length) (by omega) (by omega), Int.toNat_natCast]
  refine Ev.pos (by omega) (Ev.pos (by omega) (Ev.pos (by omega) (Ev.ite (fun h => ?_) (fun h => ?_))))
  ·refine ih (i + 1) _ (by omega) (by simpa using hx) (fun j hj => ?_) (fun j hj => ?_)
   ·by_cases e : j = i
    ·subst e
     rw [set_at _ (by omega), if_pos (by rw [← h2 j (Nat.le_refl _)]; exact h)]
    ·rw [set_ne _ (fun e' => e e'.symm)]
     exact h1 j (by omega)
   ·rw [set_ne _ (by omega)]
    exact h2 j (by omega)
  ·refine ih (i + 1) _ (by omega) hx (fun j hj => ?_) (fun j hj => h2 j (by omega))
   by_cases e : j = i
   ·subst e
    rw [h2 j (Nat.le_refl _)] at h ⊢
    rw [if_neg h]
   ·exact h1 j (by omega)
theorem impl_unite_ev (p : List Int) (x y : Nat) (hx : x < p.length) (hy : y < p.length) (hp : p.length ≤ 35184372088832) :
  Ev (fun k => impl_unite.f k p (x : Int) (y : Int)) (decide (gd p x ≠ gd p y), uni p x y) := by
 unfold impl_unite.f
 simp only [rdn]
 have key : ∀ a b : Int, a = min (gd p x) (gd p y) → b = max (gd p x) (gd p y) → gd p x ≠ gd p y → Ev (fun k => impl_unite.j0 k p a b) (decide (gd p x ≠ gd p y), uni p x y) := by
  intro a b ha hb hne
  refine Ev.step (fun _ => impl_unite.j0.eq_2 ..) ?_
  refine (impl_unite_loop p a b hp p.length 0 p (by omega) rfl (fun j hj => by omega) (fun j _ => rfl)).to ?_
  simp only [uni, Int.toNat_natCast, ← ha, ← hb]
  simp [hne]
 refine Ev.pos (by omega) (Ev.pos (by omega) (Ev.pos (by omega) (Ev.pos (by omega) (Ev.ite (fun h => ?_) (fun h => Ev.ite (fun h' => ?_) (fun h' => ?_))))))
 ·refine (Ev.now _).to ?_
  have : uni p x y = p := by
   simp only [uni, Int.toNat_natCast, h, Int.max_self, Int.min_self]
   apply ext_gd (by simp)
   intro j hj
   rw [gd_map _ _ (by simpa using hj)]
   split <;> simp_all
  rw [this]
  simp [h]
 ·exact key _ _ (by omega) (by omega) h
 ·exact key _ _ (by omega) (by omega) h
theorem spec_l1Least_eq (a b : Int) : spec_l1Least.f a b = some (min a b) := by
 unfold spec_l1Least.f
 split
 ·congr 1; omega
 ·congr 1; omega
theorem spec_l1Most_eq (a b : Int) : spec_l1Most.f a b = some (max a b) := by
 unfold spec_l1Most.f
 split
 ·congr 1; omega
 ·congr 1; omega
theorem spec_l6Unite_loop (p : List Int) (a b : Int) (hp : p.length < 17592186044416) : ∀ (d i : Nat), i + d = p.length →
  Ev (fun k => spec_l6Unite.l0 k p a b ((p.map fun v => if v = b then a else v).take i) (i : Int)) (p.map fun v => if v = b then a else v) := by
 intro d
 induction d with
 | zero =>
  intro i hi
  refine Ev.step (fun _ => spec_l6Unite.l0.eq_2 ..) (Ev.neg (by omega) ?_)
  rw [List.take_of_length_le (by simp; omega)]
  exact Ev.now _
 | succ d ih =>
  intro i hi
  have hl : ((p.map fun v => if v = b then a else v).take i).length = i := by simp; omega
  refine Ev.step (fun _ => spec_l6Unite.l0.eq_2 ..) ?_
  rw [rdn, w64s (n := p.length) (by omega) (by omega)]
  have e := take_snoc (p.map fun v => if v = b then a else v) (i := i) (by simp; omega)
  rw [gd_map _ _ (by omega)] at e
  refine Ev.pos (by omega) (Ev.pos (by omega) (Ev.ite (fun h => Ev.pos (by omega) ?_) (fun h => Ev.pos (by omega) ?_)))
  ·rw [if_pos h] at e
   rw [e]
   exact ih (i + 1) (by omega)
  ·rw [if_neg h] at e
   rw [e]
   exact ih (i + 1) (by omega)
theorem spec_l6Unite_ev (p : List Int) (x y : Nat) (hx : x < p.length) (hy : y < p.length) (hp : p.length < 17592186044416) :
  Ev (fun k => spec_l6Unite.f k p (x : Int) (y : Int)) (uni p x y) := by
 unfold spec_l6Unite.f
 simp only [rdn, spec_l1Least_eq, spec_l1Most_eq]
 refine Ev.pos (by omega) (Ev.pos (by omega) (Ev.pos (by omega) (Ev.pos (by omega) (Ev.bind1 (Ev.bind1 ?_)))))
 have := spec_l6Unite_loop p (min (gd p x) (gd p y)) (max (gd p x) (gd p y)) hp p.length 0 (by omega)
 rw [List.take_zero] at this
 exact this
theorem impl_clone_eq (l : List Int) (hl : l.length < 17592186044416) : impl_clone.f l = some l := by
 unfold impl_clone.f
 simp [hl]
theorem spec_l1Own_eq (l : List Int) (hl : l.length < 17592186044416) : spec_l1Own.f l = some l := by
 unfold spec_l1Own.f
 simp [hl]
theorem asc_at {n i : Nat} (a : Int) (h : i < n) : gd (asc n a) i = a + i := by simp [asc, gd, List.getD, h]
theorem toIntS_loop (l : List Int) (hl : l.length ≤ 35184372088832) : ∀ (d i : Nat) (x : List Int), i + d = l.length → x.length = l.length → (∀ j, j < i → gd x j = gd l j) → Ev (fun k => laws_toIntS.l0 k l x (i : Int)) l := by
 intro d
 induction d with
 | zero =>
  intro i x hi hx h
  refine Ev.step (fun _ => laws_toIntS.l0.eq_2 ..) ?_
  refine Ev.neg (by omega) ?_
  have : x = l := by
   apply List.ext_getElem hx
   intro j h1 h2
   have := h j (by omega)
   simpa [gd, List.getD, h1, h2] using this
  subst this
  exact Ev.now _
 | succ d ih =>
  intro i x hi hx h
  refine Ev.step (fun _ => laws_toIntS.l0.eq_2 ..) ?_
  refine Ev.pos (by omega) ?_
  refine Ev.pos (by omega) ?_
  refine Ev.pos (by omega) ?_
  rw [w64s (n := l.length) (by omega) (by omega), rdn, Int.toNat_natCast]
  refine ih (i + 1) _ (by omega) (by simpa using hx) ?_
  intro j hj
  by_cases e : j = i
  ·subst e
   simp [gd, List.getD, show j < x.length by omega]
  ·have := h j (by omega)
   simp only [gd, List.getD] at this ⊢
   rw [List.getElem?_set_ne (by omega)]
   exact this
theorem toIntS_ev (l : List Int) (hl : l.length ≤ 35184372088832) : Ev (fun k => laws_toIntS.f k l) l := by
 unfold laws_toIntS.f
 refine Ev.pos (by omega) ?_
 refine Ev.pos (by omega) ?_
 exact toIntS_loop l hl l.length 0 _ (by omega) (by simp) (fun j hj => by omega)
theorem eqIntS_loop (a b : List Int) (hb : b.length = a.length) (hl : a.length ≤ 35184372088832) : ∀ (d i : Nat), i + d = a.length → Ev (fun k => laws_eqIntS.l0 k a b (i : Int)) (decide (a.drop i = b.drop i)) := by
 intro d
 induction d with
 | zero =>
  intro i hi
  refine Ev.step (fun _ => laws_eqIntS.l0.eq_2 ..) ?_
  refine Ev.neg (by omega) ?_
  refine (Ev.now _).to ?_
  rw [List.drop_of_length_le (by omega), List.drop_of_length_le (by omega)]
  simp
 | succ d ih =>
  intro i hi
  refine Ev.step (fun _ => laws_eqIntS.l0.eq_2 ..) ?_
  refine Ev.pos (by omega) ?_
  refine Ev.pos (by omega) ?_
  refine Ev.pos (by omega) ?_
  rw [w64s (n := a.length) (by omega) (by omega), rdn, rdn]
  have e1 : a.drop i = gd a i :: a.drop (i + 1) := by rw [gd_lt (by omega)]; exact List.drop_eq_getElem_cons (by omega)
  have e2 : b.drop i = gd b i :: b.drop (i + 1) := by rw [gd_lt (by omega)]; exact List.drop_eq_getElem_cons (by omega)
  refine Ev.ite (fun h => ?_) (fun h => ?_)
  ·refine (ih (i + 1) (by omega)).to ?_
   rw [e1, e2, h]
   simp
  ·refine (Ev.now _).to ?_
   rw [e1, e2]
   simp [h]
theorem eqIntS_ev (a b : List Int) (hl : a.length ≤ 35184372088832) : Ev (fun k => laws_eqIntS.f k a b) (decide (a = b)) := by
 unfold laws_eqIntS.f
 refine Ev.ite (fun h => ?_) (fun h => ?_)
 ·exact eqIntS_loop a b (by omega) hl a.length 0 (by omega)
 ·refine (Ev.now _).to ?_
  have : a ≠ b := fun e => h (by rw [e])
  simp [this]
theorem eqIntS_same (a : List Int) (hl : a.length ≤ 35184372088832) : Ev (fun k => laws_eqIntS.f k a a) true := (eqIntS_ev a a hl).to (by simp)
abbrev IOp := S75
abbrev LOp := S110
theorem rdO_n (xs : List IOp) (i : Nat) : rd_T75 xs (i : Int) = xs.getD i z75 := by simp [rd_T75]
theorem rdL_n (xs : List LOp) (i : Nat) : rd_T110 xs (i : Int) = xs.getD i z110 := by simp [rd_T110]
def inB (n x : Int) : Bool := decide (0 ≤ x ∧ x < n)
def powI (n k : Int) : Int := n ^ k.toNat
def opB (n a : Int) (l : List Int) : Bool := decide (0 ≤ a ∧ a ≤ 3) && (decide ((l.length : Int) = powI n a) && l.all (inB n))
def algB (n : Int) (ops : List IOp) : Bool := sizeB n && (decide (ops.length ≤ 4) && ops.all fun x => opB n x.f0 x.f1)
theorem impl_power_ev (n k : Int) (hn : 1 ≤ n ∧ n ≤ 8) (hk : 0 ≤ k ∧ k ≤ 3) : Ev (fun f => impl_power.f f n k) (powI n k) := by
 have h1 : n = 1 ∨ n = 2 ∨ n = 3 ∨ n = 4 ∨ n = 5 ∨ n = 6 ∨ n = 7 ∨ n = 8 := by omega
 have h2 : k = 0 ∨ k = 1 ∨ k = 2 ∨ k = 3 := by omega
 refine Ev.of (fun f => impl_power.mono n k f) (k := 5) ?_
 rcases h1 with rfl | rfl | rfl | rfl | rfl | rfl | rfl | rfl <;> rcases h2 with rfl | rfl | rfl | rfl <;> decide +kernel
theorem spec_l2Pow_ev (n k : Int) (hn : 1 ≤ n ∧ n ≤ 8) (hk : 0 ≤ k ∧ k ≤ 3) : Ev (fun f => spec_l2Pow.f f n k) (powI n k) := by
 have h1 : n = 1 ∨ n = 2 ∨ n = 3 ∨ n = 4 ∨ n = 5 ∨ n = 6 ∨ n = 7 ∨ n = 8 := by omega
 have h2 : k = 0 ∨ k = 1 ∨ k = 2 ∨ k = 3 := by omega
 refine Ev.of (fun f => spec_l2Pow.mono n k f) (k := 5) ?_
 rcases h1 with rfl | rfl | rfl | rfl | rfl | rfl | rfl | rfl <;> rcases h2 with rfl | rfl | rfl | rfl <;> decide +kernel
theorem impl_inSize_ev (l : List Int) (n : Int) (hl : l.length ≤ 35184372088832) : Ev (fun k => impl_inSize.f k l n) (l.all (inB n)) := by
 unfold impl_inSize.f
 refine all_loop l 0 (inB n) (fun k i => impl_inSize.l0 k n l (l.length : Int) i) ?_ ?_ ?_ l.length 0 (by omega)
 ·exact Ev.step (fun _ => impl_inSize.l0.eq_2 ..) (Ev.neg (by omega) (Ev.now _))
 ·intro i r hi hp h
  have hp' := of_decide_eq_true hp
  refine Ev.step (fun _ => impl_inSize.l0.eq_2 ..) ?_
  rw [w64s (n := l.length) (by omega) (by omega), rdn]
  change 0 ≤ gd l i ∧ gd l i < n at hp'
  exact Ev.pos (by omega) (Ev.pos (by omega) (Ev.pos (by omega) (Ev.neg (by omega) (Ev.neg (by omega) h))))
 ·intro i hi hp
  have hp' := of_decide_eq_false hp
  change ¬ (0 ≤ gd l i ∧ gd l i < n) at hp'
  refine Ev.step (fun _ => impl_inSize.l0.eq_2 ..) ?_
  rw [rdn]
  refine Ev.pos (by omega) (Ev.pos (by omega) (Ev.pos (by omega) (Ev.ite (fun _ => Ev.now _) (fun h1 => Ev.pos (by omega) (Ev.now _)))))
theorem impl_isOp_ev (n a : Int) (l : List Int) (hn : sizeB n = true) (hl : l.length ≤ 35184372088832) : Ev (fun k => impl_isOp.f k a l n) (opB n a l) := by
 have hn' := of_decide_eq_true hn
 unfold impl_isOp.f opB
 refine Ev.ite (fun h1 => Ev.ite (fun h2 => ?_) (fun h2 => (Ev.now _).to ?_)) (fun h1 => (Ev.now _).to ?_)
 ·refine (impl_power_ev n a hn' ⟨by omega, by omega⟩).bind (Ev.ite (fun h3 => ?_) (fun h3 => (Ev.now _).to ?_))
  ·refine (impl_inSize_ev l n hl).bind ((Ev.now _).to ?_)
   rw [decide_eq_true (show 0 ≤ a ∧ a ≤ 3 by omega), decide_eq_true h3]
   simp
  ·rw [decide_eq_false h3]
   simp
 ·rw [decide_eq_false (show ¬ (0 ≤ a ∧ a ≤ 3) by omega)]
  simp
 ·rw [decide_eq_false (show ¬ (0 ≤ a ∧ a ≤ 3) by omega)]
  simp
theorem spec_l2Op_ev (n a : Int) (l : List Int) (hn : sizeB n = true) (hl : l.length ≤ 35184372088832) : Ev (fun k => spec_l2Op.f k n a l) (opB n a l) := by
 have hn' := of_decide_eq_true hn
 have loop : Ev (fun k => spec_l2Op.l0 k n 0 a l) (l.all (inB n)) := by
  refine all_loop l 0 (inB n) (fun k i => spec_l2Op.l0 k n i a l) ?_ ?_ ?_ l.length 0 (by omega)
  ·exact Ev.step (fun _ => spec_l2Op.l0.eq_2 ..) (Ev.neg (by omega) (Ev.now _))
  ·intro i r hi hp h
   have hp' := of_decide_eq_true hp
   change 0 ≤ gd l i ∧ gd l i < n at hp'
   refine Ev.step (fun _ => spec_l2Op.l0.eq_2 ..) ?_
   rw [w64s (n := l.length) (by omega) (by omega), rdn, spec_l1In_eq, w64 (by omega) (by omega)]
   refine Ev.pos (by omega) (Ev.pos (by omega) (Ev.bind1 (Ev.pos (decide_eq_true (by omega)) h)))
  ·intro i hi hp
   have hp' := of_decide_eq_false hp
   change ¬ (0 ≤ gd l i ∧ gd l i < n) at hp'
   refine Ev.step (fun _ => spec_l2Op.l0.eq_2 ..) ?_
   rw [rdn, spec_l1In_eq, w64 (by omega) (by omega)]
   refine Ev.pos (by omega) (Ev.pos (by omega) (Ev.bind1 (Ev.neg (by rw [decide_eq_true_eq]; omega) (Ev.now _))))
 unfold spec_l2Op.f opB
 rw [spec_l1In_eq]
 refine Ev.bind1 (Ev.ite (fun h1 => ?_) (fun h1 => ?_))
 ·have h1' := of_decide_eq_true h1
  refine (spec_l2Pow_ev n a hn' h1').bind ?_
  refine Ev.step (fun _ => spec_l2Op.j0.eq_2 ..) (Ev.ite (fun h2 => (Ev.now _).to ?_) (fun h2 => loop.to ?_))
  ·have : ¬ ((l.length : Int) = powI n a) := by simpa using h2
   simp [this]
  ·have : (l.length : Int) = powI n a := by simpa using h2
   rw [decide_eq_true h1', decide_eq_true this]
   simp
 ·refine Ev.step (fun _ => spec_l2Op.j0.eq_2 ..) (Ev.pos rfl ((Ev.now _).to ?_))
  simp at h1 ⊢
  omega
def fitO (ops : List IOp) : Prop := ops.length ≤ 8796093022208 ∧ ∀ x ∈ ops, x.f1.length ≤ 1048576
theorem fitO_at {ops : List IOp} (h : fitO ops) {i : Nat} (hi : i < ops.length) : (ops.getD i z75).f1.length ≤ 1048576 := by
 refine h.2 _ ?_
 rw [List.getD_eq_getElem?_getD, List.getElem?_eq_getElem hi]
 exact List.getElem_mem hi
theorem impl_IsAlgebra_ev (n : Int) (ops : List IOp) (hf : fitO ops) : Ev (fun k => impl_IsAlgebra.f k n ops) (algB n ops) := by
 have hl := hf.1
 have loop : sizeB n = true → Ev (fun k => impl_IsAlgebra.l0 k ops (ops.length : Int) 0 n ops) (ops.all fun x => opB n x.f0 x.f1) := by
  intro hn
  refine all_loop ops z75 (fun x => opB n x.f0 x.f1) (fun k i => impl_IsAlgebra.l0 k ops (ops.length : Int) i n ops) ?_ ?_ ?_ ops.length 0 (by omega)
  ·exact Ev.step (fun _ => impl_IsAlgebra.l0.eq_2 ..) (Ev.neg (by omega) (Ev.now _))
  ·intro i r hi hp h
   refine Ev.step (fun _ => impl_IsAlgebra.l0.eq_2 ..) ?_
   rw [w64s (n := ops.length) (by omega) (by omega), rdO_n]
   have he := impl_isOp_ev n (ops.getD i z75).f0 (ops.getD i z75).f1 hn (by have := fitO_at hf hi; omega)
   rw [hp] at he
   exact Ev.pos (by omega) (Ev.pos (by omega) (Ev.pos (by omega) (he.bind (Ev.pos rfl h))))
  ·intro i hi hp
   refine Ev.step (fun _ => impl_IsAlgebra.l0.eq_2 ..) ?_
   rw [rdO_n]
   have he := impl_isOp_ev n (ops.getD i z75).f0 (ops.getD i z75).f1 hn (by have := fitO_at hf hi; omega)
   rw [hp] at he
   exact Ev.pos (by omega) (Ev.pos (by omega) (Ev.pos (by omega) (he.bind (Ev.neg (by decide) (Ev.now _)))))
 unfold impl_IsAlgebra.f
 have no : sizeB n = false → algB n ops = false := fun h => by simp [algB, h]
 refine Ev.ite (fun h => ?_) (fun h => Ev.ite (fun h' => ?_) (fun h' => ?_))
 ·exact Ev.step (fun _ => impl_IsAlgebra.j0.eq_2 ..) (Ev.pos rfl ((Ev.now _).to (no (decide_eq_false (by omega))).symm))
 ·exact Ev.step (fun _ => impl_IsAlgebra.j0.eq_2 ..) (Ev.pos rfl ((Ev.now _).to (no (decide_eq_false (by omega))).symm))
 ·have hn : sizeB n = true := decide_eq_true (by omega)
  refine Ev.step (fun _ => impl_IsAlgebra.j0.eq_2 ..) (Ev.ite (fun h2 => (Ev.now _).to ?_) (fun h2 => (loop hn).to ?_))
  ·have := of_decide_eq_true h2
   simp [algB, show ¬ ops.length ≤ 4 by omega]
  ·have : ops.length ≤ 4 := by simp at h2; omega
   simp [algB, hn, this]
theorem spec_l2Good_ev (n : Int) (ops : List IOp) (hf : fitO ops) : Ev (fun k => spec_l2Good.f k n ops) (algB n ops) := by
 have hl := hf.1
 have loop : sizeB n = true → Ev (fun k => spec_l2Good.l0 k 0 n ops) (ops.all fun x => opB n x.f0 x.f1) := by
  intro hn
  refine all_loop ops z75 (fun x => opB n x.f0 x.f1) (fun k i => spec_l2Good.l0 k i n ops) ?_ ?_ ?_ ops.length 0 (by omega)
  ·exact Ev.step (fun _ => spec_l2Good.l0.eq_2 ..) (Ev.neg (by omega) (Ev.now _))
  ·intro i r hi hp h
   refine Ev.step (fun _ => spec_l2Good.l0.eq_2 ..) ?_
   rw [w64s (n := ops.length) (by omega) (by omega), rdO_n]
   have he := spec_l2Op_ev n (ops.getD i z75).f0 (ops.getD i z75).f1 hn (by have := fitO_at hf hi; omega)
   rw [hp] at he
   exact Ev.pos (by omega) (Ev.pos (by omega) (he.bind (Ev.pos rfl h)))
  ·intro i hi hp
   refine Ev.step (fun _ => spec_l2Good.l0.eq_2 ..) ?_
   rw [rdO_n]
   have he := spec_l2Op_ev n (ops.getD i z75).f0 (ops.getD i z75).f1 hn (by have := fitO_at hf hi; omega)
   rw [hp] at he
   exact Ev.pos (by omega) (Ev.pos (by omega) (he.bind (Ev.neg (by decide) (Ev.now _))))
 unfold spec_l2Good.f
 rw [spec_l1In_eq]
 refine Ev.bind1 (Ev.ite (fun h => ?_) (fun h => ?_))
 ·refine Ev.step (fun _ => spec_l2Good.j0.eq_2 ..) (Ev.ite (fun h2 => (Ev.now _).to ?_) (fun h2 => (loop h).to ?_))
  ·have := of_decide_eq_true h2
   simp [algB, show ¬ ops.length ≤ 4 by omega]
  ·have : ops.length ≤ 4 := by simp at h2; omega
   have h' : sizeB n = true := h
   simp [algB, h', this]
 ·refine Ev.step (fun _ => spec_l2Good.j0.eq_2 ..) (Ev.pos rfl ((Ev.now _).to ?_))
  have h' : sizeB n = false := by simpa [sizeB] using h
  simp [algB, h']
def argsM (n : Int) : Nat → Int → List Int
 | 0, _ => []
 | k + 1, i => argsM n k (i / n) ++ [i % n]
def valM (n : Int) (l : List Int) : Int := l.foldl (fun at_ x => at_ * n + x) 0
theorem argsM_length (n : Int) : ∀ (k : Nat) (i : Int), (argsM n k i).length = k := by
 intro k
 induction k with
 | zero => intro i; rfl
 | succ k ih => intro i; simp [argsM, ih]
theorem argsM_in {n : Int} (hn : 1 ≤ n) : ∀ (k : Nat) (i : Int), 0 ≤ i → ∀ x ∈ argsM n k i, 0 ≤ x ∧ x < n := by
 intro k
 induction k with
 | zero => intro i _ x hx; simp [argsM] at hx
 | succ k ih =>
  intro i hi x hx
  simp only [argsM, List.mem_append, List.mem_singleton] at hx
  rcases hx with hx | rfl
  ·exact ih _ (Int.ediv_nonneg hi (by omega)) x hx
  ·exact ⟨Int.emod_nonneg _ (by omega), Int.emod_lt_of_pos _ (by omega)⟩
theorem valM_snoc (n : Int) (l : List Int) (x : Int) : valM n (l ++ [x]) = valM n l * n + x := by simp [valM]
theorem rev_ind {α : Type} {P : List α → Prop} (h0 : P []) (h1 : ∀ l x, P l → P (l ++ [x])) (l : List α) : P l := by
 have key : ∀ (n : Nat) (l : List α), l.length = n → P l := by
  intro n
  induction n with
  | zero =>
   intro l hl
   have : l = [] := List.eq_nil_of_length_eq_zero hl
   subst this
   exact h0
  | succ n ih =>
   intro l hl
   have hne : l ≠ [] := fun h => by subst h; simp at hl
   rw [← List.dropLast_concat_getLast hne]
   exact h1 _ _ (ih _ (by simp [hl]))
 exact key l.length l rfl
theorem valM_in {n : Int} (hn : 1 ≤ n) (l : List Int) : (∀ x ∈ l, 0 ≤ x ∧ x < n) → 0 ≤ valM n l ∧ valM n l < n ^ l.length := by
 induction l using rev_ind with
 | h0 => intro _; simp [valM]
 | h1 l x ih =>
  intro h
  obtain ⟨h1, h2⟩ := ih (fun y hy => h y (by simp [hy]))
  obtain ⟨h3, h4⟩ := h x (by simp)
  rw [valM_snoc, List.length_append, List.length_singleton, Int.pow_succ]
  have h5 : 0 ≤ valM n l * n := Int.mul_nonneg h1 (by omega)
  have h6 : (valM n l + 1) * n ≤ n ^ l.length * n := Int.mul_le_mul_of_nonneg_right (by omega) (by omega)
  rw [Int.add_mul] at h6
  omega
theorem valM_args {n : Int} (hn : 1 ≤ n) : ∀ (k : Nat) (i : Int), 0 ≤ i → i < n ^ k → valM n (argsM n k i) = i := by
 intro k
 induction k with
 | zero => intro i h0 h1; simp at h1; simp [valM, argsM]; omega
 | succ k ih =>
  intro i h0 h1
  rw [argsM, valM_snoc, ih (i / n) (Int.ediv_nonneg h0 (by omega)) (Int.ediv_lt_of_lt_mul (by omega) (by rw [Int.pow_succ] at h1; exact h1))]
  rw [Int.mul_comm]
  exact Int.mul_ediv_add_emod i n
theorem div_in {i n : Int} (h0 : 0 ≤ i) (hi : i ≤ 1152921504606846976) (hn : 1 ≤ n) : wrap64 (Int.tdiv i n) = i / n ∧ 0 ≤ i / n ∧ i / n ≤ i := by
 have h1 : Int.tdiv i n = i / n := Int.tdiv_eq_ediv_of_nonneg h0
 have h2 : 0 ≤ i / n := Int.ediv_nonneg h0 (by omega)
 have h3 : i / n ≤ i := Int.ediv_le_self n h0
 exact ⟨by rw [h1, w64 (by omega) (by omega)], h2, h3⟩
theorem impl_argsAt_loop (n : Int) (hn : 1 ≤ n) (k : Nat) (hk : k ≤ 8796093022208) : ∀ (j : Nat) (i : Int) (x : List Int), j ≤ k → x.length = k → 0 ≤ i → i ≤ 1152921504606846976 → Ev (fun f => impl_argsAt.l0 f i n x ((j : Int) - 1)) (argsM n j i ++ x.drop j) := by
 intro j
 induction j with
 | zero =>
  intro i x _ _ _ _
  exact Ev.step (fun _ => impl_argsAt.l0.eq_2 ..) (Ev.neg (by omega) (Ev.now _))
 | succ j ih =>
  intro i x hj hx h0 hi
  obtain ⟨e1, e2, e3⟩ := div_in h0 hi hn
  refine Ev.step (fun _ => impl_argsAt.l0.eq_2 ..) (Ev.pos (by omega) (Ev.neg (by omega) (Ev.pos (by omega) (Ev.pos (by omega) ?_))))
  rw [e1, Int.tmod_eq_emod_of_nonneg h0, show (((j + 1 : Nat) : Int) - 1).toNat = j by omega, w64 (x := ((j + 1 : Nat) : Int) - 1 - 1) (by omega) (by omega), show (((j + 1 : Nat) : Int) - 1 - 1) = (j : Int) - 1 by omega]
  refine (ih (i / n) (x.set j (i % n)) (by omega) (by simpa using hx) e2 (by omega)).to ?_
  rw [argsM, List.append_assoc]
  congr 1
  rw [List.drop_eq_getElem_cons (by simp; omega), List.drop_set_of_lt (by omega)]
  simp
theorem impl_argsAt_ev (n : Int) (k : Nat) (i : Int) (hn : 1 ≤ n) (hk : k ≤ 3) (h0 : 0 ≤ i) (hi : i ≤ 1152921504606846976) : Ev (fun f => impl_argsAt.f f i (k : Int) n) (argsM n k i) := by
 unfold impl_argsAt.f
 refine Ev.pos (by omega) (Ev.pos (by omega) ?_)
 rw [w64 (by omega) (by omega)]
 exact (impl_argsAt_loop n hn k (by omega) k i _ (Nat.le_refl _) (by simp) h0 hi).to (by simp)
theorem spec_l2Args_loop (n : Int) (hn : 1 ≤ n) (k : Nat) (hk : k ≤ 8796093022208) : ∀ (j : Nat) (i : Int) (x : List Int), j ≤ k → x.length = k → 0 ≤ i → i ≤ 1152921504606846976 → Ev (fun f => spec_l2Args.l0 f n i x ((j : Int) - 1)) (argsM n j i ++ x.drop j) := by
 intro j
 induction j with
 | zero =>
  intro i x _ _ _ _
  exact Ev.step (fun _ => spec_l2Args.l0.eq_2 ..) (Ev.neg (by omega) (Ev.now _))
 | succ j ih =>
  intro i x hj hx h0 hi
  obtain ⟨e1, e2, e3⟩ := div_in h0 hi hn
  refine Ev.step (fun _ => spec_l2Args.l0.eq_2 ..) (Ev.pos (by omega) (Ev.neg (by omega) (Ev.pos (by omega) (Ev.pos (by omega) ?_))))
  rw [e1, Int.tmod_eq_emod_of_nonneg h0, show (((j + 1 : Nat) : Int) - 1).toNat = j by omega, w64 (x := ((j + 1 : Nat) : Int) - 1 - 1) (by omega) (by omega), show (((j + 1 : Nat) : Int) - 1 - 1) = (j : Int) - 1 by omega]
  refine (ih (i / n) (x.set j (i % n)) (by omega) (by simpa using hx) e2 (by omega)).to ?_
  rw [argsM, List.append_assoc]
  congr 1
  rw [List.drop_eq_getElem_cons (by simp; omega), List.drop_set_of_lt (by omega)]
  simp
theorem spec_l2Args_ev (n : Int) (k : Nat) (i : Int) (hn : 1 ≤ n) (hk : k ≤ 3) (h0 : 0 ≤ i) (hi : i ≤ 1152921504606846976) : Ev (fun f => spec_l2Args.f f n (k : Int) i) (argsM n k i) := by
 unfold spec_l2Args.f
 refine Ev.pos (by omega) (Ev.pos (by omega) ?_)
 rw [w64 (by omega) (by omega)]
 exact (spec_l2Args_loop n hn k (by omega) k i _ (Nat.le_refl _) (by simp) h0 hi).to (by simp)
theorem grow_in {n a x : Int} (hn : 1 ≤ n ∧ n ≤ 8) (ha : 0 ≤ a ∧ a ≤ 1048576) (hx : 0 ≤ x ∧ x < n) : wrap64 (wrap64 (a * n) + x) = a * n + x := by
 have h1 : 0 ≤ a * n := Int.mul_nonneg ha.1 (by omega)
 have h2 : a * n ≤ 1048576 * 8 := Int.mul_le_mul ha.2 hn.2 (by omega) (by omega)
 rw [w64 (x := a * n) (by omega) (by omega), w64 (by omega) (by omega)]
theorem pow_le3 {n : Int} (hn : 1 ≤ n ∧ n ≤ 8) {k : Nat} (hk : k ≤ 3) : n ^ k ≤ 512 := by
 have h1 : n = 1 ∨ n = 2 ∨ n = 3 ∨ n = 4 ∨ n = 5 ∨ n = 6 ∨ n = 7 ∨ n = 8 := by omega
 have h2 : k = 0 ∨ k = 1 ∨ k = 2 ∨ k = 3 := by omega
 rcases h1 with rfl | rfl | rfl | rfl | rfl | rfl | rfl | rfl <;> rcases h2 with rfl | rfl | rfl | rfl <;> decide
theorem spec_l2Value_loop (n : Int) (ops : List IOp) (op : Nat) (args : List Int) (hn : 1 ≤ n ∧ n ≤ 8) (hop : op < ops.length) (ha : ∀ x ∈ args, 0 ≤ x ∧ x < n) (hl : args.length ≤ 3) (ht : n ^ args.length ≤ ((ops.getD op z75).f1.length : Int)) :
  ∀ (d i : Nat), i + d = args.length → Ev (fun k => spec_l2Value.l0 k (op : Int) args (valM n (args.take i)) (i : Int) n ops) (gd (ops.getD op z75).f1 (valM n args).toNat) := by
 have hv := valM_in hn.1 args ha
 intro d
 induction d with
 | zero =>
  intro i hi
  refine Ev.step (fun _ => spec_l2Value.l0.eq_2 ..) (Ev.neg (by omega) ?_)
  rw [List.take_of_length_le (by omega), rdO_n]
  exact Ev.pos (by omega) (Ev.pos (by omega) (Ev.pos hv.1 (Ev.pos (by omega) (Ev.now _))))
 | succ d ih =>
  intro i hi
  have hx := ha (gd args i) (by rw [gd_lt (by omega)]; exact List.getElem_mem _)
  have hvi := valM_in hn.1 (args.take i) (fun x h => ha x (List.mem_of_mem_take h))
  have h512 := pow_le3 hn (k := (args.take i).length) (by simp; omega)
  refine Ev.step (fun _ => spec_l2Value.l0.eq_2 ..) (Ev.pos (by omega) (Ev.pos (by omega) ?_))
  rw [rdn, grow_in hn ⟨hvi.1, by omega⟩ hx, w64s (n := args.length) (by omega) (by omega), ← valM_snoc, take_snoc _ (by omega)]
  exact ih (i + 1) (by omega)
theorem spec_l2Value_ev (n : Int) (ops : List IOp) (op : Nat) (args : List Int) (hn : 1 ≤ n ∧ n ≤ 8) (hop : op < ops.length) (ha : ∀ x ∈ args, 0 ≤ x ∧ x < n) (hl : args.length ≤ 3) (ht : n ^ args.length ≤ ((ops.getD op z75).f1.length : Int)) :
  Ev (fun k => spec_l2Value.f k n ops (op : Int) args) (gd (ops.getD op z75).f1 (valM n args).toNat) := by
 unfold spec_l2Value.f
 exact spec_l2Value_loop n ops op args hn hop ha hl ht args.length 0 (by omega)
theorem impl_indexOf_loop (n : Int) (args : List Int) (hn : 1 ≤ n ∧ n ≤ 8) (ha : ∀ x ∈ args, 0 ≤ x ∧ x < n) (hl : args.length ≤ 3) : ∀ (d i : Nat), i + d = args.length → Ev (fun k => impl_indexOf.l0 k n (valM n (args.take i)) args (args.length : Int) (i : Int)) (valM n args) := by
 intro d
 induction d with
 | zero =>
  intro i hi
  refine Ev.step (fun _ => impl_indexOf.l0.eq_2 ..) (Ev.neg (by omega) ?_)
  rw [List.take_of_length_le (by omega)]
  exact Ev.now _
 | succ d ih =>
  intro i hi
  have hx := ha (gd args i) (by rw [gd_lt (by omega)]; exact List.getElem_mem _)
  have hvi := valM_in hn.1 (args.take i) (fun x h => ha x (List.mem_of_mem_take h))
  have h512 := pow_le3 hn (k := (args.take i).length) (by simp; omega)
  refine Ev.step (fun _ => impl_indexOf.l0.eq_2 ..) (Ev.pos (by omega) (Ev.pos (by omega) (Ev.pos (by omega) ?_)))
  rw [rdn, grow_in hn ⟨hvi.1, by omega⟩ hx, w64s (n := args.length) (by omega) (by omega), ← valM_snoc, take_snoc _ (by omega)]
  exact ih (i + 1) (by omega)
theorem impl_indexOf_ev (n : Int) (args : List Int) (hn : 1 ≤ n ∧ n ≤ 8) (ha : ∀ x ∈ args, 0 ≤ x ∧ x < n) (hl : args.length ≤ 3) : Ev (fun k => impl_indexOf.f k args n) (valM n args) := by
 unfold impl_indexOf.f
 exact impl_indexOf_loop n args hn ha hl args.length 0 (by omega)
theorem algB_size {n : Int} {ops : List IOp} (h : algB n ops = true) : 1 ≤ n ∧ n ≤ 8 := by
 simp [algB] at h
 exact of_decide_eq_true h.1
theorem algB_few {n : Int} {ops : List IOp} (h : algB n ops = true) : ops.length ≤ 4 := by
 simp [algB] at h
 exact h.2.1
theorem algB_op {n : Int} {ops : List IOp} (h : algB n ops = true) {i : Nat} (hi : i < ops.length) : opB n (ops.getD i z75).f0 (ops.getD i z75).f1 = true := by
 simp [algB] at h
 have := h.2.2 (ops.getD i z75) (by rw [List.getD_eq_getElem?_getD, List.getElem?_eq_getElem hi]; exact List.getElem_mem hi)
 exact this
theorem opB_of {n a : Int} {l : List Int} (h : opB n a l = true) : ∃ k : Nat, a = k ∧ k ≤ 3 ∧ (l.length : Int) = n ^ k ∧ ∀ x ∈ l, 0 ≤ x ∧ x < n := by
 simp only [opB, Bool.and_eq_true, decide_eq_true_eq, List.all_eq_true, inB] at h
 refine ⟨a.toNat, by omega, by omega, h.2.1, h.2.2⟩
def conv (l : List LOp) : List IOp := l.map fun x => ⟨x.f0, x.f1⟩
theorem conv_length (l : List LOp) : (conv l).length = l.length := by simp [conv]
theorem laws_szIntS_eq (l : List Int) (t : Int) (hl : l.length ≤ maxLen) (ht : 0 ≤ t ∧ t ≤ 1048576) : ∃ r, laws_szIntS.f l t = some r ∧ -1 ≤ r ∧ (0 ≤ r → r = t - l.length) ∧ (r < 0 → t < (l.length : Int)) := by
 unfold maxLen at hl
 unfold laws_szIntS.f
 rw [w64 (by omega) (by omega)]
 split
 ·exact ⟨-1, rfl, by omega, by omega, by omega⟩
 ·exact ⟨_, rfl, by omega, by omega, by omega⟩
theorem laws_szOp_eq (a : Int) (l : List Int) (t : Int) (hl : l.length ≤ maxLen) (ht : 0 ≤ t ∧ t ≤ 1048576) : ∃ r, laws_szOp.f a l t = some r ∧ -1 ≤ r ∧ (0 ≤ r → r = t - l.length) ∧ (r < 0 → t < (l.length : Int)) := by
 obtain ⟨r, hr, h1, h2, h3⟩ := laws_szIntS_eq l t hl ht
 unfold laws_szOp.f
 rw [hr]
 simp only [Option.bind_some]
 split
 ·exact ⟨-1, rfl, by omega, by omega, fun _ => h3 (by omega)⟩
 ·exact ⟨r, rfl, h1, h2, h3⟩
theorem laws_szOpS_loop (l : List LOp) (hl : l.length ≤ 1048576) (hg : ∀ x ∈ l, x.f1.length ≤ maxLen) : ∀ (d i : Nat) (t : Int), i + d = l.length → 0 ≤ t ∧ t ≤ 1048576 →
  ∃ r, Ev (fun k => laws_szOpS.l0 k l t (i : Int)) r ∧ -1 ≤ r ∧ r ≤ t ∧ (0 ≤ r → ∀ x ∈ l.drop i, (x.f1.length : Int) ≤ t) := by
 intro d
 induction d with
 | zero =>
  intro i t hi ht
  refine ⟨t, Ev.step (fun _ => laws_szOpS.l0.eq_2 ..) (Ev.neg (by omega) (Ev.now _)), by omega, by omega, fun _ x hx => ?_⟩
  rw [List.drop_of_length_le (by omega)] at hx
  simp at hx
 | succ d ih =>
  intro i t hi ht
  have hm : l.getD i z110 ∈ l := by
   rw [List.getD_eq_getElem?_getD, List.getElem?_eq_getElem (by omega)]
   exact List.getElem_mem _
  obtain ⟨r, hr, h1, h2, h3⟩ := laws_szOp_eq (l.getD i z110).f0 (l.getD i z110).f1 t (hg _ hm) ht
  by_cases hn : r < 0
  ·refine ⟨-1, Ev.step (fun _ => laws_szOpS.l0.eq_2 ..) ?_, by omega, by omega, by omega⟩
   rw [rdL_n, hr]
   exact Ev.pos (by omega) (Ev.pos (by omega) (Ev.bind1 (Ev.pos hn (Ev.now _))))
  ·have he := h2 (by omega)
   obtain ⟨q, hq, h4, h5, h6⟩ := ih (i + 1) r (by omega) (by omega)
   refine ⟨q, Ev.step (fun _ => laws_szOpS.l0.eq_2 ..) ?_, h4, by omega, fun h0 x hx => ?_⟩
   ·rw [rdL_n, hr, w64s (n := l.length) (by omega) (by omega)]
    exact Ev.pos (by omega) (Ev.pos (by omega) (Ev.bind1 (Ev.neg hn hq)))
   ·rw [drop_cons l z110 (by omega), List.mem_cons] at hx
    rcases hx with rfl | hx
    ·omega
    ·have := h6 h0 x hx
     omega
theorem laws_szOpS_ev (l : List LOp) (t : Int) (hl : l.length ≤ maxLen) (hg : ∀ x ∈ l, x.f1.length ≤ maxLen) (ht : 0 ≤ t ∧ t ≤ 1048576) :
  ∃ r, Ev (fun k => laws_szOpS.f k l t) r ∧ -1 ≤ r ∧ r ≤ t ∧ (0 ≤ r → (l.length : Int) ≤ t ∧ ∀ x ∈ l, (x.f1.length : Int) ≤ t) := by
 unfold maxLen at hl
 by_cases h : t - (l.length : Int) < 0
 ·refine ⟨-1, ?_, by omega, by omega, by omega⟩
  unfold laws_szOpS.f
  rw [w64 (by omega) (by omega)]
  exact Ev.pos h (Ev.now _)
 ·obtain ⟨r, h1, h2, h3, h4⟩ := laws_szOpS_loop l (by omega) hg l.length 0 (t - l.length) (by omega) (by omega)
  refine ⟨r, ?_, h2, by omega, fun h0 => ⟨by omega, fun x hx => ?_⟩⟩
  ·unfold laws_szOpS.f
   rw [w64 (by omega) (by omega)]
   exact Ev.neg h h1
  ·have := h4 h0 x (by simpa using hx)
   omega
theorem laws_szAlgebra_ev (s : Int) (l : List LOp) (t : Int) (hl : l.length ≤ maxLen) (hg : ∀ x ∈ l, x.f1.length ≤ maxLen) (ht : 0 ≤ t ∧ t ≤ 1048576) :
  ∃ r, Ev (fun k => laws_szAlgebra.f k s l t) r ∧ -1 ≤ r ∧ r ≤ t ∧ (0 ≤ r → (l.length : Int) ≤ t ∧ ∀ x ∈ l, (x.f1.length : Int) ≤ t) := by
 obtain ⟨r, h1, h2, h3, h4⟩ := laws_szOpS_ev l t hl hg ht
 unfold laws_szAlgebra.f
 by_cases h : r < 0
 ·exact ⟨-1, h1.bind (Ev.pos h (Ev.now _)), by omega, by omega, by omega⟩
 ·exact ⟨r, h1.bind (Ev.neg h (Ev.now _)), h2, h3, h4⟩
theorem laws_toOp_ev (a : Int) (l : List Int) (hl : l.length ≤ 35184372088832) : Ev (fun k => laws_toOp.f k a l) (a, l) := by
 unfold laws_toOp.f
 exact (toIntS_ev l hl).bind (Ev.now _)
theorem laws_toOpS_ev (l : List LOp) (hl : l.length ≤ 8796093022208) (hg : ∀ x ∈ l, x.f1.length ≤ 35184372088832) : Ev (fun k => laws_toOpS.f k l) (conv l) := by
 unfold laws_toOpS.f
 refine Ev.pos (by omega) (Ev.pos (by omega) ?_)
 refine set_loop l z110 (fun x : LOp => (⟨x.f0, x.f1⟩ : IOp)) (fun k out i => laws_toOpS.l0 k l out i) (conv l) ?_ ?_ l.length 0 _ (by omega) (by simp) (fun j hj => by omega)
 ·exact Ev.step (fun _ => laws_toOpS.l0.eq_2 ..) (Ev.neg (by omega) (Ev.now _))
 ·intro i out hi ho h
  have hm : l.getD i z110 ∈ l := by
   rw [List.getD_eq_getElem?_getD, List.getElem?_eq_getElem (by omega)]
   exact List.getElem_mem _
  refine Ev.step (fun _ => laws_toOpS.l0.eq_2 ..) ?_
  rw [rdL_n, w64s (n := l.length) (by omega) (by omega), Int.toNat_natCast]
  exact Ev.pos (by omega) (Ev.pos (by omega) ((laws_toOp_ev _ _ (hg _ hm)).bind (Ev.pos (by omega) h)))
theorem laws_toAlgebra_ev (s : Int) (l : List LOp) (hl : l.length ≤ 8796093022208) (hg : ∀ x ∈ l, x.f1.length ≤ 35184372088832) : Ev (fun k => laws_toAlgebra.f k s l) (s, conv l) := by
 unfold laws_toAlgebra.f
 exact (laws_toOpS_ev l hl hg).bind (Ev.now _)
theorem laws_eqOp_same (a : Int) (l : List Int) (hl : l.length ≤ 35184372088832) : Ev (fun k => laws_eqOp.f k a l a l) true := by
 unfold laws_eqOp.f
 exact Ev.pos rfl ((eqIntS_same l hl).bind (Ev.pos rfl (Ev.now _)))
theorem laws_eqOpS_same (l : List IOp) (hf : fitO l) : Ev (fun k => laws_eqOpS.f k l l) true := by
 have hl := hf.1
 unfold laws_eqOpS.f
 refine Ev.pos rfl ?_
 have : Ev (fun k => laws_eqOpS.l0 k l l ((0 : Nat) : Int)) ((l.drop 0).all fun _ => true) := by
  refine all_loop l z75 (fun _ => true) (fun k i => laws_eqOpS.l0 k l l i) ?_ ?_ ?_ l.length 0 (by omega)
  ·exact Ev.step (fun _ => laws_eqOpS.l0.eq_2 ..) (Ev.neg (by omega) (Ev.now _))
  ·intro i r hi _ h
   refine Ev.step (fun _ => laws_eqOpS.l0.eq_2 ..) ?_
   rw [rdO_n, w64s (n := l.length) (by omega) (by omega)]
   exact Ev.pos (by omega) (Ev.pos (by omega) (Ev.pos (by omega) ((laws_eqOp_same _ _ (by have := fitO_at hf hi; omega)).bind (Ev.pos rfl h))))
  ·intro i hi hp
   simp at hp
 exact this.to (by rw [List.all_eq_true]; intro x _; rfl)
theorem laws_eqAlgebra_same (s : Int) (l : List IOp) (hf : fitO l) : Ev (fun k => laws_eqAlgebra.f k s l s l) true := by
 unfold laws_eqAlgebra.f
 exact Ev.pos rfl ((laws_eqOpS_same l hf).bind (Ev.pos rfl (Ev.now _)))
theorem conv_fit (l : List LOp) (hl : l.length ≤ 8796093022208) (hg : ∀ x ∈ l, x.f1.length ≤ 1048576) : fitO (conv l) := by
 refine ⟨by rw [conv_length]; exact hl, fun x hx => ?_⟩
 obtain ⟨y, hy, rfl⟩ := List.mem_map.1 hx
 exact hg y hy
theorem range_at {N i : Nat} (h : i < N) : (List.range N).getD i 0 = i := by simp [List.getD, h]
theorem spec_l1Same_ev (a b : List Int) (ha : a.length ≤ 8796093022208) : Ev (fun k => spec_l1Same.f k a b) (decide (a = b)) := by
 unfold spec_l1Same.f
 refine Ev.ite (fun h => ?_) (fun h => (Ev.now _).to (by rw [eq_comm, decide_eq_false_iff_not]; intro e; exact h (by rw [e])))
 have hl : a.length = b.length := by omega
 have key : Ev (fun k => spec_l1Same.l0 k a b ((0 : Nat) : Int)) (((List.range a.length).drop 0).all fun i => decide (gd a i = gd b i)) := by
  refine all_loop (List.range a.length) 0 (fun i => decide (gd a i = gd b i)) (fun k i => spec_l1Same.l0 k a b i) ?_ ?_ ?_ a.length 0 (by simp)
  ·rw [List.length_range]
   exact Ev.step (fun _ => spec_l1Same.l0.eq_2 ..) (Ev.neg (by omega) (Ev.now _))
  ·intro i r hi hp h
   rw [List.length_range] at hi
   rw [range_at hi] at hp
   refine Ev.step (fun _ => spec_l1Same.l0.eq_2 ..) ?_
   rw [rdn, rdn, w64s (n := a.length) (by omega) (by omega)]
   exact Ev.pos (by omega) (Ev.pos (by omega) (Ev.pos (by omega) (Ev.pos (of_decide_eq_true hp) h)))
  ·intro i hi hp
   rw [List.length_range] at hi
   rw [range_at hi] at hp
   refine Ev.step (fun _ => spec_l1Same.l0.eq_2 ..) ?_
   rw [rdn, rdn]
   exact Ev.pos (by omega) (Ev.pos (by omega) (Ev.pos (by omega) (Ev.neg (of_decide_eq_false hp) (Ev.now _))))
 refine key.to ?_
 rw [Bool.eq_iff_iff, decide_eq_true_iff, List.drop_zero, List.all_eq_true]
 constructor
 ·intro h
  exact ext_gd hl (fun i hi => of_decide_eq_true (h i (List.mem_range.2 hi)))
 ·intro h i _
  rw [h, decide_eq_true rfl]
theorem powI_nat (n : Int) (k : Nat) : powI n (k : Int) = n ^ k := by simp [powI]
theorem rdi (l : List Int) {i : Int} (h : 0 ≤ i) : rd l i = gd l i.toNat := by
 obtain ⟨j, rfl⟩ : ∃ j : Nat, i = (j : Int) := ⟨i.toNat, by omega⟩
 rw [rdn, Int.toNat_natCast]
def ap (p : List Int) (i : Nat) : Nat := (gd p i).toNat
theorem gd_ap {n : Int} {p : List Int} (h : partB n p = true) {i : Nat} (hi : i < p.length) : gd p i = (ap p i : Int) := by
 have := partAt_of h hi
 unfold ap
 omega
theorem ap_le {n : Int} {p : List Int} (h : partB n p = true) {i : Nat} (hi : i < p.length) : ap p i ≤ i := by
 have := partAt_of h hi
 unfold ap
 omega
theorem ap_lt {n : Int} {p : List Int} (h : partB n p = true) {i : Nat} (hi : i < p.length) : ap p i < p.length := by
 have := ap_le h hi
 omega
theorem ap_ap {n : Int} {p : List Int} (h : partB n p = true) {i : Nat} (hi : i < p.length) : ap p (ap p i) = ap p i := by
 have := partAt_of h hi
 unfold ap
 rw [this.2.2]
def finer (p q : List Int) : Prop := ∀ i, i < p.length → ap q (ap p i) = ap q i
theorem finer_refl {n : Int} {p : List Int} (h : partB n p = true) : finer p p := fun i hi => ap_ap h hi
theorem finer_trans {n : Int} {p q r : List Int} (hp : partB n p = true) (hq : partB n q = true) (h : finer p q) (h' : finer q r) : finer p r := fun i hi => by
 have e1 := partB_len hp
 have e2 := partB_len hq
 have h1 := h' (ap p i) (by have := ap_lt hp hi; omega)
 rw [h i hi] at h1
 rw [← h1, h' i (by omega)]
theorem finer_anti {n : Int} {p q : List Int} (hp : partB n p = true) (hq : partB n q = true) (h : finer p q) (h' : finer q p) : p = q := by
 have e1 := partB_len hp
 have e2 := partB_len hq
 apply ext_gd (by omega)
 intro i hi
 rw [gd_ap hp hi, gd_ap hq (by omega)]
 have h1 := h i hi
 have h2 := h' i (by omega)
 have h3 := ap_le hq (i := ap p i) (by have := ap_lt hp hi; omega)
 have h4 := ap_le hp (i := ap q i) (by have := ap_lt hq (i := i) (by omega); omega)
 omega
theorem part_of_ap {n : Int} {p : List Int} (hl : (p.length : Int) = n) (h : ∀ i, i < p.length → 0 ≤ gd p i ∧ ap p i ≤ i ∧ ap p (ap p i) = ap p i) (hg : ∀ i, i < p.length → 0 ≤ gd p i) : partB n p = true := by
 simp only [partB, Bool.and_eq_true, decide_eq_true_eq, List.all_eq_true, List.mem_range'_1]
 refine ⟨hl, fun i hi => ?_⟩
 have hi' : i < p.length := by omega
 obtain ⟨h1, h2, h3⟩ := h i hi'
 have h4 := hg (ap p i) (by omega)
 unfold ap at h2 h3 h4
 simp only [partAt, Bool.and_eq_true, decide_eq_true_eq]
 omega
theorem uni_ap {n : Int} {p : List Int} (h : partB n p = true) {x y i : Nat} (hx : x < p.length) (hy : y < p.length) (hi : i < p.length) : ap (uni p (x : Int) (y : Int)) i = if ap p i = max (ap p x) (ap p y) then min (ap p x) (ap p y) else ap p i := by
 unfold ap uni
 rw [gd_map _ _ hi]
 simp only [Int.toNat_natCast]
 have h1 := gd_ap h hx
 have h2 := gd_ap h hy
 have h3 := gd_ap h hi
 unfold ap at h1 h2 h3
 split <;> split <;> omega
theorem uni_part {n : Int} {p : List Int} (h : partB n p = true) {x y : Nat} (hx : x < p.length) (hy : y < p.length) : partB n (uni p (x : Int) (y : Int)) = true := by
 have hl := partB_len h
 have hpos : ∀ i, i < p.length → 0 ≤ gd (uni p (x : Int) (y : Int)) i := fun i hi => by
  unfold uni
  rw [gd_map _ _ hi]
  simp only [Int.toNat_natCast]
  have h1 := (partAt_of h hx).1
  have h2 := (partAt_of h hy).1
  have h3 := (partAt_of h hi).1
  split <;> omega
 refine part_of_ap (by rw [uni_length]; exact hl) (fun i hi => ?_) (fun i hi => by rw [uni_length] at hi; exact hpos i hi)
 rw [uni_length] at hi
 have a1 := ap_le h hi
 have a2 := ap_ap h hi
 have b1 := ap_lt h hx
 have b2 := ap_lt h hy
 have c1 := ap_ap h hx
 have c2 := ap_ap h hy
 refine ⟨hpos i hi, ?_, ?_⟩
 ·rw [uni_ap h hx hy hi]
  split <;> omega
 ·have hj : ap (uni p (x : Int) (y : Int)) i < p.length := by
   rw [uni_ap h hx hy hi]
   split <;> omega
  rw [uni_ap h hx hy hj]
  generalize hv : ap (uni p (x : Int) (y : Int)) i = v
  rw [uni_ap h hx hy hi] at hv
  have e : v = ap p x ∨ v = ap p y ∨ v = ap p i := by
   split at hv <;> omega
  have e2 : ap p v = v := by
   rcases e with e | e | e <;> rw [e] <;> assumption
  rw [e2]
  split at hv <;> split <;> omega
theorem uni_up {n : Int} {p : List Int} (h : partB n p = true) {x y : Nat} (hx : x < p.length) (hy : y < p.length) : finer p (uni p (x : Int) (y : Int)) := fun i hi => by
 rw [uni_ap h hx hy (ap_lt h hi), uni_ap h hx hy hi, ap_ap h hi]
theorem uni_least {n : Int} {p r : List Int} (h : partB n p = true) {x y : Nat} (hx : x < p.length) (hy : y < p.length) (hr : finer p r) (he : ap r x = ap r y) : finer (uni p (x : Int) (y : Int)) r := fun i hi => by
 rw [uni_length] at hi
 rw [uni_ap h hx hy hi]
 have h1 := hr x hx
 have h2 := hr y hy
 have h3 := hr i hi
 split
 ·rename_i e
  rcases Nat.le_total (ap p x) (ap p y) with hle | hle
  ·rw [Nat.min_eq_left hle, h1, he, ← h2, ← h3, e, Nat.max_eq_right hle]
  ·rw [Nat.min_eq_right hle, h2, ← he, ← h1, ← h3, e, Nat.max_eq_left hle]
 ·exact h3
theorem uni_same {p : List Int} {x y : Nat} (e : gd p x = gd p y) : uni p (x : Int) (y : Int) = p := by
 simp only [uni, Int.toNat_natCast, e, Int.max_self, Int.min_self]
 apply ext_gd (by simp)
 intro j hj
 rw [gd_map _ _ (by simpa using hj)]
 split <;> simp_all
def sm (p : List Int) : Nat := (p.map Int.toNat).sum
theorem sm_le (f : Int → Int) : ∀ p : List Int, (∀ x ∈ p, (f x).toNat ≤ x.toNat) → sm (p.map f) ≤ sm p := by
 intro p
 induction p with
 | nil => intro _; simp [sm]
 | cons x xs ih =>
  intro h
  have h1 := h x (by simp)
  have h2 := ih (fun y hy => h y (by simp [hy]))
  simp only [sm, List.map_cons, List.sum_cons] at h2 ⊢
  omega
theorem sm_lt (f : Int → Int) : ∀ p : List Int, (∀ x ∈ p, (f x).toNat ≤ x.toNat) → (∃ x ∈ p, (f x).toNat < x.toNat) → sm (p.map f) < sm p := by
 intro p
 induction p with
 | nil => rintro _ ⟨x, hx, _⟩; simp at hx
 | cons x xs ih =>
  rintro h ⟨y, hy, hlt⟩
  have h1 := h x (by simp)
  have h2 := sm_le f xs (fun y hy => h y (by simp [hy]))
  simp only [sm, List.map_cons, List.sum_cons] at h2 ⊢
  rcases List.mem_cons.1 hy with rfl | hy
  ·omega
  ·have h3 := ih (fun y hy => h y (by simp [hy])) ⟨y, hy, hlt⟩
   simp only [sm] at h3
   omega
theorem uni_sm {n : Int} {p : List Int} (h : partB n p = true) {x y : Nat} (hx : x < p.length) (hy : y < p.length) (hne : gd p x ≠ gd p y) : sm (uni p (x : Int) (y : Int)) < sm p := by
 have h1 := partAt_of h hx
 have h2 := partAt_of h hy
 refine sm_lt _ p (fun v hv => ?_) ?_
 ·simp only [Int.toNat_natCast]
  split <;> omega
 ·simp only [Int.toNat_natCast]
  rcases Int.le_total (gd p x) (gd p y) with hle | hle
  ·refine ⟨gd p y, ?_, ?_⟩
   ·rw [gd_lt hy]
    exact List.getElem_mem hy
   ·rw [if_pos (by omega)]
    omega
  ·refine ⟨gd p x, ?_, ?_⟩
   ·rw [gd_lt hx]
    exact List.getElem_mem hx
   ·rw [if_pos (by omega)]
    omega
def repl (n st i y : Nat) : Nat := (i / st / n * n + y) * st + i % st
def digit (n st i : Nat) : Nat := i / st % n
theorem repl_self {n st i : Nat} : repl n st i (digit n st i) = i := by
 unfold repl digit
 rw [Nat.mul_comm (i / st / n) n, Nat.div_add_mod, Nat.mul_comm, Nat.div_add_mod]
theorem repl_div {n st i y : Nat} (hs : 0 < st) : repl n st i y / st = i / st / n * n + y := by
 unfold repl
 rw [Nat.mul_comm, Nat.mul_add_div hs, Nat.div_eq_of_lt (Nat.mod_lt _ hs), Nat.add_zero]
theorem repl_mod {n st i y : Nat} : repl n st i y % st = i % st := by
 unfold repl
 rw [Nat.mul_add_mod_self_right, Nat.mod_mod]
theorem digit_repl {n st i y : Nat} (hs : 0 < st) (hy : y < n) : digit n st (repl n st i y) = y := by
 unfold digit
 rw [repl_div hs, Nat.mul_add_mod_self_right, Nat.mod_eq_of_lt hy]
theorem repl_repl {n st i y z : Nat} (hs : 0 < st) (hy : y < n) : repl n st (repl n st i y) z = repl n st i z := by
 have h1 : repl n st i y / st / n = i / st / n := by
  rw [repl_div hs, Nat.mul_comm, Nat.mul_add_div (by omega), Nat.div_eq_of_lt hy, Nat.add_zero]
 show (repl n st i y / st / n * n + z) * st + repl n st i y % st = repl n st i z
 rw [h1, repl_mod]
 rfl
theorem repl_lt {n e ar i y : Nat} (hn : 0 < n) (he : e < ar) (hi : i < n ^ ar) (hy : y < n) : repl n (n ^ e) i y < n ^ ar := by
 have hs : 0 < n ^ e := Nat.pow_pos hn
 obtain ⟨d, rfl⟩ : ∃ d, ar = e + (d + 1) := ⟨ar - e - 1, by omega⟩
 have h1 : i / n ^ e < n ^ (d + 1) := Nat.div_lt_of_lt_mul (by rw [← Nat.pow_add]; exact hi)
 have h2 : i / n ^ e / n < n ^ d := Nat.div_lt_of_lt_mul (by rw [Nat.pow_succ] at h1; rw [Nat.mul_comm]; exact h1)
 have h3 : i / n ^ e / n * n + y < n ^ (d + 1) := by
  have : (i / n ^ e / n + 1) * n ≤ n ^ d * n := Nat.mul_le_mul_right n h2
  rw [Nat.pow_succ]
  rw [Nat.add_mul] at this
  omega
 unfold repl
 have h4 := Nat.mod_lt i hs
 have h5 : (i / n ^ e / n * n + y + 1) * n ^ e ≤ n ^ (d + 1) * n ^ e := Nat.mul_le_mul_right _ h3
 rw [Nat.add_mul, Nat.one_mul] at h5
 rw [Nat.pow_add, Nat.mul_comm (n ^ e)]
 omega
def arN (A : List IOp) (o : Nat) : Nat := (A.getD o z75).f0.toNat
def tb (A : List IOp) (o i : Nat) : Nat := ap (A.getD o z75).f1 i
def tlen (A : List IOp) (o : Nat) : Nat := (A.getD o z75).f1.length
theorem op_facts {n : Nat} {A : List IOp} (h : algB n A = true) {o : Nat} (ho : o < A.length) : (A.getD o z75).f0 = (arN A o : Int) ∧ arN A o ≤ 3 ∧ tlen A o = n ^ arN A o ∧ ∀ i, i < tlen A o → gd (A.getD o z75).f1 i = (tb A o i : Int) ∧ tb A o i < n := by
 obtain ⟨k, e1, e2, e3, e4⟩ := opB_of (algB_op h ho)
 have hk : arN A o = k := by unfold arN; omega
 refine ⟨by omega, by omega, ?_, fun i hi => ?_⟩
 ·unfold tlen
  rw [hk]
  have : ((n ^ k : Nat) : Int) = (n : Int) ^ k := by simp
  omega
 ·have hm := e4 (gd (A.getD o z75).f1 i) (by rw [gd_lt hi]; exact List.getElem_mem hi)
  unfold tb ap
  omega
abbrev Pt := Nat × Nat × Nat
def ptsAt (n : Nat) (A : List IOp) : List Pt := (List.range A.length).flatMap fun o => (List.range (arN A o)).flatMap fun e => (List.range (tlen A o)).map fun i => (o, e, i)
def okPt (n : Nat) (A : List IOp) (t : Pt) : Prop := t.1 < A.length ∧ t.2.1 < arN A t.1 ∧ t.2.2 < tlen A t.1
def ptL (A : List IOp) (t : Pt) : Nat := tb A t.1 t.2.2
def ptR (n : Nat) (A : List IOp) (p : List Int) (t : Pt) : Nat := tb A t.1 (repl n (n ^ t.2.1) t.2.2 (ap p (digit n (n ^ t.2.1) t.2.2)))
def cong (n : Nat) (A : List IOp) (p : List Int) : Prop := ∀ t, okPt n A t → ap p (ptL A t) = ap p (ptR n A p t)
theorem digit_lt {n st i : Nat} (hn : 0 < n) : digit n st i < n := Nat.mod_lt _ hn
theorem pt_in {n : Nat} {A : List IOp} (h : algB n A = true) {p : List Int} (hp : partB n p = true) {t : Pt} (ht : okPt n A t) : ptL A t < n ∧ ptR n A p t < n ∧ repl n (n ^ t.2.1) t.2.2 (ap p (digit n (n ^ t.2.1) t.2.2)) < tlen A t.1 := by
 obtain ⟨h1, h2, h3⟩ := ht
 have hn := algB_size h
 have hl := partB_len hp
 obtain ⟨e1, e2, e3, e4⟩ := op_facts h h1
 have hd : ap p (digit n (n ^ t.2.1) t.2.2) < n := by
  have := ap_lt hp (i := digit n (n ^ t.2.1) t.2.2) (by have := digit_lt (n := n) (st := n ^ t.2.1) (i := t.2.2) (by omega); omega)
  omega
 have hr : repl n (n ^ t.2.1) t.2.2 (ap p (digit n (n ^ t.2.1) t.2.2)) < tlen A t.1 := by
  rw [e3]
  exact repl_lt (by omega) h2 (by rw [← e3]; exact h3) hd
 exact ⟨(e4 _ h3).2, (e4 _ hr).2, hr⟩
theorem cong_at {n : Nat} {A : List IOp} (h : algB n A = true) {p r : List Int} (hp : partB n p = true) (hr : partB n r = true) (hc : cong n A r) (hf : finer p r) {t : Pt} (ht : okPt n A t) : ap r (ptL A t) = ap r (ptR n A p t) := by
 have hn := algB_size h
 have hl := partB_len hp
 have hl' := partB_len hr
 obtain ⟨_, _, hi⟩ := pt_in h hp ht
 have hs : 0 < n ^ t.2.1 := Nat.pow_pos (by omega)
 have hdn : digit n (n ^ t.2.1) t.2.2 < n := digit_lt (by omega)
 have hd : ap p (digit n (n ^ t.2.1) t.2.2) < n := by
  have := ap_lt hp (i := digit n (n ^ t.2.1) t.2.2) (by omega)
  omega
 have c1 := hc t ht
 have c2 := hc (t.1, t.2.1, repl n (n ^ t.2.1) t.2.2 (ap p (digit n (n ^ t.2.1) t.2.2))) ⟨ht.1, ht.2.1, hi⟩
 unfold ptL ptR at c1 c2 ⊢
 simp only at c2
 rw [digit_repl hs hd, repl_repl hs hd, hf _ (by omega)] at c2
 rw [c1, c2]
def stepU (n : Nat) (A : List IOp) (q : List Int) (p : List Int) (t : Pt) : List Int := uni p (ptL A t : Int) (ptR n A q t : Int)
structure Under (n : Nat) (A : List IOp) (p0 p : List Int) : Prop where
 part : partB n p = true
 up : finer p0 p
 least : ∀ r, partB n r = true → cong n A r → finer p0 r → finer p r
theorem Under.refl {n : Nat} {A : List IOp} {p : List Int} (h : partB n p = true) : Under n A p p := ⟨h, finer_refl h, fun _ _ _ h => h⟩
theorem Under.step {n : Nat} {A : List IOp} {p0 p q : List Int} (ha : algB n A = true) (h0 : partB n p0 = true) (h : Under n A p0 p) (hq : Under n A p0 q) {t : Pt} (ht : okPt n A t) : Under n A p0 (stepU n A q p t) := by
 have hl := partB_len h.part
 obtain ⟨i1, i2, _⟩ := pt_in ha hq.part ht
 refine ⟨uni_part h.part (by omega) (by omega), finer_trans h0 h.part h.up (uni_up h.part (by omega) (by omega)), fun r hr hc hf => ?_⟩
 exact uni_least h.part (by omega) (by omega) (h.least r hr hc hf) (cong_at ha hq.part hr hc (hq.least r hr hc hf) ht)
def isClose (n : Nat) (A : List IOp) (p0 p : List Int) : Prop := Under n A p0 p ∧ cong n A p
theorem isClose_one {n : Nat} {A : List IOp} {p0 p q : List Int} (h : isClose n A p0 p) (h' : isClose n A p0 q) : p = q :=
 finer_anti h.1.part h'.1.part (h.1.least q h'.1.part h'.2 h'.1.up) (h'.1.least p h.1.part h.2 h.1.up)
theorem isClose_self {n : Nat} {A : List IOp} {p : List Int} (h : partB n p = true) : isClose n A p p ↔ cong n A p := ⟨fun h => h.2, fun hc => ⟨Under.refl h, hc⟩⟩
abbrev CS := Bool × Bool × List Int
def stepI (n : Nat) (A : List IOp) (s : CS) (t : Pt) : CS :=
 (s.1 || decide (gd s.2.2 (ptL A t) ≠ gd s.2.2 (ptR n A s.2.2 t)), s.2.1 || decide (gd s.2.2 (ptL A t) ≠ gd s.2.2 (ptR n A s.2.2 t)), stepU n A s.2.2 s.2.2 t)
theorem stepI_same {n : Nat} {A : List IOp} {s : CS} {t : Pt} (h : gd s.2.2 (ptL A t) = gd s.2.2 (ptR n A s.2.2 t)) : stepI n A s t = s := by
 unfold stepI stepU
 rw [uni_same h, decide_eq_false (by simpa using h), Bool.or_false, Bool.or_false]
theorem foldI_facts {n : Nat} {A : List IOp} {p0 : List Int} (ha : algB n A = true) (h0 : partB n p0 = true) : ∀ (ts : List Pt) (s : CS), (∀ t ∈ ts, okPt n A t) → Under n A p0 s.2.2 →
  Under n A p0 (ts.foldl (stepI n A) s).2.2 ∧ sm (ts.foldl (stepI n A) s).2.2 ≤ sm s.2.2 ∧
  (ts.foldl (stepI n A) s = s ∧ (∀ t ∈ ts, gd s.2.2 (ptL A t) = gd s.2.2 (ptR n A s.2.2 t)) ∨ (ts.foldl (stepI n A) s).1 = true ∧ (ts.foldl (stepI n A) s).2.1 = true ∧ sm (ts.foldl (stepI n A) s).2.2 < sm s.2.2) := by
 intro ts
 induction ts with
 | nil => intro s _ h; exact ⟨h, Nat.le_refl _, .inl ⟨rfl, fun t ht => by simp at ht⟩⟩
 | cons t ts ih =>
  intro s hts h
  have ht := hts t (by simp)
  have hl := partB_len h.part
  obtain ⟨i1, i2, _⟩ := pt_in ha h.part ht
  rw [List.foldl_cons]
  by_cases e : gd s.2.2 (ptL A t) = gd s.2.2 (ptR n A s.2.2 t)
  ·rw [stepI_same e]
   obtain ⟨j1, j2, j3⟩ := ih s (fun x hx => hts x (by simp [hx])) h
   refine ⟨j1, j2, ?_⟩
   rcases j3 with ⟨j3, j4⟩ | j3
   ·refine .inl ⟨j3, fun x hx => ?_⟩
    rcases List.mem_cons.1 hx with rfl | hx
    ·exact e
    ·exact j4 x hx
   ·exact .inr j3
  ·have hU : Under n A p0 (stepI n A s t).2.2 := Under.step ha h0 h h ht
   obtain ⟨j1, j2, j3⟩ := ih (stepI n A s t) (fun x hx => hts x (by simp [hx])) hU
   have hs : sm (stepI n A s t).2.2 < sm s.2.2 := uni_sm h.part (by omega) (by omega) e
   have f1 : (stepI n A s t).1 = true := by simp [stepI, e]
   have f2 : (stepI n A s t).2.1 = true := by simp [stepI, e]
   refine ⟨j1, by omega, .inr ?_⟩
   rcases j3 with ⟨j3, j4⟩ | ⟨j3, j4, j5⟩
   ·rw [j3]
    exact ⟨f1, f2, hs⟩
   ·exact ⟨j3, j4, by omega⟩
theorem idx_repl {n st i y : Nat} : (i : Int) + ((y : Int) - (digit n st i : Int)) * (st : Int) = (repl n st i y : Int) := by
 have h := repl_self (n := n) (st := st) (i := i)
 have h1 : (repl n st i (digit n st i) : Int) = (i : Int) := by rw [h]
 unfold repl at h1 ⊢
 simp only [Int.natCast_add, Int.natCast_mul] at h1 ⊢
 rw [Int.add_mul] at h1 ⊢
 rw [Int.sub_mul]
 omega
theorem nat_digit (n st i : Nat) : ((i : Int) / (st : Int)) % (n : Int) = (digit n st i : Int) := by
 unfold digit
 simp
theorem close_idx {n st i y : Nat} (hn : 1 ≤ n ∧ n ≤ 8) (hs : 1 ≤ st ∧ st ≤ 512) (hi : i ≤ 512) (hy : y < n) : Int.tmod (wrap64 (Int.tdiv (i : Int) (st : Int))) (n : Int) = (digit n st i : Int) ∧
  wrap64 ((i : Int) + wrap64 (wrap64 ((y : Int) - (digit n st i : Int)) * (st : Int))) = (repl n st i y : Int) := by
 obtain ⟨e1, e2, e3⟩ := div_in (i := (i : Int)) (n := (st : Int)) (by omega) (by omega) (by omega)
 have hd : digit n st i < n := digit_lt (by omega)
 have h1 : (-8) * 512 ≤ ((y : Int) - (digit n st i : Int)) * (st : Int) ∧ ((y : Int) - (digit n st i : Int)) * (st : Int) ≤ 8 * 512 := by
  constructor
  ·have q1 : (-8) * (st : Int) ≤ ((y : Int) - (digit n st i : Int)) * (st : Int) := Int.mul_le_mul_of_nonneg_right (by omega) (by omega)
   omega
  ·have q1 : ((y : Int) - (digit n st i : Int)) * (st : Int) ≤ 8 * (st : Int) := Int.mul_le_mul_of_nonneg_right (by omega) (by omega)
   omega
 refine ⟨by rw [e1, Int.tmod_eq_emod_of_nonneg e2, nat_digit], ?_⟩
 rw [w64 (x := (y : Int) - (digit n st i : Int)) (by omega) (by omega), w64 (x := ((y : Int) - (digit n st i : Int)) * (st : Int)) (by omega) (by omega), w64 (by omega) (by omega), idx_repl]
theorem pow_cast (n e : Nat) : ((n : Int) ^ e) = ((n ^ e : Nat) : Int) := by simp
theorem npow_le {n e : Nat} (hn : 1 ≤ n ∧ n ≤ 8) (he : e ≤ 3) : 1 ≤ n ^ e ∧ n ^ e ≤ 512 := by
 have h1 := pow_le3 (n := (n : Int)) ⟨by omega, by omega⟩ he
 rw [pow_cast] at h1
 have : 0 < n ^ e := Nat.pow_pos (by omega)
 omega
theorem impl_closePartition_in3 {n : Nat} {A : List IOp} {p0 : List Int} (ha : algB n A = true) (h0 : partB n p0 = true) (o e : Nat) (ho : o < A.length) (he : e < arN A o) (r : Bool × List Int) :
  ∀ (d i : Nat) (s : CS), i + d = tlen A o → Under n A p0 s.2.2 →
   (∀ s', s' = (((List.range (tlen A o)).drop i).map fun i => (o, e, i)).foldl (stepI n A) s → Ev (fun k => impl_closePartition.l2 k s'.2.2 s'.1 s'.2.1 (wrap64 (((n ^ e : Nat) : Int) * (n : Int))) (wrap64 ((e : Int) + 1)) A (A.length : Int) (o : Int) (n : Int) A (arN A o : Int) (A.getD o z75).f1) r) →
   Ev (fun k => impl_closePartition.l3 k s.2.2 s.1 s.2.1 ((n ^ e : Nat) : Int) (e : Int) A (A.length : Int) (o : Int) (A.getD o z75).f1 (tlen A o : Int) (i : Int) (n : Int) A (arN A o : Int) (A.getD o z75).f1) r := by
 have hn := algB_size ha
 obtain ⟨q1, q2, q3, q4⟩ := op_facts ha ho
 have hst := npow_le (n := n) (e := e) (by omega) (by omega)
 have hT := npow_le (n := n) (e := arN A o) (by omega) q2
 intro d
 induction d with
 | zero =>
  intro i s hi hs h
  refine Ev.step (fun _ => impl_closePartition.l3.eq_2 ..) (Ev.neg (by omega) (h s ?_))
  rw [List.drop_of_length_le (by simp; omega)]
  rfl
 | succ d ih =>
  intro i s hi hs h
  have hl := partB_len hs.part
  have ht : okPt n A (o, e, i) := ⟨ho, he, by show i < tlen A o; omega⟩
  obtain ⟨i1, i2, i3⟩ := pt_in ha hs.part ht
  have i3' : repl n (n ^ e) i (ap s.2.2 (digit n (n ^ e) i)) < tlen A o := i3
  have hd : digit n (n ^ e) i < n := digit_lt (by omega)
  have hy := gd_ap hs.part (i := digit n (n ^ e) i) (by omega)
  have hyn : ap s.2.2 (digit n (n ^ e) i) < n := by have := ap_lt hs.part (i := digit n (n ^ e) i) (by omega); omega
  obtain ⟨c1, c2⟩ := close_idx (n := n) (st := n ^ e) (i := i) (y := ap s.2.2 (digit n (n ^ e) i)) (by omega) hst (by omega) hyn
  have v1 : gd (A.getD o z75).f1 i = (ptL A (o, e, i) : Int) := (q4 i (by omega)).1
  have v2 : gd (A.getD o z75).f1 (repl n (n ^ e) i (ap s.2.2 (digit n (n ^ e) i))) = (ptR n A s.2.2 (o, e, i) : Int) := (q4 _ i3').1
  have hT1 : (A.getD o z75).f1.length = tlen A o := rfl
  have hdl : ((digit n (n ^ e) i : Nat) : Int) < (s.2.2.length : Int) := by
   rw [hl]
   exact Int.ofNat_lt.2 hd
  have hrl : ((repl n (n ^ e) i (ap s.2.2 (digit n (n ^ e) i)) : Nat) : Int) < ((A.getD o z75).f1.length : Int) := Int.ofNat_lt.2 i3'
  rw [drop_cons (List.range (tlen A o)) 0 (i := i) (by simp; omega), range_at (by omega), List.map_cons, List.foldl_cons] at h
  refine Ev.step (fun _ => impl_closePartition.l3.eq_2 ..) ?_
  rw [c1, rdn, rdn, hy, c2, rdn, v1, v2, w64s (i := i) (n := tlen A o) (by omega) (by omega)]
  refine Ev.pos (by omega) (Ev.pos (by omega) (Ev.pos (by omega) (Ev.neg (by omega) (Ev.neg (by omega) (Ev.pos (Int.natCast_nonneg _) (Ev.pos hdl (Ev.pos (Int.natCast_nonneg _) (Ev.pos hrl ?_))))))))
  refine (impl_unite_ev s.2.2 _ _ (by omega) (by omega) (by omega)).bind ?_
  have hU : Under n A p0 (stepI n A s (o, e, i)).2.2 := Under.step ha h0 hs hs ht
  have := ih (i + 1) (stepI n A s (o, e, i)) (by omega) hU h
  by_cases hc : gd s.2.2 (ptL A (o, e, i)) ≠ gd s.2.2 (ptR n A s.2.2 (o, e, i))
  ·have e1 : stepI n A s (o, e, i) = (true, true, stepU n A s.2.2 s.2.2 (o, e, i)) := by simp only [stepI, decide_eq_true hc, Bool.or_true]
   rw [e1] at this
   exact Ev.pos (decide_eq_true hc) this
  ·have e1 : stepI n A s (o, e, i) = (s.1, s.2.1, stepU n A s.2.2 s.2.2 (o, e, i)) := by simp only [stepI, decide_eq_false hc, Bool.or_false]
   rw [e1] at this
   exact Ev.neg (by simp only [decide_eq_true_eq]; exact hc) this
theorem impl_closePartition_in2 {n : Nat} {A : List IOp} {p0 : List Int} (ha : algB n A = true) (h0 : partB n p0 = true) (o : Nat) (ho : o < A.length) (r : Bool × List Int) :
  ∀ (d e : Nat) (s : CS), e + d = arN A o → Under n A p0 s.2.2 →
   (∀ s', s' = (((List.range (arN A o)).drop e).flatMap fun e => (List.range (tlen A o)).map fun i => (o, e, i)).foldl (stepI n A) s → Ev (fun k => impl_closePartition.l1 k s'.2.2 s'.1 s'.2.1 A (A.length : Int) (wrap64 ((o : Int) + 1)) (n : Int) A) r) →
   Ev (fun k => impl_closePartition.l2 k s.2.2 s.1 s.2.1 ((n ^ e : Nat) : Int) (e : Int) A (A.length : Int) (o : Int) (n : Int) A (arN A o : Int) (A.getD o z75).f1) r := by
 have hn := algB_size ha
 obtain ⟨q1, q2, q3, q4⟩ := op_facts ha ho
 intro d
 induction d with
 | zero =>
  intro e s he hs h
  refine Ev.step (fun _ => impl_closePartition.l2.eq_2 ..) (Ev.neg (by omega) (h s ?_))
  rw [List.drop_of_length_le (by simp; omega)]
  rfl
 | succ d ih =>
  intro e s he hs h
  have hst := npow_le (n := n) (e := e) (by omega) (by omega)
  have hst2 := npow_le (n := n) (e := e + 1) (by omega) (by omega)
  rw [drop_cons (List.range (arN A o)) 0 (i := e) (by simp; omega), range_at (by omega), List.flatMap_cons, List.foldl_append] at h
  refine Ev.step (fun _ => impl_closePartition.l2.eq_2 ..) (Ev.pos (by omega) ?_)
  refine impl_closePartition_in3 ha h0 o e ho (by omega) r (tlen A o) 0 s (by omega) hs ?_
  intro s' hs'
  have e1 : ((n ^ e : Nat) : Int) * (n : Int) = ((n ^ (e + 1) : Nat) : Int) := by rw [Nat.pow_succ, Int.natCast_mul]
  rw [e1, w64 (by omega) (by omega), w64s (i := e) (n := 1000) (by omega) (by omega)]
  rw [List.drop_zero] at hs'
  have hU := (foldI_facts ha h0 ((List.range (tlen A o)).map fun i => (o, e, i)) s (fun t ht => by
   obtain ⟨i, hi, rfl⟩ := List.mem_map.1 ht
   exact ⟨ho, by show e < arN A o; omega, List.mem_range.1 hi⟩) hs).1
  rw [← hs'] at hU h
  exact ih (e + 1) s' (by omega) hU h
theorem impl_closePartition_in1 {n : Nat} {A : List IOp} {p0 : List Int} (ha : algB n A = true) (h0 : partB n p0 = true) (r : Bool × List Int) :
  ∀ (d o : Nat) (s : CS), o + d = A.length → Under n A p0 s.2.2 →
   (∀ s', s' = (((List.range A.length).drop o).flatMap fun o => (List.range (arN A o)).flatMap fun e => (List.range (tlen A o)).map fun i => (o, e, i)).foldl (stepI n A) s → Ev (fun k => impl_closePartition.l0 k s'.2.2 s'.1 s'.2.1 (n : Int) A) r) →
   Ev (fun k => impl_closePartition.l1 k s.2.2 s.1 s.2.1 A (A.length : Int) (o : Int) (n : Int) A) r := by
 have hf := algB_few ha
 intro d
 induction d with
 | zero =>
  intro o s ho hs h
  refine Ev.step (fun _ => impl_closePartition.l1.eq_2 ..) (Ev.neg (by omega) (h s ?_))
  rw [List.drop_of_length_le (by simp; omega)]
  rfl
 | succ d ih =>
  intro o s ho hs h
  obtain ⟨q1, q2, q3, q4⟩ := op_facts ha (o := o) (by omega)
  rw [drop_cons (List.range A.length) 0 (i := o) (by simp; omega), range_at (by omega), List.flatMap_cons, List.foldl_append] at h
  refine Ev.step (fun _ => impl_closePartition.l1.eq_2 ..) (Ev.pos (by omega) (Ev.pos (by omega) (Ev.pos (by omega) ?_)))
  rw [rdO_n, q1]
  have := impl_closePartition_in2 ha h0 o (by omega) r (arN A o) 0 s (by omega) hs ?_
  ·rw [Nat.pow_zero] at this
   exact this
  ·intro s' hs'
   rw [w64s (i := o) (n := 1000) (by omega) (by omega)]
   rw [List.drop_zero] at hs'
   have hU := (foldI_facts ha h0 ((List.range (arN A o)).flatMap fun e => (List.range (tlen A o)).map fun i => (o, e, i)) s (fun t ht => by
    obtain ⟨e, he, ht⟩ := List.mem_flatMap.1 ht
    obtain ⟨i, hi, rfl⟩ := List.mem_map.1 ht
    exact ⟨by show o < A.length; omega, List.mem_range.1 he, List.mem_range.1 hi⟩) hs).1
   rw [← hs'] at hU h
   exact ih (o + 1) s' (by omega) hU h
theorem pts_ok {n : Nat} {A : List IOp} : ∀ t, t ∈ ptsAt n A ↔ okPt n A t := by
 rintro ⟨o, e, i⟩
 simp only [ptsAt, List.mem_flatMap, List.mem_map, List.mem_range, Prod.mk.injEq, okPt]
 constructor
 ·rintro ⟨o', h1, e', h2, i', h3, rfl, rfl, rfl⟩
  exact ⟨h1, h2, h3⟩
 ·rintro ⟨h1, h2, h3⟩
  exact ⟨o, h1, e, h2, i, h3, rfl, rfl, rfl⟩
theorem impl_closePartition_loop {n : Nat} {A : List IOp} {p0 : List Int} (ha : algB n A = true) (h0 : partB n p0 = true) : ∀ (m : Nat) (p : List Int) (was : Bool), sm p < m → Under n A p0 p →
  ∃ q, isClose n A p0 q ∧ sm q ≤ sm p ∧ Ev (fun k => impl_closePartition.l0 k p was true (n : Int) A) (was || decide (q ≠ p), q) := by
 intro m
 induction m with
 | zero => intro p was hm; omega
 | succ m ih =>
  intro p was hm hp
  obtain ⟨f1, f2, f3⟩ := foldI_facts ha h0 (ptsAt n A) (was, false, p) (fun t ht => (pts_ok t).1 ht) hp
  rcases f3 with ⟨f3, f4⟩ | ⟨f3, f4, f5⟩
  ·refine ⟨p, ⟨hp, fun t ht => ?_⟩, Nat.le_refl _, ?_⟩
   ·have := f4 t ((pts_ok t).2 ht)
    unfold ap
    rw [this]
   ·refine Ev.step (fun _ => impl_closePartition.l0.eq_2 ..) (Ev.pos rfl ?_)
    refine impl_closePartition_in1 ha h0 _ A.length 0 (was, false, p) (by omega) hp ?_
    intro s' hs'
    have e : s' = (was, false, p) := by rw [hs', List.drop_zero]; exact f3
    rw [e]
    exact Ev.step (fun _ => impl_closePartition.l0.eq_2 ..) (Ev.neg (by simp) ((Ev.now _).to (by simp)))
  ·obtain ⟨q, q1, q2, q3⟩ := ih _ true (by simp only at f5; omega) f1
   have hlt : sm q < sm p := by simp only at f5; omega
   have hne : q ≠ p := fun e => by rw [e] at hlt; omega
   refine ⟨q, q1, by omega, ?_⟩
   refine Ev.step (fun _ => impl_closePartition.l0.eq_2 ..) (Ev.pos rfl ?_)
   refine impl_closePartition_in1 ha h0 _ A.length 0 (was, false, p) (by omega) hp ?_
   intro s' hs'
   have e : s' = (ptsAt n A).foldl (stepI n A) (was, false, p) := by rw [hs', List.drop_zero]; rfl
   rw [e, f3, f4]
   refine q3.to ?_
   rw [decide_eq_true hne]
   simp
theorem impl_closePartition_ev {n : Nat} {A : List IOp} {p : List Int} (ha : algB n A = true) (h0 : partB n p = true) : ∃ q, isClose n A p q ∧ Ev (fun k => impl_closePartition.f k (n : Int) A p) (decide (q ≠ p), q) := by
 obtain ⟨q, q1, q2, q3⟩ := impl_closePartition_loop ha h0 (sm p + 1) p false (by omega) (Under.refl h0)
 exact ⟨q, q1, q3.to (by simp)⟩
theorem args_digit (n : Nat) : ∀ (ar i j : Nat), j < ar → gd (argsM (n : Int) ar (i : Int)) j = (digit n (n ^ (ar - 1 - j)) i : Int) := by
 intro ar
 induction ar with
 | zero => intro i j h; omega
 | succ ar ih =>
  intro i j hj
  rw [argsM]
  have hl := argsM_length (n : Int) ar ((i : Int) / (n : Int))
  by_cases e : j = ar
  ·subst e
   rw [gd_lt (by simp [hl]), List.getElem_append_right (by omega)]
   simp [hl, digit]
  ·rw [gd_lt (by simp [hl]; omega), List.getElem_append_left (by omega), ← gd_lt (by omega)]
   have := ih (i / n) j (by omega)
   rw [Int.natCast_ediv] at this
   rw [this]
   unfold digit
   rw [Nat.div_div_eq_div_mul, show ar + 1 - 1 - j = (ar - 1 - j) + 1 by omega, Nat.pow_succ, Nat.mul_comm n]
theorem repl_up (n st i y : Nat) : repl n st (i / n) y * n + i % n = repl n (n * st) i y := by
 unfold repl
 rw [Nat.div_div_eq_div_mul i n st, Nat.mod_mul]
 generalize i / (n * st) / n * n + y = X
 generalize i / n % st = b
 rw [Nat.add_mul, Nat.mul_assoc X st n, Nat.mul_comm st n, Nat.mul_comm b n]
 omega
theorem args_repl (n : Nat) (hn : 1 ≤ n) : ∀ (ar i j y : Nat), j < ar → i < n ^ ar → valM (n : Int) ((argsM (n : Int) ar (i : Int)).set j (y : Int)) = (repl n (n ^ (ar - 1 - j)) i y : Int) := by
 intro ar
 induction ar with
 | zero => intro i j y h; omega
 | succ ar ih =>
  intro i j y hj hi
  rw [argsM]
  have hl := argsM_length (n : Int) ar ((i : Int) / (n : Int))
  have hi2 : i / n < n ^ ar := Nat.div_lt_of_lt_mul (by rw [Nat.pow_succ] at hi; rw [Nat.mul_comm]; exact hi)
  by_cases e : j = ar
  ·subst e
   rw [List.set_append_right _ _ (by omega), hl, Nat.sub_self, List.set_cons_zero, valM_snoc, valM_args (by omega) _ _ (Int.ediv_nonneg (by omega) (by omega)) (by rw [← Int.natCast_ediv, pow_cast]; exact Int.ofNat_lt.2 hi2)]
   unfold repl
   simp [Nat.mod_one]
  ·rw [List.set_append_left _ _ (by omega), valM_snoc]
   have := ih (i / n) j y (by omega) hi2
   rw [Int.natCast_ediv] at this
   rw [this, ← Int.natCast_emod]
   have key : repl n (n ^ (ar - 1 - j)) (i / n) y * n + i % n = repl n (n ^ (ar + 1 - 1 - j)) i y := by
    rw [show ar + 1 - 1 - j = (ar - 1 - j) + 1 by omega, Nat.pow_succ, Nat.mul_comm (n ^ (ar - 1 - j)) n]
    exact repl_up n _ i y
   rw [← key]
   simp
def ptsS (A : List IOp) : List Pt := (List.range A.length).flatMap fun o => (List.range (tlen A o)).flatMap fun i => (List.range (arN A o)).map fun j => (o, arN A o - 1 - j, i)
theorem ptsS_ok {n : Nat} {A : List IOp} : ∀ t, t ∈ ptsS A ↔ okPt n A t := by
 rintro ⟨o, e, i⟩
 simp only [ptsS, List.mem_flatMap, List.mem_map, List.mem_range, Prod.mk.injEq, okPt]
 constructor
 ·rintro ⟨o', h1, i', h2, j', h3, rfl, h4, rfl⟩
  exact ⟨h1, by omega, h2⟩
 ·rintro ⟨h1, h2, h3⟩
  exact ⟨o, h1, i, h3, arN A o - 1 - e, by omega, rfl, by omega, rfl⟩
def pushP (n : Nat) (A : List IOp) (q : List Int) : List Int := (ptsS A).foldl (stepU n A q) q
theorem foldS_facts {n : Nat} {A : List IOp} {p0 q : List Int} (ha : algB n A = true) (h0 : partB n p0 = true) (hq : Under n A p0 q) : ∀ (ts : List Pt) (p : List Int), (∀ t ∈ ts, okPt n A t) → Under n A p0 p →
  Under n A p0 (ts.foldl (stepU n A q) p) ∧ sm (ts.foldl (stepU n A q) p) ≤ sm p ∧
  (ts.foldl (stepU n A q) p = p ∧ (∀ t ∈ ts, gd p (ptL A t) = gd p (ptR n A q t)) ∨ sm (ts.foldl (stepU n A q) p) < sm p) := by
 intro ts
 induction ts with
 | nil => intro p _ h; exact ⟨h, Nat.le_refl _, .inl ⟨rfl, fun t ht => by simp at ht⟩⟩
 | cons t ts ih =>
  intro p hts h
  have ht := hts t (by simp)
  have hl := partB_len h.part
  obtain ⟨i1, i2, _⟩ := pt_in ha hq.part ht
  rw [List.foldl_cons]
  by_cases e : gd p (ptL A t) = gd p (ptR n A q t)
  ·have e1 : stepU n A q p t = p := uni_same e
   rw [e1]
   obtain ⟨j1, j2, j3⟩ := ih p (fun x hx => hts x (by simp [hx])) h
   refine ⟨j1, j2, ?_⟩
   rcases j3 with ⟨j3, j4⟩ | j3
   ·refine .inl ⟨j3, fun x hx => ?_⟩
    rcases List.mem_cons.1 hx with rfl | hx
    ·exact e
    ·exact j4 x hx
   ·exact .inr j3
  ·have hU : Under n A p0 (stepU n A q p t) := Under.step ha h0 h hq ht
   obtain ⟨j1, j2, j3⟩ := ih (stepU n A q p t) (fun x hx => hts x (by simp [hx])) hU
   have hs : sm (stepU n A q p t) < sm p := uni_sm h.part (by omega) (by omega) e
   exact ⟨j1, by omega, .inr (by omega)⟩
theorem pushP_facts {n : Nat} {A : List IOp} {p0 q : List Int} (ha : algB n A = true) (h0 : partB n p0 = true) (hq : Under n A p0 q) : Under n A p0 (pushP n A q) ∧ (pushP n A q = q ∧ cong n A q ∨ sm (pushP n A q) < sm q) := by
 obtain ⟨f1, f2, f3⟩ := foldS_facts ha h0 hq (ptsS A) q (fun t ht => (ptsS_ok t).1 ht) hq
 refine ⟨f1, ?_⟩
 rcases f3 with ⟨f3, f4⟩ | f3
 ·refine .inl ⟨f3, fun t ht => ?_⟩
  have := f4 t ((ptsS_ok t).2 ht)
  unfold ap
  rw [this]
 ·exact .inr f3
theorem pushP_cong {n : Nat} {A : List IOp} {p : List Int} (ha : algB n A = true) (hp : partB n p = true) : pushP n A p = p ↔ cong n A p := by
 obtain ⟨f1, f2⟩ := pushP_facts ha hp (Under.refl hp)
 constructor
 ·intro e
  rcases f2 with f2 | f2
  ·exact f2.2
  ·rw [e] at f2
   omega
 ·intro hc
  exact finer_anti f1.part hp (f1.least p hp hc (finer_refl hp)) f1.up
theorem spec_l6Push_in2 {n : Nat} {A : List IOp} {p0 q : List Int} (ha : algB n A = true) (h0 : partB n p0 = true) (hq : Under n A p0 q) (o i : Nat) (ho : o < A.length) (hi : i < tlen A o) (r : List Int) :
  ∀ (d j : Nat) (p : List Int), j + d = arN A o → Under n A p0 p →
   (∀ p', p' = (((List.range (arN A o)).drop j).map fun j => ((o, arN A o - 1 - j, i) : Pt)).foldl (stepU n A q) p → Ev (fun k => spec_l6Push.l1 k q p' (o : Int) (wrap64 ((i : Int) + 1)) (n : Int) A) r) →
   Ev (fun k => spec_l6Push.l2 k q p (o : Int) (i : Int) (argsM (n : Int) (arN A o) (i : Int)) (j : Int) (n : Int) A) r := by
 have hn := algB_size ha
 have hlq := partB_len hq.part
 obtain ⟨q1, q2, q3, q4⟩ := op_facts ha ho
 have hal := argsM_length (n : Int) (arN A o) (i : Int)
 intro d
 induction d with
 | zero =>
  intro j p hj hp h
  refine Ev.step (fun _ => spec_l6Push.l2.eq_2 ..) (Ev.neg (by omega) (h p ?_))
  rw [List.drop_of_length_le (by simp; omega)]
  rfl
 | succ d ih =>
  intro j p hj hp h
  have hl := partB_len hp.part
  have ht : okPt n A (o, arN A o - 1 - j, i) := ⟨ho, by show arN A o - 1 - j < arN A o; omega, hi⟩
  obtain ⟨i1, i2, i3⟩ := pt_in ha hq.part ht
  have hd : digit n (n ^ (arN A o - 1 - j)) i < n := digit_lt (by omega)
  have hdig := args_digit n (arN A o) i j (by omega)
  have hy := gd_ap hq.part (i := digit n (n ^ (arN A o - 1 - j)) i) (by omega)
  have hyn : ap q (digit n (n ^ (arN A o - 1 - j)) i) < n := by have := ap_lt hq.part (i := digit n (n ^ (arN A o - 1 - j)) i) (by omega); omega
  have hrep := args_repl n (by omega) (arN A o) i j (ap q (digit n (n ^ (arN A o - 1 - j)) i)) (by omega) (by rw [← q3]; exact hi)
  have hin : ∀ x ∈ (argsM (n : Int) (arN A o) (i : Int)).set j ((ap q (digit n (n ^ (arN A o - 1 - j)) i) : Nat) : Int), 0 ≤ x ∧ x < (n : Int) := fun x hx => by
   rcases List.mem_or_eq_of_mem_set hx with hx | rfl
   ·exact argsM_in (by omega) _ _ (by omega) x hx
   ·exact ⟨Int.natCast_nonneg _, Int.ofNat_lt.2 hyn⟩
  have hdl : ((digit n (n ^ (arN A o - 1 - j)) i : Nat) : Int) < (q.length : Int) := by
   rw [hlq]
   exact Int.ofNat_lt.2 hd
  have hT1 : (A.getD o z75).f1.length = tlen A o := rfl
  have v1 : gd (A.getD o z75).f1 i = (ptL A (o, arN A o - 1 - j, i) : Int) := (q4 i hi).1
  have v2 : gd (A.getD o z75).f1 (repl n (n ^ (arN A o - 1 - j)) i (ap q (digit n (n ^ (arN A o - 1 - j)) i))) = (ptR n A q (o, arN A o - 1 - j, i) : Int) := (q4 _ i3).1
  rw [drop_cons (List.range (arN A o)) 0 (i := j) (by simp; omega), range_at (by omega), List.map_cons, List.foldl_cons] at h
  have hval := spec_l2Value_ev (n : Int) A o _ ⟨by omega, by omega⟩ ho hin (by rw [List.length_set, hal]; omega) (by rw [List.length_set, hal, hT1, q3, pow_cast]; exact Int.le_refl _)
  rw [hrep, Int.toNat_natCast, v2] at hval
  refine Ev.step (fun _ => spec_l6Push.l2.eq_2 ..) (Ev.pos (by omega) ?_)
  rw [spec_l1Own_eq _ (by omega)]
  refine Ev.bind1 ?_
  rw [rdn, hdig, rdn, hy, Int.toNat_natCast, rdO_n, rdn, v1, w64s (i := j) (n := 1000) (by omega) (by omega)]
  refine Ev.pos (by omega) (Ev.pos (Int.natCast_nonneg _) (Ev.pos hdl (Ev.pos (by omega) (Ev.pos (by omega) (Ev.pos (by omega) (Ev.pos (by omega) (Ev.pos (by omega) (hval.bind ?_))))))))
  refine (spec_l6Unite_ev p _ _ (by omega) (by omega) (by omega)).bind ?_
  exact ih (j + 1) (stepU n A q p (o, arN A o - 1 - j, i)) (by omega) (Under.step ha h0 hp hq ht) h
theorem spec_l6Push_in1 {n : Nat} {A : List IOp} {p0 q : List Int} (ha : algB n A = true) (h0 : partB n p0 = true) (hq : Under n A p0 q) (o : Nat) (ho : o < A.length) (r : List Int) :
  ∀ (d i : Nat) (p : List Int), i + d = tlen A o → Under n A p0 p →
   (∀ p', p' = (((List.range (tlen A o)).drop i).flatMap fun i => (List.range (arN A o)).map fun j => ((o, arN A o - 1 - j, i) : Pt)).foldl (stepU n A q) p → Ev (fun k => spec_l6Push.l0 k q p' (wrap64 ((o : Int) + 1)) (n : Int) A) r) →
   Ev (fun k => spec_l6Push.l1 k q p (o : Int) (i : Int) (n : Int) A) r := by
 have hn := algB_size ha
 obtain ⟨q1, q2, q3, q4⟩ := op_facts ha ho
 have hT := npow_le (n := n) (e := arN A o) (by omega) q2
 have hT1 : (A.getD o z75).f1.length = tlen A o := rfl
 intro d
 induction d with
 | zero =>
  intro i p hi hp h
  refine Ev.step (fun _ => spec_l6Push.l1.eq_2 ..) ?_
  rw [rdO_n]
  refine Ev.pos (by omega) (Ev.pos (by omega) (Ev.neg (by omega) (h p ?_)))
  rw [List.drop_of_length_le (by simp; omega)]
  rfl
 | succ d ih =>
  intro i p hi hp h
  rw [drop_cons (List.range (tlen A o)) 0 (i := i) (by simp; omega), range_at (by omega), List.flatMap_cons, List.foldl_append] at h
  refine Ev.step (fun _ => spec_l6Push.l1.eq_2 ..) ?_
  rw [rdO_n, q1]
  refine Ev.pos (by omega) (Ev.pos (by omega) (Ev.pos (by omega) ((spec_l2Args_ev (n : Int) (arN A o) (i : Int) (by omega) q2 (by omega) (by omega)).bind ?_)))
  refine spec_l6Push_in2 ha h0 hq o i ho (by omega) r (arN A o) 0 p (by omega) hp ?_
  intro p' hp'
  rw [w64s (i := i) (n := 1000) (by omega) (by omega)]
  rw [List.drop_zero] at hp'
  have hU := (foldS_facts ha h0 hq ((List.range (arN A o)).map fun j => ((o, arN A o - 1 - j, i) : Pt)) p (fun t ht => by
   obtain ⟨j, hj, rfl⟩ := List.mem_map.1 ht
   have := List.mem_range.1 hj
   exact ⟨ho, by show arN A o - 1 - j < arN A o; omega, by show i < tlen A o; omega⟩) hp).1
  rw [← hp'] at hU h
  exact ih (i + 1) p' (by omega) hU h
theorem spec_l6Push_in0 {n : Nat} {A : List IOp} {p0 q : List Int} (ha : algB n A = true) (h0 : partB n p0 = true) (hq : Under n A p0 q) :
  ∀ (d o : Nat) (p : List Int), o + d = A.length → Under n A p0 p →
   Ev (fun k => spec_l6Push.l0 k q p (o : Int) (n : Int) A) ((((List.range A.length).drop o).flatMap fun o => (List.range (tlen A o)).flatMap fun i => (List.range (arN A o)).map fun j => ((o, arN A o - 1 - j, i) : Pt)).foldl (stepU n A q) p) := by
 have hf := algB_few ha
 intro d
 induction d with
 | zero =>
  intro o p ho hp
  rw [List.drop_of_length_le (by simp; omega)]
  exact Ev.step (fun _ => spec_l6Push.l0.eq_2 ..) (Ev.neg (by omega) (Ev.now _))
 | succ d ih =>
  intro o p ho hp
  rw [drop_cons (List.range A.length) 0 (i := o) (by simp; omega), range_at (by omega), List.flatMap_cons, List.foldl_append]
  refine Ev.step (fun _ => spec_l6Push.l0.eq_2 ..) (Ev.pos (by omega) ?_)
  refine spec_l6Push_in1 ha h0 hq o (by omega) _ (tlen A o) 0 p (by omega) hp ?_
  intro p' hp'
  rw [w64s (i := o) (n := 1000) (by omega) (by omega)]
  rw [List.drop_zero] at hp'
  have hU := (foldS_facts ha h0 hq ((List.range (tlen A o)).flatMap fun i => (List.range (arN A o)).map fun j => ((o, arN A o - 1 - j, i) : Pt)) p (fun t ht => by
   obtain ⟨i, hi, ht⟩ := List.mem_flatMap.1 ht
   obtain ⟨j, hj, rfl⟩ := List.mem_map.1 ht
   have := List.mem_range.1 hj
   exact ⟨by show o < A.length; omega, by show arN A o - 1 - j < arN A o; omega, List.mem_range.1 hi⟩) hp).1
  rw [← hp'] at hU ⊢
  exact ih (o + 1) p' (by omega) hU
theorem spec_l6Push_ev {n : Nat} {A : List IOp} {p0 q : List Int} (ha : algB n A = true) (h0 : partB n p0 = true) (hq : Under n A p0 q) : Ev (fun k => spec_l6Push.f k (n : Int) A q) (pushP n A q) := by
 have hn := algB_size ha
 have hl := partB_len hq.part
 unfold spec_l6Push.f
 rw [spec_l1Own_eq q (by omega)]
 exact Ev.bind1 (spec_l6Push_in0 ha h0 hq A.length 0 q (by omega) hq)
def congB (n : Nat) (A : List IOp) (p : List Int) : Bool := (ptsAt n A).all fun t => decide (ap p (ptL A t) = ap p (ptR n A p t))
theorem congB_iff {n : Nat} {A : List IOp} {p : List Int} : congB n A p = true ↔ cong n A p := by
 unfold congB cong
 rw [List.all_eq_true]
 constructor
 ·intro h t ht
  exact of_decide_eq_true (h t ((pts_ok t).2 ht))
 ·intro h t ht
  exact decide_eq_true (h t ((pts_ok t).1 ht))
theorem impl_isCongruence_ev {n : Nat} {A : List IOp} {p : List Int} (ha : algB n A = true) (hl : p.length ≤ 1048576) : Ev (fun k => impl_isCongruence.f k (n : Int) A p) (partB n p && congB n A p) := by
 unfold impl_isCongruence.f
 refine (impl_isPartition_ev n p (by omega)).bind (Ev.ite (fun h => ?_) (fun h => (Ev.now _).to (by simp [h])))
 rw [impl_clone_eq p (by omega)]
 obtain ⟨q, q1, q2⟩ := impl_closePartition_ev ha h
 refine Ev.bind1 (q2.bind ((Ev.now _).to ?_))
 rw [h, Bool.true_and, Bool.eq_iff_iff, congB_iff]
 have e : q = p ↔ cong n A p := by
  constructor
  ·intro e
   rw [← e]
   exact q1.2
  ·intro hc
   exact isClose_one q1 ((isClose_self h).2 hc)
 simp [e]
theorem spec_l6Is_ev {n : Nat} {A : List IOp} {p : List Int} (ha : algB n A = true) (hl : p.length ≤ 1048576) : Ev (fun k => spec_l6Is.f k (n : Int) A p) (partB n p && congB n A p) := by
 unfold spec_l6Is.f
 refine (spec_l6Partition_ev n p (by omega)).bind (Ev.ite (fun h => ?_) (fun h => (Ev.now _).to (by simp [h])))
 have hU := (pushP_facts ha h (Under.refl h)).1
 have h1 := partB_len hU.part
 have h2 := partB_len h
 refine (spec_l6Push_ev ha h (Under.refl h)).bind ((spec_l1Same_ev _ _ (by omega)).bind ((Ev.now _).to ?_))
 rw [h, Bool.true_and, Bool.eq_iff_iff, congB_iff, decide_eq_true_iff, pushP_cong ha h]
def imgs (f : List Int) (l : List Int) : List Int := l.map fun x => gd f x.toNat
theorem imgs_length (f l : List Int) : (imgs f l).length = l.length := by simp [imgs]
theorem gd_takeN (l : List Int) {i j : Nat} (h : j < i) : gd (l.take i) j = gd l j := by simp [gd, List.getD, List.getElem?_take, h]
theorem impl_compose_ev (l f : List Int) (hl : l.length ≤ 1048576) (hin : ∀ x ∈ l, 0 ≤ x ∧ x < (f.length : Int)) : Ev (fun k => impl_compose.f k l f) (imgs f l) := by
 unfold impl_compose.f
 refine Ev.pos (by omega) (Ev.pos (by omega) ?_)
 refine set_loop l 0 (fun x => gd f x.toNat) (fun k out i => impl_compose.l0 k f out l (l.length : Int) i) (imgs f l) ?_ ?_ l.length 0 _ (by omega) (by simp) (fun j hj => by omega)
 ·exact Ev.step (fun _ => impl_compose.l0.eq_2 ..) (Ev.neg (by omega) (Ev.now _))
 ·intro i out hi ho h
  have hx := hin (gd l i) (by rw [gd_lt hi]; exact List.getElem_mem hi)
  change Ev (fun k => impl_compose.l0 k f (out.set i (gd f (gd l i).toNat)) l (l.length : Int) ((i + 1 : Nat) : Int)) _ at h
  refine Ev.step (fun _ => impl_compose.l0.eq_2 ..) ?_
  rw [rdn, rdi f hx.1, w64s (n := l.length) (by omega) (by omega), Int.toNat_natCast]
  exact Ev.pos (by omega) (Ev.pos (by omega) (Ev.pos (by omega) (Ev.pos hx.1 (Ev.pos hx.2 (Ev.pos (by omega) h)))))
theorem setmap_loop {γ : Type} (l : List Int) (f : Int → Int) (L : Nat → List Int → Int → Option γ) (fin : γ) (hend : Ev (fun k => L k (l.map f) (l.length : Int)) fin)
  (hstep : ∀ (i : Nat) (out : List Int), i < l.length → out.length = l.length → gd out i = gd l i → Ev (fun k => L k (out.set i (f (gd l i))) ((i + 1 : Nat) : Int)) fin → Ev (fun k => L k out (i : Int)) fin) :
  ∀ (d i : Nat) (out : List Int), i + d = l.length → out.length = l.length → (∀ j, j < i → gd out j = f (gd l j)) → (∀ j, i ≤ j → gd out j = gd l j) → Ev (fun k => L k out (i : Int)) fin := by
 intro d
 induction d with
 | zero =>
  intro i out hi ho h _
  have : i = l.length := by omega
  subst this
  have : out = l.map f := ext_gd (by simpa using ho) (fun j hj => by
   rw [h j (by omega), gd_lt (i := j) (xs := l.map f) (by simp; omega), List.getElem_map, gd_lt (by omega)])
  rw [this]
  exact hend
 | succ d ih =>
  intro i out hi ho h h'
  refine hstep i out (by omega) ho (h' i (Nat.le_refl _)) (ih (i + 1) _ (by omega) (by simpa using ho) (fun j hj => ?_) (fun j hj => ?_))
  ·by_cases e : j = i
   ·subst e
    rw [set_at _ (by omega)]
   ·rw [set_ne _ (fun e' => e e'.symm)]
    exact h j (by omega)
  ·rw [set_ne _ (by omega)]
   exact h' j (by omega)
def rootB (p : List Int) (i : Nat) : Bool := decide (gd p i = (i : Int))
theorem rootB_t {p : List Int} {i : Nat} (h : gd p i = (i : Int)) : rootB p i = true := decide_eq_true h
theorem rootB_f {p : List Int} {i : Nat} (h : ¬ gd p i = (i : Int)) : ¬ rootB p i = true := fun e => h (of_decide_eq_true e)
def cnt (p : List Int) (i : Nat) : Nat := (List.range i).countP (rootB p)
def leastM (p : List Int) : List Int := ((List.range p.length).filter (rootB p)).map fun (i : Nat) => (i : Int)
def natM (p : List Int) : List Int := (List.range p.length).map fun i => ((cnt p (gd p i).toNat : Nat) : Int)
theorem cnt_succ (p : List Int) (i : Nat) : cnt p (i + 1) = cnt p i + if rootB p i = true then 1 else 0 := by
 simp [cnt, List.range_succ, List.countP_append, List.countP_cons]
theorem cnt_mono (p : List Int) {i j : Nat} (h : i ≤ j) : cnt p i ≤ cnt p j := by
 induction j with
 | zero =>
  have : i = 0 := by omega
  subst this
  exact Nat.le_refl _
 | succ j ih =>
  by_cases e : i = j + 1
  ·subst e; exact Nat.le_refl _
  ·have := ih (by omega)
   have := cnt_succ p j
   omega
theorem cnt_le (p : List Int) (i : Nat) : cnt p i ≤ i := by
 have := List.countP_le_length (p := rootB p) (l := List.range i)
 rwa [List.length_range] at this
theorem leastM_length (p : List Int) : (leastM p).length = cnt p p.length := by simp [leastM, cnt, List.countP_eq_length_filter]
theorem natM_length (p : List Int) : (natM p).length = p.length := by simp [natM]
theorem natM_at (p : List Int) {i : Nat} (h : i < p.length) : gd (natM p) i = (cnt p (gd p i).toNat : Int) := by simp [natM, gd, List.getD, h]
theorem natM_root {p : List Int} {i : Nat} (h : i < p.length) (e : gd p i = (i : Int)) : gd (natM p) i = (cnt p i : Int) := by
 rw [natM_at p h, e, Int.toNat_natCast]
theorem natM_other {n : Int} {p : List Int} (hp : partB n p = true) {i : Nat} (h : i < p.length) : gd (natM p) i = gd (natM p) (gd p i).toNat := by
 obtain ⟨h1, h2, h3⟩ := partAt_of hp h
 rw [natM_at p h, natM_at p (by omega), h3]
theorem natM_in {n : Int} {p : List Int} (hp : partB n p = true) {i : Nat} (h : i < p.length) : 0 ≤ gd (natM p) i ∧ gd (natM p) i < ((leastM p).length : Int) := by
 obtain ⟨h1, h2, h3⟩ := partAt_of hp h
 rw [natM_at p h, leastM_length]
 refine ⟨Int.natCast_nonneg _, ?_⟩
 have e := cnt_succ p (gd p i).toNat
 have hr : rootB p (gd p i).toNat = true := decide_eq_true (by rw [h3]; omega)
 rw [if_pos hr] at e
 have := cnt_mono p (i := (gd p i).toNat + 1) (j := p.length) (by omega)
 omega
theorem leastM_in (p : List Int) : ∀ x ∈ leastM p, 0 ≤ x ∧ x < (p.length : Int) := by
 intro x hx
 obtain ⟨i, hi, rfl⟩ := List.mem_map.1 hx
 have := List.mem_range.1 (List.mem_filter.1 hi).1
 omega
theorem leastM_le (p : List Int) : (leastM p).length ≤ p.length := by rw [leastM_length]; exact cnt_le p _
def leasts (p : List Int) (i : Nat) : List Int := ((List.range i).filter (rootB p)).map fun (i : Nat) => (i : Int)
theorem leasts_succ (p : List Int) (i : Nat) : leasts p (i + 1) = leasts p i ++ if rootB p i = true then [(i : Int)] else [] := by
 unfold leasts
 rw [List.range_succ, List.filter_append, List.map_append]
 by_cases h : rootB p i = true
 ·simp [h]
 ·simp [h]
theorem leasts_length (p : List Int) (i : Nat) : (leasts p i).length = cnt p i := by simp [leasts, cnt, List.countP_eq_length_filter]
theorem leastM_pos {n : Int} {p : List Int} (hp : partB n p = true) (h : 0 < p.length) : 1 ≤ (leastM p).length := by
 obtain ⟨h1, h2, h3⟩ := partAt_of hp h
 have e := cnt_succ p 0
 rw [if_pos (rootB_t (i := 0) (by omega))] at e
 have := cnt_mono p (i := 0 + 1) (j := p.length) (by omega)
 rw [leastM_length]
 omega
theorem impl_naturalMap_loop {n : Int} {p : List Int} (hp : partB n p = true) (hl : p.length ≤ 1048576) : ∀ (d i : Nat) (x : List Int), i + d = p.length → x.length = p.length → (∀ j, j < i → gd x j = gd (natM p) j) → Ev (fun k => impl_naturalMap.l0 k x (cnt p i : Int) p (p.length : Int) (i : Int)) (natM p) := by
 intro d
 induction d with
 | zero =>
  intro i x hi hx h
  refine Ev.step (fun _ => impl_naturalMap.l0.eq_2 ..) (Ev.neg (by omega) ?_)
  have : x = natM p := ext_gd (by rw [natM_length, hx]) (fun j hj => h j (by omega))
  rw [this]
  exact Ev.now _
 | succ d ih =>
  intro i x hi hx h
  obtain ⟨h1, h2, h3⟩ := partAt_of hp (i := i) (by omega)
  have hc := cnt_le p i
  have hs := cnt_succ p i
  refine Ev.step (fun _ => impl_naturalMap.l0.eq_2 ..) ?_
  rw [rdn, w64s (i := i) (n := p.length) (by omega) (by omega), w64s (i := cnt p i) (n := p.length) (by omega) (by omega)]
  refine Ev.pos (by omega) (Ev.pos (by omega) (Ev.pos (by omega) (Ev.ite (fun hr => ?_) (fun hr => ?_))))
  ·rw [if_pos (rootB_t hr)] at hs
   refine Ev.pos (by omega) ?_
   rw [← hs, Int.toNat_natCast]
   refine ih (i + 1) _ (by omega) (by simpa using hx) (fun j hj => ?_)
   by_cases e : j = i
   ·subst e
    rw [set_at _ (by omega), natM_root (by omega) hr]
   ·rw [set_ne _ (fun e' => e e'.symm)]
    exact h j (by omega)
  ·rw [if_neg (rootB_f hr)] at hs
   refine Ev.pos h1 (Ev.pos (by omega) (Ev.pos (by omega) ?_))
   rw [rdi x h1, h (gd p i).toNat (by omega), ← natM_other hp (by omega), Int.toNat_natCast, show cnt p i = cnt p (i + 1) by omega]
   refine ih (i + 1) _ (by omega) (by simpa using hx) (fun j hj => ?_)
   by_cases e : j = i
   ·subst e
    rw [set_at _ (by omega)]
   ·rw [set_ne _ (fun e' => e e'.symm)]
    exact h j (by omega)
theorem impl_naturalMap_ev {n : Int} {p : List Int} (hp : partB n p = true) (hl : p.length ≤ 1048576) : Ev (fun k => impl_naturalMap.f k p) (natM p) := by
 unfold impl_naturalMap.f
 exact Ev.pos (by omega) (Ev.pos (by omega) (impl_naturalMap_loop hp hl p.length 0 _ (by omega) (by simp) (fun j hj => by omega)))
theorem spec_l9Map_loop {n : Int} {p : List Int} (hp : partB n p = true) (hl : p.length ≤ 1048576) : ∀ (d i : Nat), i + d = p.length → Ev (fun k => spec_l9Map.l0 k p ((natM p).take i) (cnt p i : Int) (i : Int)) (natM p) := by
 intro d
 induction d with
 | zero =>
  intro i hi
  refine Ev.step (fun _ => spec_l9Map.l0.eq_2 ..) (Ev.neg (by omega) ?_)
  rw [List.take_of_length_le (by rw [natM_length]; omega)]
  exact Ev.now _
 | succ d ih =>
  intro i hi
  obtain ⟨h1, h2, h3⟩ := partAt_of hp (i := i) (by omega)
  have hc := cnt_le p i
  have hs := cnt_succ p i
  have htl : ((natM p).take i).length = i := by rw [List.length_take, natM_length]; omega
  refine Ev.step (fun _ => spec_l9Map.l0.eq_2 ..) ?_
  rw [rdn, w64s (i := i) (n := p.length) (by omega) (by omega), w64s (i := cnt p i) (n := p.length) (by omega) (by omega)]
  refine Ev.pos (by omega) (Ev.pos (by omega) (Ev.ite (fun hr => ?_) (fun hr => ?_)))
  ·rw [if_pos (rootB_t hr)] at hs
   refine Ev.pos (by omega) ?_
   rw [← hs, ← natM_root (by omega) hr, take_snoc _ (by rw [natM_length]; omega)]
   exact ih (i + 1) (by omega)
  ·rw [if_neg (rootB_f hr)] at hs
   have e1 : rd ((natM p).take i) (gd p i) = gd (natM p) i := by rw [rdi _ h1, gd_takeN _ (by omega), ← natM_other hp (by omega)]
   refine Ev.pos h1 (Ev.pos (by omega) (Ev.pos (by omega) ?_))
   rw [e1, take_snoc _ (by rw [natM_length]; omega), show cnt p i = cnt p (i + 1) by omega]
   exact ih (i + 1) (by omega)
theorem spec_l9Map_ev {n : Int} {p : List Int} (hp : partB n p = true) (hl : p.length ≤ 1048576) : Ev (fun k => spec_l9Map.f k p) (natM p) := by
 unfold spec_l9Map.f
 exact spec_l9Map_loop hp hl p.length 0 (by omega)
theorem impl_leastOf_loop (p : List Int) (hl : p.length ≤ 1048576) : ∀ (d i : Nat), i + d = p.length → Ev (fun k => impl_leastOf.l0 k (leasts p i) p (p.length : Int) (i : Int)) (leastM p) := by
 intro d
 induction d with
 | zero =>
  intro i hi
  have : i = p.length := by omega
  subst this
  exact Ev.step (fun _ => impl_leastOf.l0.eq_2 ..) (Ev.neg (by omega) (Ev.now _))
 | succ d ih =>
  intro i hi
  have hc := cnt_le p i
  have hlen := leasts_length p i
  have hs := leasts_succ p i
  refine Ev.step (fun _ => impl_leastOf.l0.eq_2 ..) ?_
  rw [rdn, w64s (i := i) (n := p.length) (by omega) (by omega)]
  refine Ev.pos (by omega) (Ev.pos (by omega) (Ev.pos (by omega) (Ev.ite (fun hr => ?_) (fun hr => ?_))))
  ·rw [if_pos (rootB_t hr)] at hs
   refine Ev.pos (by omega) ?_
   rw [hr, ← hs]
   exact ih (i + 1) (by omega)
  ·rw [if_neg (rootB_f hr), List.append_nil] at hs
   rw [← hs]
   exact ih (i + 1) (by omega)
theorem impl_leastOf_ev (p : List Int) (hl : p.length ≤ 1048576) : Ev (fun k => impl_leastOf.f k p) (leastM p) := by
 unfold impl_leastOf.f
 exact impl_leastOf_loop p hl p.length 0 (by omega)
theorem spec_l9Least_loop (p : List Int) (hl : p.length ≤ 1048576) : ∀ (d i : Nat), i + d = p.length → Ev (fun k => spec_l9Least.l0 k p (leasts p i) (i : Int)) (leastM p) := by
 intro d
 induction d with
 | zero =>
  intro i hi
  have : i = p.length := by omega
  subst this
  exact Ev.step (fun _ => spec_l9Least.l0.eq_2 ..) (Ev.neg (by omega) (Ev.now _))
 | succ d ih =>
  intro i hi
  have hc := cnt_le p i
  have hlen := leasts_length p i
  have hs := leasts_succ p i
  refine Ev.step (fun _ => spec_l9Least.l0.eq_2 ..) ?_
  rw [rdn, w64s (i := i) (n := p.length) (by omega) (by omega)]
  refine Ev.pos (by omega) (Ev.pos (by omega) (Ev.ite (fun hr => ?_) (fun hr => ?_)))
  ·rw [if_pos (rootB_t hr)] at hs
   refine Ev.pos (by omega) ?_
   rw [← hs]
   exact ih (i + 1) (by omega)
  ·rw [if_neg (rootB_f hr), List.append_nil] at hs
   rw [← hs]
   exact ih (i + 1) (by omega)
theorem spec_l9Least_ev (p : List Int) (hl : p.length ≤ 1048576) : Ev (fun k => spec_l9Least.f k p) (leastM p) := by
 unfold spec_l9Least.f
 exact spec_l9Least_loop p hl p.length 0 (by omega)
def isC (n : Int) (A : List IOp) (p : List Int) : Bool := partB n p && congB n.toNat A p
def takesB (n : Int) (A : List IOp) (p : List Int) : Bool := algB n A && isC n A p
theorem isC_part {n : Int} {A : List IOp} {p : List Int} (h : isC n A p = true) : partB n p = true := by
 simp only [isC, Bool.and_eq_true] at h
 exact h.1
theorem takes_of {n : Int} {A : List IOp} {p : List Int} (h : takesB n A p = true) : algB n A = true ∧ isC n A p = true := by
 simpa only [takesB, Bool.and_eq_true] using h
theorem takes_len {n : Int} {A : List IOp} {p : List Int} (h : takesB n A p = true) : algB n A = true ∧ partB n p = true ∧ (p.length : Int) = n ∧ 1 ≤ n ∧ n ≤ 8 := by
 obtain ⟨h1, h2⟩ := takes_of h
 exact ⟨h1, isC_part h2, partB_len (isC_part h2), algB_size h1⟩
theorem isC_impl {n : Int} {A : List IOp} {p : List Int} (ha : algB n A = true) (hl : p.length ≤ 1048576) : Ev (fun k => impl_isCongruence.f k n A p) (isC n A p) := by
 have hn := algB_size ha
 obtain ⟨m, rfl⟩ : ∃ m : Nat, n = m := ⟨n.toNat, by omega⟩
 exact impl_isCongruence_ev ha hl
theorem isC_spec {n : Int} {A : List IOp} {p : List Int} (ha : algB n A = true) (hl : p.length ≤ 1048576) : Ev (fun k => spec_l6Is.f k n A p) (isC n A p) := by
 have hn := algB_size ha
 obtain ⟨m, rfl⟩ : ∃ m : Nat, n = m := ⟨n.toNat, by omega⟩
 exact spec_l6Is_ev ha hl
theorem impl_isCongruent_ev (n : Int) (A : List IOp) (p : List Int) (hA : fitO A) (hl : p.length ≤ 1048576) : Ev (fun k => impl_isCongruent.f k n A p) (takesB n A p) := by
 unfold impl_isCongruent.f
 refine (impl_IsAlgebra_ev n A hA).bind (Ev.ite (fun h => ?_) (fun h => (Ev.now _).to (by simp [takesB, h])))
 exact (isC_impl h hl).bind ((Ev.now _).to (by simp [takesB, h]))
theorem spec_l9Takes_ev (n : Int) (A : List IOp) (p : List Int) (hA : fitO A) (hl : p.length ≤ 1048576) : Ev (fun k => spec_l9Takes.f k n A p) (takesB n A p) := by
 unfold spec_l9Takes.f
 refine (spec_l2Good_ev n A hA).bind (Ev.ite (fun h => ?_) (fun h => (Ev.now _).to (by simp [takesB, h])))
 exact (isC_spec h hl).bind ((Ev.now _).to (by simp [takesB, h]))
theorem markIntS_loop (l : List Int) (a : Int) (ha : 0 ≤ a) (hb : a + l.length ≤ 4611686018427387904) : ∀ (d i : Nat) (x : List Int), i + d = l.length → x.length = l.length → (∀ j, j < i → gd x j = a + j) → Ev (fun k => laws_markIntS.l0 k x (a + i) (i : Int)) (a + l.length, asc l.length a) := by
 intro d
 induction d with
 | zero =>
  intro i x hi hx h
  refine Ev.step (fun _ => laws_markIntS.l0.eq_2 ..) ?_
  refine Ev.neg (by omega) ?_
  have : x = asc l.length a := by
   apply List.ext_getElem (by simp [asc_length, hx])
   intro j h1 h2
   have e := h j (by omega)
   rw [← gd_lt h1, ← gd_lt h2, e, asc_at a (by omega)]
  subst this
  have : i = l.length := by omega
  subst this
  exact Ev.now _
 | succ d ih =>
  intro i x hi hx h
  refine Ev.step (fun _ => laws_markIntS.l0.eq_2 ..) ?_
  refine Ev.pos (by omega) ?_
  refine Ev.pos (by omega) ?_
  rw [w64s (n := l.length) (by omega) (by omega), w64 (by omega) (by omega), Int.toNat_natCast, show a + (i : Int) + 1 = a + ((i + 1 : Nat) : Int) by omega]
  refine ih (i + 1) _ (by omega) (by simpa using hx) ?_
  intro j hj
  by_cases e : j = i
  ·subst e
   simp [gd, List.getD, show j < x.length by omega]
  ·have := h j (by omega)
   simp only [gd, List.getD] at this ⊢
   rw [List.getElem?_set_ne (by omega)]
   exact this
theorem markIntS_ev (l : List Int) (a : Int) (ha : 0 ≤ a) (hb : a + l.length ≤ 4611686018427387904) : Ev (fun k => laws_markIntS.f k l a) (a + l.length, asc l.length a) := by
 unfold laws_markIntS.f
 have := markIntS_loop l a ha hb l.length 0 l (by omega) rfl (fun j hj => by omega)
 simpa using this
theorem heldIntS_loop (n : Nat) (a : Int) (ha : 0 ≤ a) (hb : a + n ≤ 4611686018427387904) : ∀ (d i : Nat), i + d = n → Ev (fun k => laws_heldIntS.l0 k (asc n a) (a + i) (i : Int)) (a + n) := by
 intro d
 induction d with
 | zero =>
  intro i hi
  refine Ev.step (fun _ => laws_heldIntS.l0.eq_2 ..) ?_
  refine Ev.neg (by rw [asc_length]; omega) ?_
  have : i = n := by omega
  subst this
  exact Ev.now _
 | succ d ih =>
  intro i hi
  refine Ev.step (fun _ => laws_heldIntS.l0.eq_2 ..) ?_
  refine Ev.pos (by rw [asc_length]; omega) ?_
  refine Ev.pos (by omega) ?_
  refine Ev.pos (by rw [rdn, asc_at a (by omega)]) ?_
  rw [w64s (n := n) (by omega) (by omega), w64 (by omega) (by omega), show a + (i : Int) + 1 = a + ((i + 1 : Nat) : Int) by omega]
  exact ih (i + 1) (by omega)
theorem heldIntS_ev (n : Nat) (a : Int) (ha : 0 ≤ a) (hb : a + n ≤ 4611686018427387904) : Ev (fun k => laws_heldIntS.f k (asc n a) a) (a + n) := by
 unfold laws_heldIntS.f
 have := heldIntS_loop n a ha hb n 0 (by omega)
 simpa using this
theorem totO_bound (xs : List IOp) (n m : Nat) (h : xs.length ≤ n) (h' : ∀ x ∈ xs, x.f1.length ≤ m) : totO xs ≤ n * (m + 1) := by
 have key : ∀ xs : List IOp, (∀ x ∈ xs, x.f1.length ≤ m) → totO xs ≤ xs.length * (m + 1) := by
  intro xs
  induction xs with
  | nil => intro _; simp [totO]
  | cons x xs ih =>
   intro h
   have h1 := h x (by simp)
   have h2 := ih (fun y hy => h y (by simp [hy]))
   simp only [totO, List.map_cons, List.sum_cons, List.length_cons, Nat.succ_mul] at h2 ⊢
   omega
 exact Nat.le_trans (key xs h') (Nat.mul_le_mul_right (m + 1) h)
theorem size_gives {l : List LOp} {t : Int} (h : 0 ≤ t → (l.length : Int) ≤ 1048576 ∧ ∀ x ∈ l, (x.f1.length : Int) ≤ 1048576) (ht : 0 ≤ t) :
  l.length ≤ 8796093022208 ∧ (∀ x ∈ l, x.f1.length ≤ 35184372088832) ∧ fitO (conv l) ∧ 1 + (totO (conv l) : Int) ≤ 4611686018427387904 := by
 have h1 := h ht
 have hl : l.length ≤ 1048576 := by omega
 have hx : ∀ x ∈ l, x.f1.length ≤ 1048576 := fun x hx => by have := h1.2 x hx; omega
 have hf := conv_fit l (by omega) hx
 have := totO_bound (conv l) 1048576 1048576 (by rw [conv_length]; exact hl) hf.2
 exact ⟨by omega, fun x h => by have := hx x h; omega, hf, by omega⟩
theorem mem_at {ops : List IOp} {x : IOp} (h : x ∈ ops) : ∃ k, k < ops.length ∧ ops.getD k z75 = x := by
 obtain ⟨k, hk, rfl⟩ := List.getElem_of_mem h
 exact ⟨k, hk, by simp [List.getD, hk]⟩
def quoT (m n : Int) (least names : List Int) (ar : Nat) (t : List Int) : List Int := (List.range (m ^ ar).toNat).map fun (i : Nat) => gd names (gd t (valM n (imgs least (argsM m ar (i : Int)))).toNat).toNat
def quoO (n : Int) (A : List IOp) (p : List Int) : List IOp := A.map fun x => ⟨x.f0, quoT ((leastM p).length : Int) n (leastM p) (natM p) x.f0.toNat x.f1⟩
theorem quoT_length (m n : Int) (least names : List Int) (ar : Nat) (t : List Int) : (quoT m n least names ar t).length = (m ^ ar).toNat := by simp [quoT]
structure QuoAt (n : Int) (t p : List Int) (ar i : Nat) : Prop where
 q1 : ∀ x ∈ argsM ((leastM p).length : Int) ar (i : Int), 0 ≤ x ∧ x < ((leastM p).length : Int)
 q2 : ∀ x ∈ imgs (leastM p) (argsM ((leastM p).length : Int) ar (i : Int)), 0 ≤ x ∧ x < n
 q3 : 0 ≤ valM n (imgs (leastM p) (argsM ((leastM p).length : Int) ar (i : Int)))
 q4 : valM n (imgs (leastM p) (argsM ((leastM p).length : Int) ar (i : Int))) < (t.length : Int)
 q5 : 0 ≤ gd t (valM n (imgs (leastM p) (argsM ((leastM p).length : Int) ar (i : Int)))).toNat
 q6 : gd t (valM n (imgs (leastM p) (argsM ((leastM p).length : Int) ar (i : Int)))).toNat < ((natM p).length : Int)
theorem quo_size {n : Int} {A : List IOp} {p : List Int} (ha : algB n A = true) (hp : partB n p = true) : (1 ≤ n ∧ n ≤ 8) ∧ (1 ≤ ((leastM p).length : Int) ∧ ((leastM p).length : Int) ≤ 8) ∧ (p.length : Int) = n ∧ A.length ≤ 4 := by
 have hn := algB_size ha
 have hl := partB_len hp
 have h1 := leastM_pos hp (by omega)
 have h2 := leastM_le p
 exact ⟨hn, ⟨by omega, by omega⟩, hl, algB_few ha⟩
theorem quo_place {n : Int} {A : List IOp} {p : List Int} (ha : algB n A = true) (hp : partB n p = true) {k : Nat} (hk : k < A.length) :
  ∃ ar : Nat, (A.getD k z75).f0 = ar ∧ ar ≤ 3 ∧ (((A.getD k z75).f1.length : Int) = n ^ ar) ∧ ∀ i : Nat, QuoAt n (A.getD k z75).f1 p ar i := by
 obtain ⟨hn, hm, hl, hf⟩ := quo_size ha hp
 obtain ⟨ar, e1, e2, e3, e4⟩ := opB_of (algB_op ha hk)
 refine ⟨ar, e1, e2, e3, fun i => ?_⟩
 have a1 := argsM_in hm.1 ar (i : Int) (by omega)
 have a2 : ∀ x ∈ imgs (leastM p) (argsM ((leastM p).length : Int) ar (i : Int)), 0 ≤ x ∧ x < n := fun x hx => by
  obtain ⟨y, hy, rfl⟩ := List.mem_map.1 hx
  have h1 := a1 y hy
  have h2 : y.toNat < (leastM p).length := by omega
  rw [gd_lt h2]
  have := leastM_in p _ (List.getElem_mem h2)
  omega
 have hv := valM_in hn.1 _ a2
 rw [imgs_length, argsM_length] at hv
 have hx := e4 (gd (A.getD k z75).f1 (valM n (imgs (leastM p) (argsM ((leastM p).length : Int) ar (i : Int)))).toNat) (by rw [gd_lt (by omega)]; exact List.getElem_mem _)
 exact ⟨a1, a2, hv.1, by omega, hx.1, by rw [natM_length]; omega⟩
theorem quoO_length (n : Int) (A : List IOp) (p : List Int) : (quoO n A p).length = A.length := by simp [quoO]
theorem quoO_at {n : Int} {A : List IOp} {p : List Int} {k : Nat} (hk : k < A.length) : (quoO n A p).getD k z75 = ⟨(A.getD k z75).f0, quoT ((leastM p).length : Int) n (leastM p) (natM p) (A.getD k z75).f0.toNat (A.getD k z75).f1⟩ := by
 simp [quoO, List.getD, hk]
theorem quoO_alg {n : Int} {A : List IOp} {p : List Int} (ha : algB n A = true) (hp : partB n p = true) : algB ((leastM p).length : Int) (quoO n A p) = true := by
 obtain ⟨hn, hm, hl, hf⟩ := quo_size ha hp
 simp only [algB, sizeB, Bool.and_eq_true, decide_eq_true_eq, List.all_eq_true, quoO_length]
 refine ⟨hm, hf, fun x hx => ?_⟩
 obtain ⟨k, hk, rfl⟩ := mem_at hx
 rw [quoO_length] at hk
 obtain ⟨ar, e1, e2, e3, e4⟩ := quo_place ha hp hk
 have hN : 0 < ((leastM p).length : Int) ^ ar := Int.pow_pos (by omega)
 rw [quoO_at hk]
 simp only [opB, Bool.and_eq_true, decide_eq_true_eq, List.all_eq_true, inB, e1, Int.toNat_natCast]
 refine ⟨by omega, by rw [quoT_length, powI_nat]; omega, fun y hy => ?_⟩
 obtain ⟨i, _, rfl⟩ := List.mem_map.1 hy
 have q := e4 i
 have h5 := q.q5
 have h6 := q.q6
 have hN := natM_length p
 exact natM_in hp (by omega)
theorem impl_quotient_ev {n : Int} {A : List IOp} {p : List Int} (ha : algB n A = true) (hp : partB n p = true) : Ev (fun g => impl_quotient.f g n A p) (((leastM p).length : Int), quoO n A p) := by
 obtain ⟨hn, hm, hl, hfew⟩ := quo_size ha hp
 unfold impl_quotient.f
 refine (impl_leastOf_ev p (by omega)).bind ((impl_naturalMap_ev hp (by omega)).bind ?_)
 refine map_loop A z75 (fun x => (⟨x.f0, quoT ((leastM p).length : Int) n (leastM p) (natM p) x.f0.toNat x.f1⟩ : IOp)) (fun g out k => impl_quotient.l0 g (leastM p) (natM p) A (A.length : Int) k n A ((leastM p).length : Int) out) _ ?_ ?_ A.length 0 (by simp)
 ·exact Ev.step (fun _ => impl_quotient.l0.eq_2 ..) (Ev.neg (by omega) (Ev.now _))
 ·intro k out hk ho hh
  obtain ⟨ar, e1, e2, e3, e4⟩ := quo_place ha hp hk
  change Ev (fun g => impl_quotient.l0 g (leastM p) (natM p) A (A.length : Int) ((k + 1 : Nat) : Int) n A ((leastM p).length : Int) (out ++ [⟨(A.getD k z75).f0, quoT ((leastM p).length : Int) n (leastM p) (natM p) (A.getD k z75).f0.toNat (A.getD k z75).f1⟩])) _ at hh
  rw [e1, Int.toNat_natCast] at hh
  have h512 := pow_le3 hm e2
  have hN : 0 < ((leastM p).length : Int) ^ ar := Int.pow_pos (by omega)
  refine Ev.step (fun _ => impl_quotient.l0.eq_2 ..) (Ev.pos (by omega) (Ev.pos (by omega) (Ev.pos (by omega) ?_)))
  rw [rdO_n, e1]
  refine map_loop (List.range (((leastM p).length : Int) ^ ar).toNat) 0 (fun i : Nat => gd (natM p) (gd (A.getD k z75).f1 (valM n (imgs (leastM p) (argsM ((leastM p).length : Int) ar (i : Int)))).toNat).toNat)
   (fun g tb i => impl_quotient.l1 g (leastM p) (natM p) i A (A.length : Int) (k : Int) n A ((leastM p).length : Int) out (ar : Int) (A.getD k z75).f1 (ar : Int) tb) _ ?_ ?_ (((leastM p).length : Int) ^ ar).toNat 0 (by simp)
  ·rw [List.length_range]
   refine Ev.step (fun _ => impl_quotient.l1.eq_2 ..) ((impl_power_ev _ ar hm ⟨by omega, by omega⟩).bind ?_)
   rw [powI_nat, w64s (i := k) (n := A.length) (by omega) (by omega)]
   exact Ev.neg (by omega) (Ev.pos (by omega) hh)
  ·intro i tb hi hto hh2
   rw [List.length_range] at hi
   rw [range_at hi] at hh2
   have q := e4 i
   refine Ev.step (fun _ => impl_quotient.l1.eq_2 ..) ((impl_power_ev _ ar hm ⟨by omega, by omega⟩).bind ?_)
   rw [powI_nat]
   refine Ev.pos (by omega) ((impl_argsAt_ev _ ar i hm.1 e2 (by omega) (by omega)).bind ((impl_compose_ev _ _ (by rw [argsM_length]; omega) q.q1).bind ((impl_indexOf_ev n _ hn q.q2 (by rw [imgs_length, argsM_length]; omega)).bind ?_)))
   rw [rdi _ q.q3, rdi _ q.q5, w64s (i := i) (n := 1000) (by omega) (by omega)]
   exact Ev.pos q.q3 (Ev.pos q.q4 (Ev.pos q.q5 (Ev.pos q.q6 (Ev.pos (by omega) hh2))))
theorem spec_l9Quotient_ev {n : Int} {A : List IOp} {p : List Int} (ha : algB n A = true) (hp : partB n p = true) : Ev (fun g => spec_l9Quotient.f g n A p) (((leastM p).length : Int), quoO n A p) := by
 obtain ⟨hn, hm, hl, hfew⟩ := quo_size ha hp
 unfold spec_l9Quotient.f
 refine (spec_l9Least_ev p (by omega)).bind ((spec_l9Map_ev hp (by omega)).bind ?_)
 refine map_loop A z75 (fun x => (⟨x.f0, quoT ((leastM p).length : Int) n (leastM p) (natM p) x.f0.toNat x.f1⟩ : IOp)) (fun g out k => spec_l9Quotient.l0 g (leastM p) (natM p) k n A ((leastM p).length : Int) out) _ ?_ ?_ A.length 0 (by simp)
 ·exact Ev.step (fun _ => spec_l9Quotient.l0.eq_2 ..) (Ev.neg (by omega) (Ev.now _))
 ·intro k out hk ho hh
  obtain ⟨ar, e1, e2, e3, e4⟩ := quo_place ha hp hk
  change Ev (fun g => spec_l9Quotient.l0 g (leastM p) (natM p) ((k + 1 : Nat) : Int) n A ((leastM p).length : Int) (out ++ [⟨(A.getD k z75).f0, quoT ((leastM p).length : Int) n (leastM p) (natM p) (A.getD k z75).f0.toNat (A.getD k z75).f1⟩])) _ at hh
  rw [e1, Int.toNat_natCast] at hh
  have h512 := pow_le3 hm e2
  have hN : 0 < ((leastM p).length : Int) ^ ar := Int.pow_pos (by omega)
  refine Ev.step (fun _ => spec_l9Quotient.l0.eq_2 ..) (Ev.pos (by omega) (Ev.pos (by omega) ?_))
  rw [rdO_n, e1]
  refine map_loop (List.range (((leastM p).length : Int) ^ ar).toNat) 0 (fun i : Nat => gd (natM p) (gd (A.getD k z75).f1 (valM n (imgs (leastM p) (argsM ((leastM p).length : Int) ar (i : Int)))).toNat).toNat)
   (fun g tb i => spec_l9Quotient.l1 g (leastM p) (natM p) (k : Int) i n A ((leastM p).length : Int) out (ar : Int) tb) _ ?_ ?_ (((leastM p).length : Int) ^ ar).toNat 0 (by simp)
  ·rw [List.length_range]
   refine Ev.step (fun _ => spec_l9Quotient.l1.eq_2 ..) ((spec_l2Pow_ev _ ar hm ⟨by omega, by omega⟩).bind ?_)
   rw [powI_nat, w64s (i := k) (n := A.length) (by omega) (by omega)]
   exact Ev.neg (by omega) (Ev.pos (by omega) hh)
  ·intro i tb hi hto hh2
   rw [List.length_range] at hi
   rw [range_at hi] at hh2
   have q := e4 i
   refine Ev.step (fun _ => spec_l9Quotient.l1.eq_2 ..) ((spec_l2Pow_ev _ ar hm ⟨by omega, by omega⟩).bind ?_)
   rw [powI_nat]
   refine Ev.pos (by omega) ((spec_l2Args_ev _ ar i hm.1 e2 (by omega) (by omega)).bind ?_)
   refine setmap_loop (argsM ((leastM p).length : Int) ar (i : Int)) (fun x => gd (leastM p) x.toNat) (fun g xs j => spec_l9Quotient.l2 g (leastM p) (natM p) (k : Int) (i : Int) xs j n A ((leastM p).length : Int) out (ar : Int) tb) _ ?_ ?_ (argsM ((leastM p).length : Int) ar (i : Int)).length 0 _ (by omega) rfl (fun j hj => by omega) (fun j hj => rfl)
   ·refine Ev.step (fun _ => spec_l9Quotient.l2.eq_2 ..) (Ev.neg (by rw [List.length_map]; omega) ?_)
    refine (spec_l2Value_ev n A k (imgs (leastM p) (argsM ((leastM p).length : Int) ar (i : Int))) hn hk q.q2 (by rw [imgs_length, argsM_length]; omega) (by rw [imgs_length, argsM_length]; omega)).bind ?_
    rw [rdi _ q.q5, w64s (i := i) (n := 1000) (by omega) (by omega)]
    exact Ev.pos q.q5 (Ev.pos q.q6 (Ev.pos (by omega) hh2))
   ·intro j xs hj hx hg hh3
    rw [argsM_length] at hj
    have h1 := q.q1 (gd (argsM ((leastM p).length : Int) ar (i : Int)) j) (by rw [gd_lt (by rw [argsM_length]; omega)]; exact List.getElem_mem _)
    rw [argsM_length] at hx
    refine Ev.step (fun _ => spec_l9Quotient.l2.eq_2 ..) ?_
    rw [rdn, hg, rdi _ h1.1, Int.toNat_natCast, w64s (i := j) (n := 1000) (by omega) (by omega)]
    exact Ev.pos (by omega) (Ev.pos (by omega) (Ev.pos h1.1 (Ev.pos h1.2 hh3)))
def kern (l : List Int) : List Int := l.map fun v => (l.idxOf v : Int)
theorem kern_length (l : List Int) : (kern l).length = l.length := by simp [kern]
theorem kern_at {l : List Int} {i : Nat} (h : i < l.length) : gd (kern l) i = (l.idxOf (gd l i) : Int) := by simp [kern, gd, List.getD, h]
theorem idx_lt {l : List Int} {i : Nat} (h : i < l.length) : l.idxOf (gd l i) < l.length := by
 rw [List.idxOf_lt_length_iff, gd_lt h]
 exact List.getElem_mem h
theorem idx_at {l : List Int} {i : Nat} (h : i < l.length) : gd l (l.idxOf (gd l i)) = gd l i := by
 rw [gd_lt (idx_lt h)]
 exact List.getElem_idxOf _
theorem idx_ne {l : List Int} {v : Int} {j : Nat} (h : j < l.idxOf v) : gd l j ≠ v := by
 have hj : j < l.length := Nat.lt_of_lt_of_le h List.idxOf_le_length
 rw [gd_lt hj]
 have := List.not_of_lt_findIdx (p := (· == v)) (xs := l) (i := j) h
 simpa using this
theorem impl_kernelOf_in (l : List Int) (hl : l.length ≤ 35184372088832) (i : Nat) (hi : i < l.length) (r : List Int) : ∀ (d j : Nat) (x : List Int), j + d = l.idxOf (gd l i) → x.length = l.length → gd x i = (j : Int) →
  Ev (fun k => impl_kernelOf.l0 k l (x.set i (l.idxOf (gd l i) : Int)) (l.length : Int) ((i + 1 : Nat) : Int)) r → Ev (fun k => impl_kernelOf.l1 k l x (i : Int) (l.length : Int) (i : Int)) r := by
 have hlt := idx_lt hi
 intro d
 induction d with
 | zero =>
  intro j x hj hx hxi hr
  refine Ev.step (fun _ => impl_kernelOf.l1.eq_2 ..) ?_
  rw [rdn, hxi]
  refine Ev.pos (by omega) (Ev.pos (by omega) (Ev.pos (by omega) (Ev.pos (by omega) (Ev.pos (by omega) ?_))))
  rw [rdn, rdn, w64s (n := l.length) (by omega) (by omega)]
  have hj' : j = l.idxOf (gd l i) := by omega
  refine Ev.pos (by rw [hj']; exact idx_at hi) ?_
  rwa [set_self (by rw [hxi, hj']) (by omega)] at hr
 | succ d ih =>
  intro j x hj hx hxi hr
  refine Ev.step (fun _ => impl_kernelOf.l1.eq_2 ..) ?_
  rw [rdn, hxi]
  refine Ev.pos (by omega) (Ev.pos (by omega) (Ev.pos (by omega) (Ev.pos (by omega) (Ev.pos (by omega) ?_))))
  rw [rdn, rdn]
  refine Ev.neg (idx_ne (by omega)) ?_
  rw [w64s (n := l.length) (by omega) (by omega), Int.toNat_natCast]
  refine ih (j + 1) _ (by omega) (by simpa using hx) (set_at _ (by omega)) ?_
  rwa [List.set_set]
theorem impl_kernelOf_loop (l : List Int) (hl : l.length ≤ 35184372088832) : ∀ (d i : Nat) (x : List Int), i + d = l.length → x.length = l.length → (∀ j, j < i → gd x j = gd (kern l) j) → Ev (fun k => impl_kernelOf.l0 k l x (l.length : Int) (i : Int)) (kern l) := by
 intro d
 induction d with
 | zero =>
  intro i x hi hx h
  refine Ev.step (fun _ => impl_kernelOf.l0.eq_2 ..) ?_
  refine Ev.neg (by omega) ?_
  have : x = kern l := ext_gd (by rw [kern_length, hx]) (fun j hj => h j (by omega))
  subst this
  exact Ev.now _
 | succ d ih =>
  intro i x hi hx h
  refine Ev.step (fun _ => impl_kernelOf.l0.eq_2 ..) ?_
  refine Ev.pos (by omega) (Ev.pos (by omega) (Ev.pos (by omega) ?_))
  rw [Int.toNat_natCast]
  refine impl_kernelOf_in l hl i (by omega) _ (l.idxOf (gd l i)) 0 _ (by omega) (by simpa using hx) (set_at _ (by omega)) ?_
  rw [List.set_set]
  refine ih (i + 1) _ (by omega) (by simpa using hx) (fun j hj => ?_)
  by_cases e : j = i
  ·subst e
   rw [set_at _ (by omega), kern_at (by omega)]
  ·rw [set_ne _ (by omega)]
   exact h j (by omega)
theorem impl_kernelOf_ev (l : List Int) (hl : l.length ≤ 35184372088832) : Ev (fun k => impl_kernelOf.f k l) (kern l) := by
 unfold impl_kernelOf.f
 refine Ev.pos (by omega) (Ev.pos (by omega) ?_)
 exact impl_kernelOf_loop l hl l.length 0 _ (by omega) (by simp) (fun j hj => by omega)
theorem spec_l9Kernel_in (l : List Int) (hl : l.length ≤ 35184372088832) (ho : l.length < 17592186044416) (i : Nat) (hi : i < l.length) (x : List Int) (hx : x.length = i) (r : List Int)
  (hr : Ev (fun k => spec_l9Kernel.l0 k l (x ++ [(l.idxOf (gd l i) : Int)]) ((i + 1 : Nat) : Int)) r) : ∀ (d j : Nat), j + d = l.idxOf (gd l i) → Ev (fun k => spec_l9Kernel.l1 k l x (i : Int) (j : Int)) r := by
 have hlt := idx_lt hi
 intro d
 induction d with
 | zero =>
  intro j hj
  refine Ev.step (fun _ => spec_l9Kernel.l1.eq_2 ..) ?_
  refine Ev.pos (by omega) (Ev.pos (by omega) (Ev.pos (by omega) (Ev.pos (by omega) ?_)))
  rw [rdn, rdn, w64s (n := l.length) (by omega) (by omega)]
  have hj' : j = l.idxOf (gd l i) := by omega
  refine Ev.pos (by rw [hj']; exact idx_at hi) (Ev.pos (by omega) ?_)
  rwa [hj']
 | succ d ih =>
  intro j hj
  refine Ev.step (fun _ => spec_l9Kernel.l1.eq_2 ..) ?_
  refine Ev.pos (by omega) (Ev.pos (by omega) (Ev.pos (by omega) (Ev.pos (by omega) ?_)))
  rw [rdn, rdn]
  refine Ev.neg (idx_ne (by omega)) ?_
  rw [w64s (n := l.length) (by omega) (by omega)]
  exact ih (j + 1) (by omega)
theorem spec_l9Kernel_loop (l : List Int) (hl : l.length ≤ 35184372088832) (ho : l.length < 17592186044416) : ∀ (d i : Nat), i + d = l.length → Ev (fun k => spec_l9Kernel.l0 k l ((kern l).take i) (i : Int)) (kern l) := by
 intro d
 induction d with
 | zero =>
  intro i hi
  refine Ev.step (fun _ => spec_l9Kernel.l0.eq_2 ..) ?_
  refine Ev.neg (by omega) ?_
  rw [List.take_of_length_le (by rw [kern_length]; omega)]
  exact Ev.now _
 | succ d ih =>
  intro i hi
  refine Ev.step (fun _ => spec_l9Kernel.l0.eq_2 ..) ?_
  refine Ev.pos (by omega) ?_
  refine spec_l9Kernel_in l hl ho i (by omega) _ (by simp [kern_length]; omega) _ ?_ (l.idxOf (gd l i)) 0 (by omega)
  rw [← kern_at (by omega), take_snoc _ (by rw [kern_length]; omega)]
  exact ih (i + 1) (by omega)
theorem spec_l9Kernel_ev (l : List Int) (hl : l.length < 17592186044416) : Ev (fun k => spec_l9Kernel.f k l) (kern l) := by
 unfold spec_l9Kernel.f
 exact spec_l9Kernel_loop l (by omega) hl l.length 0 (by omega)
def liftB (n : Int) (A : List IOp) (p q : List Int) : Bool := takesB n A p && isC ((leastM p).length : Int) (quoO n A p) q
def liftM (n : Int) (A : List IOp) (p q : List Int) : List Int × Bool := if liftB n A p q = true then (kern (imgs q (natM p)), true) else ([], false)
theorem natM_for {n : Int} {p q : List Int} (hp : partB n p = true) (hq : (q.length : Int) = ((leastM p).length : Int)) : ∀ x ∈ natM p, 0 ≤ x ∧ x < (q.length : Int) := fun x hx => by
 obtain ⟨i, hi, rfl⟩ := List.getElem_of_mem hx
 rw [← gd_lt hi]
 rw [natM_length] at hi
 have := natM_in hp hi
 omega
theorem impl_LiftCongruence_ev (n : Int) (A : List IOp) (p q : List Int) (hA : fitO A) (hp : p.length ≤ 1048576) (hq : q.length ≤ 1048576) : Ev (fun k => impl_LiftCongruence.f k n A p q) (liftM n A p q) := by
 have no : ∀ b, b = true → liftB n A p q = false → Ev (fun k => impl_LiftCongruence.j0 k p q b) (liftM n A p q) := fun b hb h =>
  Ev.step (fun _ => impl_LiftCongruence.j0.eq_2 ..) (Ev.pos hb ((Ev.now _).to (by simp [liftM, h])))
 unfold impl_LiftCongruence.f
 refine (impl_isCongruent_ev n A p hA hp).bind (Ev.ite (fun h => ?_) (fun h => no _ rfl (by simp [liftB, h])))
 have e1 := takes_len h
 refine (impl_quotient_ev e1.1 e1.2.1).bind ((isC_impl (quoO_alg e1.1 e1.2.1) hq).bind ?_)
 by_cases h' : isC ((leastM p).length : Int) (quoO n A p) q = true
 ·have hd : liftB n A p q = true := by simp [liftB, h, h']
  have e2 := partB_len (isC_part h')
  rw [h']
  have hle := natM_length p
  refine Ev.step (fun _ => impl_LiftCongruence.j0.eq_2 ..) (Ev.neg (by simp) ?_)
  refine (impl_naturalMap_ev e1.2.1 hp).bind ((impl_compose_ev _ _ (by omega) (natM_for e1.2.1 e2)).bind ((impl_kernelOf_ev _ (by rw [imgs_length]; omega)).bind ((Ev.now _).to ?_)))
  rw [liftM, if_pos hd]
 ·exact no _ (by simp [h']) (by simp [liftB, h'])
theorem spec_LiftCongruence_ev (n : Int) (A : List IOp) (p q : List Int) (hA : fitO A) (hp : p.length ≤ 1048576) (hq : q.length ≤ 1048576) : Ev (fun k => spec_LiftCongruence.f k n A p q) (liftM n A p q) := by
 unfold spec_LiftCongruence.f
 refine (spec_l9Takes_ev n A p hA hp).bind (Ev.ite (fun h => ?_) (fun h => (Ev.now _).to (by simp [liftM, liftB, h])))
 have e1 := takes_len h
 refine (spec_l9Quotient_ev e1.1 e1.2.1).bind ((isC_spec (quoO_alg e1.1 e1.2.1) hq).bind (Ev.ite (fun h' => ?_) (fun h' => (Ev.now _).to (by simp [liftM, liftB, h']))))
 have hd : liftB n A p q = true := by simp [liftB, h, h']
 have e2 := partB_len (isC_part h')
 have hle := natM_length p
 have hin := natM_for (q := q) e1.2.1 e2
 rw [liftM, if_pos hd]
 refine (?_ : Ev (fun k => spec_l9Lift.f k p q) (kern (imgs q (natM p)))).bind (Ev.now _)
 unfold spec_l9Lift.f
 refine (spec_l9Map_ev e1.2.1 hp).bind ?_
 refine map_loop (natM p) 0 (fun x => gd q x.toNat) (fun k out i => spec_l9Lift.l0 k p q (natM p) out i) _ ?_ ?_ (natM p).length 0 (by omega)
 ·refine Ev.step (fun _ => spec_l9Lift.l0.eq_2 ..) (Ev.neg (by omega) ?_)
  exact (spec_l9Kernel_ev (imgs q (natM p)) (by rw [imgs_length]; omega)).bind (Ev.now _)
 ·intro i out hi ho hh
  have hx := hin (gd (natM p) i) (by rw [gd_lt hi]; exact List.getElem_mem hi)
  change Ev (fun k => spec_l9Lift.l0 k p q (natM p) (out ++ [gd q (gd (natM p) i).toNat]) ((i + 1 : Nat) : Int)) _ at hh
  refine Ev.step (fun _ => spec_l9Lift.l0.eq_2 ..) ?_
  rw [rdn, rdi q hx.1, w64s (i := i) (n := (natM p).length) (by omega) (by omega)]
  exact Ev.pos (by omega) (Ev.pos (by omega) (Ev.pos (by omega) (Ev.pos hx.1 (Ev.pos hx.2 (Ev.pos (by omega) hh)))))
theorem liftM_small (n : Int) (A : List IOp) (p q : List Int) : (liftM n A p q).1.length ≤ 8 := by
 unfold liftM
 split
 ·rename_i h
  simp only [liftB, Bool.and_eq_true] at h
  have := takes_len h.1
  simp only [kern_length, imgs_length, natM_length]
  omega
 ·simp
theorem FnExactLiftCongruence : Stmt.FnExactLiftCongruence := by
 intro a0 l0 l1 l2 _ hm0 hg0 hm1 _ hm2 _ z1 z2
 obtain ⟨t0, s0, m0, n0, c0⟩ := laws_szAlgebra_ev a0 l0 1048576 hm0 (fun x hx => (hg0 x hx).2.1) (by omega)
 by_cases d0 : 0 ≤ t0
 ·have C0 : 0 ≤ t0 → (l0.length : Int) ≤ 1048576 ∧ ∀ x ∈ l0, (x.f1.length : Int) ≤ 1048576 := fun h => ⟨by have := (c0 h).1; omega, fun x hx => by have := (c0 h).2 x hx; omega⟩
  obtain ⟨g1_0, g2_0, g3_0, g4_0⟩ := size_gives C0 d0
  have T0 := totO_bound (conv l0) 1048576 1048576 (by rw [conv_length]; have := (C0 d0).1; omega) g3_0.2
  have hd := liftM_small a0 (conv l0) l1 l2
  obtain ⟨k, e0, e1, e2, e3, e4, e5, e6, e7, e8, e9, e10, e11, e12, e13⟩ := ((Evs.of s0).and ((Evs.of (laws_toAlgebra_ev a0 l0 g1_0 g2_0)).and ((Evs.of (toIntS_ev l1 (by omega))).and ((Evs.of (toIntS_ev l2 (by omega))).and ((Evs.of (spec_LiftCongruence_ev a0 (conv l0) l1 l2 g3_0 z1 z2)).and ((Evs.of (impl_LiftCongruence_ev a0 (conv l0) l1 l2 g3_0 z1 z2)).and ((Evs.of (eqIntS_same (liftM a0 (conv l0) l1 l2).1 (by omega))).and ((Evs.of (laws_eqAlgebra_same a0 (conv l0) g3_0)).and ((Evs.of (eqIntS_same l1 (by omega))).and ((Evs.of (eqIntS_same l2 (by omega))).and ((Evs.of (markIntS_ev l1 (1 + (totO (conv l0) : Int)) (by omega) (by omega))).and ((Evs.of (markIntS_ev l2 ((1 + (totO (conv l0) : Int)) + (l1.length : Int)) (by omega) (by omega))).and ((Evs.of (markIntS_ev (liftM a0 (conv l0) l1 l2).1 1 (by omega) (by omega))).and (Evs.of (heldIntS_ev (liftM a0 (conv l0) l1 l2).1.length 1 (by omega) (by omega)))))))))))))))).ex
  exact ⟨k, t0, e0, fun _ => ⟨a0, (conv l0), l1, l2, (liftM a0 (conv l0) l1 l2).1, (liftM a0 (conv l0) l1 l2).2, e1, e2, e3, e4, e5, e6, e7, e8, e9, e10, e11, e12, e13, by omega⟩⟩
 ·obtain ⟨k, e0⟩ := (Evs.of s0).ex
  exact ⟨k, t0, e0, fun h => absurd h d0⟩
end Go.Proofs.Ytnnbgfphinemfaa.Pure

namespace Go.Proofs.Ytnnbgfphinemfaa
open Go.RowKit Go.Proofs.YtnnbgfphinemfaaW.PrintWords Go.Proofs.YtnnbgfphinemfaaW.PrintLast Go.Proofs.YtnnbgfphinemfaaW.PrintMore Go.Proofs.Ytnnbgfphinemfaa.Live Go.Proofs.Ytnnbgfphinemfaa.Q
set_option linter.unusedVariables false
set_option linter.unusedSimpArgs false
set_option maxRecDepth 100000
set_option maxHeartbeats 8000000 in
theorem Walk.FnExactLiftCongruence (a0 : Int) (A0 : Option Addr) (c0 : Nat) (l0 : List (Q.S110)) (A1 : Option Addr) (c1 : Nat) (l1 : List (Int)) (A2 : Option Addr) (c2 : Nat) (l2 : List (Int)) (W : World) (hr0 : Kd.C k110 W A0 l0.length l0) (hc0 : l0.length ≤ c0) (hr1 : Kd.C (Kd.int .i64) W A1 l1.length l1) (hc1 : l1.length ≤ c1) (hr2 : Kd.C (Kd.int .i64) W A2 l2.length l2) (hc2 : l2.length ≤ c2) (g0 : (Lit.int .i64 a0).wf = true) (hm0 : l0.length ≤ maxLen) (hg0 : ∀ x ∈ l0, (Lit.int .i64 x.f0).wf = true ∧ x.f1.length ≤ maxLen ∧ ∀ y_x ∈ x.f1, (Lit.int .i64 y_x).wf = true) (hm1 : l1.length ≤ maxLen) (hg1 : ∀ x ∈ l1, (Lit.int .i64 x).wf = true) (hm2 : l2.length ≤ maxLen) (hg2 : ∀ x ∈ l2, (Lit.int .i64 x).wf = true) :
  Calls Try.prog 14 #[.agg #[.int .i64 a0, .slice A0 l0.length c0], .slice A1 l1.length c1, .slice A2 l2.length c2] W fun e w' => e = .returned (.bool true) ∧ Below W.heap.size W w' := by
 have P := fun z0 z1 => Pure.FnExactLiftCongruence a0 l0 l1 l2 g0 hm0 hg0 hm1 hg1 hm2 hg2 z0 z1
 have hu24 := Try.underlying24
 have hu25 := Try.underlying25
 have hu31 := Try.underlying31
 have HR0 := Aside0.mk hr0
 have HC0 := Aside0.mk hc0
 have hm0_ : l0.length ≤ 9223372036854775807 := by unfold maxLen at hm0; omega
 have HR1 := Aside0.mk hr1
 have HC1 := Aside0.mk hc1
 have hm1_ : l1.length ≤ 9223372036854775807 := by unfold maxLen at hm1; omega
 have HR2 := Aside0.mk hr2
 have HC2 := Aside0.mk hc2
 have hm2_ : l2.length ≤ 9223372036854775807 := by unfold maxLen at hm2; omega
 clear hr0 hc0 hr1 hc1 hr2 hc2 g0 hm0 hg0 hm1 hg1 hm2 hg2
 by_cases cl1 : 1048576 < l1.length
 ·have q1 : decide (1048576 < (l1.length : Int)) = true := decide_eq_true (by omega)
  have qn1 : decide (1048576 < l1.length) = true := decide_eq_true cl1
  clear P
  go_enter Try.func14, Try.ntmps14
  obtain ⟨lox1, hix1, HLx1⟩ := Live.make_box (Live.nil W) (.cells #[.int .i64 a0, .slice A0 l0.length c0] 24) (W.heap.size) (by simp)
  go_wp2
  go_ret
  exact ⟨rfl, below_alloc (Below.refl _ _) _⟩
 have q1 : decide (1048576 < (l1.length : Int)) = false := decide_eq_false (by omega)
 have qn1 : decide (1048576 < l1.length) = false := decide_eq_false cl1
 replace P := P
 by_cases cl2 : 1048576 < l2.length
 ·have q2 : decide (1048576 < (l2.length : Int)) = true := decide_eq_true (by omega)
  have qn2 : decide (1048576 < l2.length) = true := decide_eq_true cl2
  clear P
  go_enter Try.func14, Try.ntmps14
  obtain ⟨lox1, hix1, HLx1⟩ := Live.make_box (Live.nil W) (.cells #[.int .i64 a0, .slice A0 l0.length c0] 24) (W.heap.size) (by simp)
  go_wp2
  go_ret
  exact ⟨rfl, below_alloc (Below.refl _ _) _⟩
 have q2 : decide (1048576 < (l2.length : Int)) = false := decide_eq_false (by omega)
 have qn2 : decide (1048576 < l2.length) = false := decide_eq_false cl2
 replace P := P
 obtain ⟨k, P⟩ := P (by omega) (by omega)
 obtain ⟨t0, hF0, P⟩ := P
 have F0 := Aside0.mk hF0
 clear hF0
 have HP4 := Aside0.mk P
 clear P
 by_cases d4 : t0 < 0
 ·have q4 : decide (t0 < 0) = true := decide_eq_true d4
  go_enter Try.func14, Try.ntmps14
  obtain ⟨lox1, hix1, HLx1⟩ := Live.make_box (Live.nil W) (.cells #[.int .i64 a0, .slice A0 l0.length c0] 24) (W.heap.size) (by simp)
  go_wp2_with fail
  (with_reducible refine (laws_szAlgebra.calls k a0 _ _ l0 1048576 t0 _ (Kd.C_below HR0.out (below_alloc (Below.refl _ _) _)) HC0.out F0.out).mono ?_)
  rintro e w2 ⟨rfl, hbw2⟩
  have HLw2 := Aside0.mk (HLx1.below hbw2)
  have HBw2 := Aside0.mk (below_step (below_alloc (Below.refl _ _) _) (hbw2))
  clear hbw2
  have hxb3_0_w2 : w2.cell? ⟨W.heap.size, 0, none⟩ = some (.int .i64 a0) := (blk_cell (HLw2.out.get 0 rfl).1 0).trans rfl
  have hxb3_1_w2 : w2.cell? ⟨W.heap.size, 1, none⟩ = some (.slice A0 l0.length c0) := (blk_cell (HLw2.out.get 0 rfl).1 1).trans rfl
  go_wp2
  go_ret
  exact ⟨rfl, HBw2.out⟩
 have q4 : decide (t0 < 0) = false := decide_eq_false d4
 have P := HP4.out (by omega)
 clear HP4
 obtain ⟨X0, X1, X2, X3, X4, X5, hF1, hF2, hF3, hF4, hF5, hF6, hF7, hF8, hF9, hF10, hF11, hF12, hF13, hB0⟩ := P
 have F1 := Aside0.mk hF1
 have F2 := Aside0.mk hF2
 have F3 := Aside0.mk hF3
 have F4 := Aside0.mk hF4
 have F5 := Aside0.mk hF5
 have F6 := Aside0.mk hF6
 have F7 := Aside0.mk hF7
 have F8 := Aside0.mk hF8
 have F9 := Aside0.mk hF9
 have F10 := Aside0.mk hF10
 have F11 := Aside0.mk hF11
 have F12 := Aside0.mk hF12
 have F13 := Aside0.mk hF13
 have HBD := Aside0.mk (show (1 + (totO X1 : Int)) ≤ 4611686018427387904 from hB0)
 clear hF1 hF2 hF3 hF4 hF5 hF6 hF7 hF8 hF9 hF10 hF11 hF12 hF13 hB0
 have hneX0 : (X0 != X0) = false := bne_self_eq_false X0
 have hneX5 : (X5 != X5) = false := bne_self_eq_false X5
 go_enter Try.func14, Try.ntmps14
 obtain ⟨lox1, hix1, HLx1⟩ := Live.make_box (Live.nil W) (.cells #[.int .i64 a0, .slice A0 l0.length c0] 24) (W.heap.size) (by simp)
 go_wp2_with fail
 (with_reducible refine (laws_szAlgebra.calls k a0 _ _ l0 1048576 t0 _ (Kd.C_below HR0.out (below_alloc (Below.refl _ _) _)) HC0.out F0.out).mono ?_)
 rintro e w2 ⟨rfl, hbw2⟩
 have HLw2 := Aside0.mk (HLx1.below hbw2)
 have HBw2 := Aside0.mk (below_step (below_alloc (Below.refl _ _) _) (hbw2))
 clear hbw2
 have hxb3_0_w2 : w2.cell? ⟨W.heap.size, 0, none⟩ = some (.int .i64 a0) := (blk_cell (HLw2.out.get 0 rfl).1 0).trans rfl
 have hxb3_1_w2 : w2.cell? ⟨W.heap.size, 1, none⟩ = some (.slice A0 l0.length c0) := (blk_cell (HLw2.out.get 0 rfl).1 1).trans rfl
 go_wp2_with fail
 (with_reducible refine (laws_toAlgebra.calls k a0 _ _ l0 X0 X1 _ (Kd.C_below HR0.out (HBw2.out)) HC0.out F1.out).mono ?_)
 rintro e w3 ⟨vw3_0, rfl, how3_0, hbw3⟩
 obtain ⟨Aw3, cw3, rfl⟩ := Kd.S_slice how3_0
 obtain ⟨low3, hiw3, hlw3⟩ := Live.make_S HLw2.out hbw3 how3_0 (below_size (HBw2.out))
 have HLw3 := Aside0.mk hlw3
 clear hlw3 how3_0
 have HBw3 := Aside0.mk (below_step (HBw2.out) (hbw3))
 clear hbw3
 have hxb3_0_w3 : w3.cell? ⟨W.heap.size, 0, none⟩ = some (.int .i64 a0) := (blk_cell (HLw3.out.get 1 rfl).1 0).trans rfl
 have hxb3_1_w3 : w3.cell? ⟨W.heap.size, 1, none⟩ = some (.slice A0 l0.length c0) := (blk_cell (HLw3.out.get 1 rfl).1 1).trans rfl
 go_wp2_with fail
 (with_reducible refine (laws_toIntS.calls k _ _ l1 X2 _ (Kd.C_below HR1.out (HBw3.out)) HC1.out F2.out).mono ?_)
 rintro e w4 ⟨vw4_0, rfl, how4_0, hbw4⟩
 obtain ⟨Aw4, cw4, rfl⟩ := Kd.R_slice how4_0
 obtain ⟨low4, hiw4, hlw4⟩ := Live.make_R HLw3.out hbw4 how4_0 (below_size (HBw3.out))
 have HLw4 := Aside0.mk hlw4
 clear hlw4 how4_0
 have HBw4 := Aside0.mk (below_step (HBw3.out) (hbw4))
 clear hbw4
 have hxb3_0_w4 : w4.cell? ⟨W.heap.size, 0, none⟩ = some (.int .i64 a0) := (blk_cell (HLw4.out.get 2 rfl).1 0).trans rfl
 have hxb3_1_w4 : w4.cell? ⟨W.heap.size, 1, none⟩ = some (.slice A0 l0.length c0) := (blk_cell (HLw4.out.get 2 rfl).1 1).trans rfl
 go_wp2_with fail
 (with_reducible refine (laws_toIntS.calls k _ _ l2 X3 _ (Kd.C_below HR2.out (HBw4.out)) HC2.out F3.out).mono ?_)
 rintro e w5 ⟨vw5_0, rfl, how5_0, hbw5⟩
 obtain ⟨Aw5, cw5, rfl⟩ := Kd.R_slice how5_0
 obtain ⟨low5, hiw5, hlw5⟩ := Live.make_R HLw4.out hbw5 how5_0 (below_size (HBw4.out))
 have HLw5 := Aside0.mk hlw5
 clear hlw5 how5_0
 have HBw5 := Aside0.mk (below_step (HBw4.out) (hbw5))
 clear hbw5
 have hxb3_0_w5 : w5.cell? ⟨W.heap.size, 0, none⟩ = some (.int .i64 a0) := (blk_cell (HLw5.out.get 3 rfl).1 0).trans rfl
 have hxb3_1_w5 : w5.cell? ⟨W.heap.size, 1, none⟩ = some (.slice A0 l0.length c0) := (blk_cell (HLw5.out.get 3 rfl).1 1).trans rfl
 go_wp2_with fail
 (with_reducible refine (spec_LiftCongruence.calls k X0 _ _ X1 _ _ X2 _ _ X3 X4 X5 _ (Kd.S_reads' (HLw5.out.get 2 rfl)).2.2 (Kd.S_reads' (HLw5.out.get 2 rfl)).2.1 (Kd.R_reads' (HLw5.out.get 1 rfl)).2.2 (Kd.R_reads' (HLw5.out.get 1 rfl)).2.1 (Kd.R_reads' (HLw5.out.get 0 rfl)).2.2 (Kd.R_reads' (HLw5.out.get 0 rfl)).2.1 F4.out).mono ?_)
 rintro e w6 ⟨vw6_0, rfl, how6_0, hbw6⟩
 obtain ⟨Aw6, cw6, rfl⟩ := Kd.R_slice how6_0
 obtain ⟨low6, hiw6, hlw6⟩ := Live.make_R HLw5.out hbw6 how6_0 (below_size (HBw5.out))
 have HLw6 := Aside0.mk hlw6
 clear hlw6 how6_0
 have HBw6 := Aside0.mk (below_step (HBw5.out) (hbw6))
 clear hbw6
 have hxb3_0_w6 : w6.cell? ⟨W.heap.size, 0, none⟩ = some (.int .i64 a0) := (blk_cell (HLw6.out.get 4 rfl).1 0).trans rfl
 have hxb3_1_w6 : w6.cell? ⟨W.heap.size, 1, none⟩ = some (.slice A0 l0.length c0) := (blk_cell (HLw6.out.get 4 rfl).1 1).trans rfl
 go_wp2_with fail
 (with_reducible refine (laws_toAlgebra.calls k a0 _ _ l0 X0 X1 _ (Kd.C_below HR0.out (HBw6.out)) HC0.out F1.out).mono ?_)
 rintro e w7 ⟨vw7_0, rfl, how7_0, hbw7⟩
 obtain ⟨Aw7, cw7, rfl⟩ := Kd.S_slice how7_0
 obtain ⟨low7, hiw7, hlw7⟩ := Live.make_S HLw6.out hbw7 how7_0 (below_size (HBw6.out))
 have HLw7 := Aside0.mk hlw7
 clear hlw7 how7_0
 have HBw7 := Aside0.mk (below_step (HBw6.out) (hbw7))
 clear hbw7
 have hxb3_0_w7 : w7.cell? ⟨W.heap.size, 0, none⟩ = some (.int .i64 a0) := (blk_cell (HLw7.out.get 5 rfl).1 0).trans rfl
 have hxb3_1_w7 : w7.cell? ⟨W.heap.size, 1, none⟩ = some (.slice A0 l0.length c0) := (blk_cell (HLw7.out.get 5 rfl).1 1).trans rfl
 obtain ⟨lox8, hix8, HLx8⟩ := Live.make_box HLw7.out (.cells #[.int .i64 X0, .slice Aw7 X1.length cw7] 31) (w7.heap.size) (by simp)
 have hxb3_0_w7allocce : (w7.alloc (.cells #[.int .i64 X0, .slice Aw7 X1.length cw7] 31)).cell? ⟨W.heap.size, 0, none⟩ = some (.int .i64 a0) := (blk_cell (HLx8.get 6 rfl).1 0).trans rfl
 have hxb3_1_w7allocce : (w7.alloc (.cells #[.int .i64 X0, .slice Aw7 X1.length cw7] 31)).cell? ⟨W.heap.size, 1, none⟩ = some (.slice A0 l0.length c0) := (blk_cell (HLx8.get 6 rfl).1 1).trans rfl
 go_wp2_with fail
 (with_reducible refine (laws_toIntS.calls k _ _ l1 X2 _ (Kd.C_below HR1.out (below_alloc (HBw7.out) _)) HC1.out F2.out).mono ?_)
 rintro e w9 ⟨vw9_0, rfl, how9_0, hbw9⟩
 obtain ⟨Aw9, cw9, rfl⟩ := Kd.R_slice how9_0
 obtain ⟨low9, hiw9, hlw9⟩ := Live.make_R HLx8 hbw9 how9_0 (below_size (below_alloc (HBw7.out) _))
 have HLw9 := Aside0.mk hlw9
 clear hlw9 how9_0
 have HBw9 := Aside0.mk (below_step (below_alloc (HBw7.out) _) (hbw9))
 clear hbw9
 have hxb3_0_w9 : w9.cell? ⟨W.heap.size, 0, none⟩ = some (.int .i64 a0) := (blk_cell (HLw9.out.get 7 rfl).1 0).trans rfl
 have hxb3_1_w9 : w9.cell? ⟨W.heap.size, 1, none⟩ = some (.slice A0 l0.length c0) := (blk_cell (HLw9.out.get 7 rfl).1 1).trans rfl
 have hxb10_0_w9 : w9.cell? ⟨w7.heap.size, 0, none⟩ = some (.int .i64 X0) := (blk_cell (HLw9.out.get 1 rfl).1 0).trans rfl
 have hxb10_1_w9 : w9.cell? ⟨w7.heap.size, 1, none⟩ = some (.slice Aw7 X1.length cw7) := (blk_cell (HLw9.out.get 1 rfl).1 1).trans rfl
 go_wp2_with fail
 (with_reducible refine (laws_toIntS.calls k _ _ l2 X3 _ (Kd.C_below HR2.out (HBw9.out)) HC2.out F3.out).mono ?_)
 rintro e w10 ⟨vw10_0, rfl, how10_0, hbw10⟩
 obtain ⟨Aw10, cw10, rfl⟩ := Kd.R_slice how10_0
 obtain ⟨low10, hiw10, hlw10⟩ := Live.make_R HLw9.out hbw10 how10_0 (below_size (HBw9.out))
 have HLw10 := Aside0.mk hlw10
 clear hlw10 how10_0
 have HBw10 := Aside0.mk (below_step (HBw9.out) (hbw10))
 clear hbw10
 have hxb3_0_w10 : w10.cell? ⟨W.heap.size, 0, none⟩ = some (.int .i64 a0) := (blk_cell (HLw10.out.get 8 rfl).1 0).trans rfl
 have hxb3_1_w10 : w10.cell? ⟨W.heap.size, 1, none⟩ = some (.slice A0 l0.length c0) := (blk_cell (HLw10.out.get 8 rfl).1 1).trans rfl
 have hxb10_0_w10 : w10.cell? ⟨w7.heap.size, 0, none⟩ = some (.int .i64 X0) := (blk_cell (HLw10.out.get 2 rfl).1 0).trans rfl
 have hxb10_1_w10 : w10.cell? ⟨w7.heap.size, 1, none⟩ = some (.slice Aw7 X1.length cw7) := (blk_cell (HLw10.out.get 2 rfl).1 1).trans rfl
 go_wp2_with fail
 (with_reducible refine (impl_LiftCongruence.calls k X0 _ _ X1 _ _ X2 _ _ X3 X4 X5 _ (Kd.S_reads' (HLw10.out.get 3 rfl)).2.2 (Kd.S_reads' (HLw10.out.get 3 rfl)).2.1 (Kd.R_reads' (HLw10.out.get 1 rfl)).2.2 (Kd.R_reads' (HLw10.out.get 1 rfl)).2.1 (Kd.R_reads' (HLw10.out.get 0 rfl)).2.2 (Kd.R_reads' (HLw10.out.get 0 rfl)).2.1 F5.out).mono ?_)
 rintro e w11 ⟨vw11_0, rfl, how11_0, hbw11⟩
 obtain ⟨Aw11, cw11, rfl⟩ := Kd.R_slice how11_0
 obtain ⟨low11, hiw11, hlw11⟩ := Live.make_R HLw10.out hbw11 how11_0 (below_size (HBw10.out))
 have HLw11 := Aside0.mk hlw11
 clear hlw11 how11_0
 have HBw11 := Aside0.mk (below_step (HBw10.out) (hbw11))
 clear hbw11
 have hxb3_0_w11 : w11.cell? ⟨W.heap.size, 0, none⟩ = some (.int .i64 a0) := (blk_cell (HLw11.out.get 9 rfl).1 0).trans rfl
 have hxb3_1_w11 : w11.cell? ⟨W.heap.size, 1, none⟩ = some (.slice A0 l0.length c0) := (blk_cell (HLw11.out.get 9 rfl).1 1).trans rfl
 have hxb10_0_w11 : w11.cell? ⟨w7.heap.size, 0, none⟩ = some (.int .i64 X0) := (blk_cell (HLw11.out.get 3 rfl).1 0).trans rfl
 have hxb10_1_w11 : w11.cell? ⟨w7.heap.size, 1, none⟩ = some (.slice Aw7 X1.length cw7) := (blk_cell (HLw11.out.get 3 rfl).1 1).trans rfl
 go_wp2_with fail
 (with_reducible refine (laws_eqIntS.calls k _ _ X4 _ _ X4 true _ (Kd.R_reads' (HLw11.out.get 0 rfl)).2.2 (Kd.R_reads' (HLw11.out.get 0 rfl)).2.1 (Kd.R_reads' (HLw11.out.get 5 rfl)).2.2 (Kd.R_reads' (HLw11.out.get 5 rfl)).2.1 F6.out).mono ?_)
 rintro e w12 ⟨rfl, hbw12⟩
 have HLw12 := Aside0.mk (HLw11.out.below hbw12.below)
 have HBw12 := Aside0.mk (below_step (HBw11.out) (hbw12.below))
 clear hbw12
 have hxb3_0_w12 : w12.cell? ⟨W.heap.size, 0, none⟩ = some (.int .i64 a0) := (blk_cell (HLw12.out.get 9 rfl).1 0).trans rfl
 have hxb3_1_w12 : w12.cell? ⟨W.heap.size, 1, none⟩ = some (.slice A0 l0.length c0) := (blk_cell (HLw12.out.get 9 rfl).1 1).trans rfl
 have hxb10_0_w12 : w12.cell? ⟨w7.heap.size, 0, none⟩ = some (.int .i64 X0) := (blk_cell (HLw12.out.get 3 rfl).1 0).trans rfl
 have hxb10_1_w12 : w12.cell? ⟨w7.heap.size, 1, none⟩ = some (.slice Aw7 X1.length cw7) := (blk_cell (HLw12.out.get 3 rfl).1 1).trans rfl
 go_wp2_with fail
 go_region_held3 (fun w' => w'.cell? ⟨W.heap.size, 0, none⟩ = some (.int .i64 a0) ∧ w'.cell? ⟨W.heap.size, 1, none⟩ = some (.slice A0 l0.length c0) ∧ w'.cell? ⟨w7.heap.size, 0, none⟩ = some (.int .i64 X0) ∧ w'.cell? ⟨w7.heap.size, 1, none⟩ = some (.slice Aw7 X1.length cw7)) (first | (simp [*]; done) | go_keep) (first | (go_at_call 17; (with_reducible refine (laws_toAlgebra.calls k a0 _ _ l0 X0 X1 _ (Kd.C_below HR0.out (below_drew1 (HBw12.out))) HC0.out F1.out).mono ?_); rintro e w13 ⟨vw13_0, rfl, how13_0, hbw13⟩; obtain ⟨Aw13, cw13, rfl⟩ := Kd.S_slice how13_0; obtain ⟨low13, hiw13, hlw13⟩ := Live.make_S (Live.drew HLw12.out) hbw13 how13_0 (below_size (below_drew1 (HBw12.out))); have HLw13 := Aside0.mk hlw13; clear hlw13 how13_0; have HBw13 := Aside0.mk (below_step (below_drew1 (HBw12.out)) (hbw13)); clear hbw13; have hxb3_0_w13 : w13.cell? ⟨W.heap.size, 0, none⟩ = some (.int .i64 a0) := (blk_cell (HLw13.out.get 10 rfl).1 0).trans rfl; have hxb3_1_w13 : w13.cell? ⟨W.heap.size, 1, none⟩ = some (.slice A0 l0.length c0) := (blk_cell (HLw13.out.get 10 rfl).1 1).trans rfl; have hxb10_0_w13 : w13.cell? ⟨w7.heap.size, 0, none⟩ = some (.int .i64 X0) := (blk_cell (HLw13.out.get 4 rfl).1 0).trans rfl; have hxb10_1_w13 : w13.cell? ⟨w7.heap.size, 1, none⟩ = some (.slice Aw7 X1.length cw7) := (blk_cell (HLw13.out.get 4 rfl).1 1).trans rfl) | (go_at_call 21; (with_reducible refine (laws_eqAlgebra.calls k X0 _ _ X1 X0 _ _ X1 true _ (Kd.S_reads' (HLw13.out.get 5 rfl)).2.2 (Kd.S_reads' (HLw13.out.get 5 rfl)).2.1 (Kd.S_reads' (HLw13.out.get 0 rfl)).2.2 (Kd.S_reads' (HLw13.out.get 0 rfl)).2.1 F7.out).mono ?_); rintro e w14 ⟨rfl, hbw14⟩; have HLw14 := Aside0.mk (HLw13.out.below hbw14); have HBw14 := Aside0.mk (below_step (HBw13.out) (hbw14)); clear hbw14; have hxb3_0_w14 : w14.cell? ⟨W.heap.size, 0, none⟩ = some (.int .i64 a0) := (blk_cell (HLw14.out.get 10 rfl).1 0).trans rfl; have hxb3_1_w14 : w14.cell? ⟨W.heap.size, 1, none⟩ = some (.slice A0 l0.length c0) := (blk_cell (HLw14.out.get 10 rfl).1 1).trans rfl; have hxb10_0_w14 : w14.cell? ⟨w7.heap.size, 0, none⟩ = some (.int .i64 X0) := (blk_cell (HLw14.out.get 4 rfl).1 0).trans rfl; have hxb10_1_w14 : w14.cell? ⟨w7.heap.size, 1, none⟩ = some (.slice Aw7 X1.length cw7) := (blk_cell (HLw14.out.get 4 rfl).1 1).trans rfl))
 go_wp2_with fail
 (with_reducible refine (laws_toIntS.calls k _ _ l1 X2 _ (Kd.C_below HR1.out (HBw14.out)) HC1.out F2.out).mono ?_)
 rintro e w15 ⟨vw15_0, rfl, how15_0, hbw15⟩
 obtain ⟨Aw15, cw15, rfl⟩ := Kd.R_slice how15_0
 obtain ⟨low15, hiw15, hlw15⟩ := Live.make_R HLw14.out hbw15 how15_0 (below_size (HBw14.out))
 have HLw15 := Aside0.mk hlw15
 clear hlw15 how15_0
 have HBw15 := Aside0.mk (below_step (HBw14.out) (hbw15))
 clear hbw15
 have hxb3_0_w15 : w15.cell? ⟨W.heap.size, 0, none⟩ = some (.int .i64 a0) := (blk_cell (HLw15.out.get 11 rfl).1 0).trans rfl
 have hxb3_1_w15 : w15.cell? ⟨W.heap.size, 1, none⟩ = some (.slice A0 l0.length c0) := (blk_cell (HLw15.out.get 11 rfl).1 1).trans rfl
 have hxb10_0_w15 : w15.cell? ⟨w7.heap.size, 0, none⟩ = some (.int .i64 X0) := (blk_cell (HLw15.out.get 5 rfl).1 0).trans rfl
 have hxb10_1_w15 : w15.cell? ⟨w7.heap.size, 1, none⟩ = some (.slice Aw7 X1.length cw7) := (blk_cell (HLw15.out.get 5 rfl).1 1).trans rfl
 go_wp2_with fail
 (with_reducible refine (laws_eqIntS.calls k _ _ X2 _ _ X2 true _ (Kd.R_reads' (HLw15.out.get 4 rfl)).2.2 (Kd.R_reads' (HLw15.out.get 4 rfl)).2.1 (Kd.R_reads' (HLw15.out.get 0 rfl)).2.2 (Kd.R_reads' (HLw15.out.get 0 rfl)).2.1 F8.out).mono ?_)
 rintro e w16 ⟨rfl, hbw16⟩
 have HLw16 := Aside0.mk (HLw15.out.below hbw16.below)
 have HBw16 := Aside0.mk (below_step (HBw15.out) (hbw16.below))
 clear hbw16
 have hxb3_0_w16 : w16.cell? ⟨W.heap.size, 0, none⟩ = some (.int .i64 a0) := (blk_cell (HLw16.out.get 11 rfl).1 0).trans rfl
 have hxb3_1_w16 : w16.cell? ⟨W.heap.size, 1, none⟩ = some (.slice A0 l0.length c0) := (blk_cell (HLw16.out.get 11 rfl).1 1).trans rfl
 have hxb10_0_w16 : w16.cell? ⟨w7.heap.size, 0, none⟩ = some (.int .i64 X0) := (blk_cell (HLw16.out.get 5 rfl).1 0).trans rfl
 have hxb10_1_w16 : w16.cell? ⟨w7.heap.size, 1, none⟩ = some (.slice Aw7 X1.length cw7) := (blk_cell (HLw16.out.get 5 rfl).1 1).trans rfl
 go_wp2_with fail
 (with_reducible refine (laws_toIntS.calls k _ _ l2 X3 _ (Kd.C_below HR2.out (HBw16.out)) HC2.out F3.out).mono ?_)
 rintro e w17 ⟨vw17_0, rfl, how17_0, hbw17⟩
 obtain ⟨Aw17, cw17, rfl⟩ := Kd.R_slice how17_0
 obtain ⟨low17, hiw17, hlw17⟩ := Live.make_R HLw16.out hbw17 how17_0 (below_size (HBw16.out))
 have HLw17 := Aside0.mk hlw17
 clear hlw17 how17_0
 have HBw17 := Aside0.mk (below_step (HBw16.out) (hbw17))
 clear hbw17
 have hxb3_0_w17 : w17.cell? ⟨W.heap.size, 0, none⟩ = some (.int .i64 a0) := (blk_cell (HLw17.out.get 12 rfl).1 0).trans rfl
 have hxb3_1_w17 : w17.cell? ⟨W.heap.size, 1, none⟩ = some (.slice A0 l0.length c0) := (blk_cell (HLw17.out.get 12 rfl).1 1).trans rfl
 have hxb10_0_w17 : w17.cell? ⟨w7.heap.size, 0, none⟩ = some (.int .i64 X0) := (blk_cell (HLw17.out.get 6 rfl).1 0).trans rfl
 have hxb10_1_w17 : w17.cell? ⟨w7.heap.size, 1, none⟩ = some (.slice Aw7 X1.length cw7) := (blk_cell (HLw17.out.get 6 rfl).1 1).trans rfl
 go_wp2_with fail
 (with_reducible refine (laws_eqIntS.calls k _ _ X3 _ _ X3 true _ (Kd.R_reads' (HLw17.out.get 4 rfl)).2.2 (Kd.R_reads' (HLw17.out.get 4 rfl)).2.1 (Kd.R_reads' (HLw17.out.get 0 rfl)).2.2 (Kd.R_reads' (HLw17.out.get 0 rfl)).2.1 F9.out).mono ?_)
 rintro e w18 ⟨rfl, hbw18⟩
 have HLw18 := Aside0.mk (HLw17.out.below hbw18.below)
 have HBw18 := Aside0.mk (below_step (HBw17.out) (hbw18.below))
 clear hbw18
 have hxb3_0_w18 : w18.cell? ⟨W.heap.size, 0, none⟩ = some (.int .i64 a0) := (blk_cell (HLw18.out.get 12 rfl).1 0).trans rfl
 have hxb3_1_w18 : w18.cell? ⟨W.heap.size, 1, none⟩ = some (.slice A0 l0.length c0) := (blk_cell (HLw18.out.get 12 rfl).1 1).trans rfl
 have hxb10_0_w18 : w18.cell? ⟨w7.heap.size, 0, none⟩ = some (.int .i64 X0) := (blk_cell (HLw18.out.get 6 rfl).1 0).trans rfl
 have hxb10_1_w18 : w18.cell? ⟨w7.heap.size, 1, none⟩ = some (.slice Aw7 X1.length cw7) := (blk_cell (HLw18.out.get 6 rfl).1 1).trans rfl
 go_wp2_with fail
 (with_reducible refine (laws_markAlgebra.marks X0 (fun k => low7 ≤ k ∧ k < hiw7) _ X1 1 W _ (HBw18.out) (HLw18.out.get 7 rfl) (by have := HBD.out; omega) (by have := HBD.out; omega)).mono ?_)
 rintro e w19 ⟨rfl, hm1, hm2, hm3⟩
 have HLw19 := Aside0.mk (Live.mark HLw18.out 7 rfl hm3 (seg_S hm1 (fun k hk _ _ => hk) (Nat.le_refl _)))
 have HBw19 := Aside0.mk hm2
 clear hm1 hm2 hm3
 have hxb3_0_w19 : w19.cell? ⟨W.heap.size, 0, none⟩ = some (.int .i64 a0) := (blk_cell (HLw19.out.get 12 rfl).1 0).trans rfl
 have hxb3_1_w19 : w19.cell? ⟨W.heap.size, 1, none⟩ = some (.slice A0 l0.length c0) := (blk_cell (HLw19.out.get 12 rfl).1 1).trans rfl
 have hxb10_0_w19 : w19.cell? ⟨w7.heap.size, 0, none⟩ = some (.int .i64 X0) := (blk_cell (HLw19.out.get 6 rfl).1 0).trans rfl
 have hxb10_1_w19 : w19.cell? ⟨w7.heap.size, 1, none⟩ = some (.slice Aw7 X1.length cw7) := (blk_cell (HLw19.out.get 6 rfl).1 1).trans rfl
 go_wp2_with fail
 (with_reducible refine (laws_markIntS.calls k (fun k => low9 ≤ k ∧ k < hiw9) _ X2 (1 + (totO X1 : Int)) _ _ W _ (HBw19.out) (HLw19.out.get 5 rfl) F10.out).mono ?_)
 rintro e w20 ⟨rfl, hm1, hm2, hm3⟩
 have HLw20 := Aside0.mk (Live.mark HLw19.out 5 rfl hm3 (seg_R (Kd.R_mono (Kd.R_tight rfl hm1) (fun k hk => (HLw19.out.get 5 rfl).1 k hk.symm)) (fun k hk _ _ => hk) (Nat.le_refl _)))
 have HBw20 := Aside0.mk hm2
 clear hm1 hm2 hm3
 have hxb3_0_w20 : w20.cell? ⟨W.heap.size, 0, none⟩ = some (.int .i64 a0) := (blk_cell (HLw20.out.get 12 rfl).1 0).trans rfl
 have hxb3_1_w20 : w20.cell? ⟨W.heap.size, 1, none⟩ = some (.slice A0 l0.length c0) := (blk_cell (HLw20.out.get 12 rfl).1 1).trans rfl
 have hxb10_0_w20 : w20.cell? ⟨w7.heap.size, 0, none⟩ = some (.int .i64 X0) := (blk_cell (HLw20.out.get 6 rfl).1 0).trans rfl
 have hxb10_1_w20 : w20.cell? ⟨w7.heap.size, 1, none⟩ = some (.slice Aw7 X1.length cw7) := (blk_cell (HLw20.out.get 6 rfl).1 1).trans rfl
 go_wp2_with fail
 (with_reducible refine (laws_markIntS.calls k (fun k => low10 ≤ k ∧ k < hiw10) _ X3 ((1 + (totO X1 : Int)) + (X2.length : Int)) _ _ W _ (HBw20.out) (HLw20.out.get 4 rfl) F11.out).mono ?_)
 rintro e w21 ⟨rfl, hm1, hm2, hm3⟩
 have HLw21 := Aside0.mk (Live.mark HLw20.out 4 rfl hm3 (seg_R (Kd.R_mono (Kd.R_tight rfl hm1) (fun k hk => (HLw20.out.get 4 rfl).1 k hk.symm)) (fun k hk _ _ => hk) (Nat.le_refl _)))
 have HBw21 := Aside0.mk hm2
 clear hm1 hm2 hm3
 have hxb3_0_w21 : w21.cell? ⟨W.heap.size, 0, none⟩ = some (.int .i64 a0) := (blk_cell (HLw21.out.get 12 rfl).1 0).trans rfl
 have hxb3_1_w21 : w21.cell? ⟨W.heap.size, 1, none⟩ = some (.slice A0 l0.length c0) := (blk_cell (HLw21.out.get 12 rfl).1 1).trans rfl
 have hxb10_0_w21 : w21.cell? ⟨w7.heap.size, 0, none⟩ = some (.int .i64 X0) := (blk_cell (HLw21.out.get 6 rfl).1 0).trans rfl
 have hxb10_1_w21 : w21.cell? ⟨w7.heap.size, 1, none⟩ = some (.slice Aw7 X1.length cw7) := (blk_cell (HLw21.out.get 6 rfl).1 1).trans rfl
 go_wp2_with fail
 (with_reducible refine (laws_eqIntS.calls k _ _ X4 _ _ X4 true _ (Kd.R_reads' (HLw21.out.get 3 rfl)).2.2 (Kd.R_reads' (HLw21.out.get 3 rfl)).2.1 (Kd.R_reads' (HLw21.out.get 8 rfl)).2.2 (Kd.R_reads' (HLw21.out.get 8 rfl)).2.1 F6.out).mono ?_)
 rintro e w22 ⟨rfl, hbw22⟩
 have HLw22 := Aside0.mk (HLw21.out.below hbw22.below)
 have HBw22 := Aside0.mk (below_step (HBw21.out) (hbw22.below))
 clear hbw22
 have hxb3_0_w22 : w22.cell? ⟨W.heap.size, 0, none⟩ = some (.int .i64 a0) := (blk_cell (HLw22.out.get 12 rfl).1 0).trans rfl
 have hxb3_1_w22 : w22.cell? ⟨W.heap.size, 1, none⟩ = some (.slice A0 l0.length c0) := (blk_cell (HLw22.out.get 12 rfl).1 1).trans rfl
 have hxb10_0_w22 : w22.cell? ⟨w7.heap.size, 0, none⟩ = some (.int .i64 X0) := (blk_cell (HLw22.out.get 6 rfl).1 0).trans rfl
 have hxb10_1_w22 : w22.cell? ⟨w7.heap.size, 1, none⟩ = some (.slice Aw7 X1.length cw7) := (blk_cell (HLw22.out.get 6 rfl).1 1).trans rfl
 go_wp2_with fail
 (with_reducible refine (laws_markIntS.calls k (fun k => low11 ≤ k ∧ k < hiw11) _ X4 1 _ _ W _ (HBw22.out) (HLw22.out.get 3 rfl) F12.out).mono ?_)
 rintro e w23 ⟨rfl, hm1, hm2, hm3⟩
 have HLw23 := Aside0.mk (Live.mark HLw22.out 3 rfl hm3 (seg_R (Kd.R_mono (Kd.R_tight rfl hm1) (fun k hk => (HLw22.out.get 3 rfl).1 k hk.symm)) (fun k hk _ _ => hk) (Nat.le_refl _)))
 have HBw23 := Aside0.mk hm2
 clear hm1 hm2 hm3
 have hxb3_0_w23 : w23.cell? ⟨W.heap.size, 0, none⟩ = some (.int .i64 a0) := (blk_cell (HLw23.out.get 12 rfl).1 0).trans rfl
 have hxb3_1_w23 : w23.cell? ⟨W.heap.size, 1, none⟩ = some (.slice A0 l0.length c0) := (blk_cell (HLw23.out.get 12 rfl).1 1).trans rfl
 have hxb10_0_w23 : w23.cell? ⟨w7.heap.size, 0, none⟩ = some (.int .i64 X0) := (blk_cell (HLw23.out.get 6 rfl).1 0).trans rfl
 have hxb10_1_w23 : w23.cell? ⟨w7.heap.size, 1, none⟩ = some (.slice Aw7 X1.length cw7) := (blk_cell (HLw23.out.get 6 rfl).1 1).trans rfl
 go_wp2_with fail
 have r_ := (Kd.R_reads' (HLw23.out.get 3 rfl)).2
 have q_ := laws_heldIntS.calls k _ _ (asc X4.length 1) 1 (1 + (X4.length : Int)) _ (by first | exact r_.2 | (rw [asc_length]; exact r_.2)) (by first | exact r_.1 | (rw [asc_length]; exact r_.1)) F13.out
 rw [asc_length] at q_
 (with_reducible refine q_.mono ?_)
 clear q_ r_
 rintro e w24 ⟨rfl, hbw24⟩
 have HLw24 := Aside0.mk (HLw23.out.below hbw24.below)
 have HBw24 := Aside0.mk (below_step (HBw23.out) (hbw24.below))
 clear hbw24
 have hxb3_0_w24 : w24.cell? ⟨W.heap.size, 0, none⟩ = some (.int .i64 a0) := (blk_cell (HLw24.out.get 12 rfl).1 0).trans rfl
 have hxb3_1_w24 : w24.cell? ⟨W.heap.size, 1, none⟩ = some (.slice A0 l0.length c0) := (blk_cell (HLw24.out.get 12 rfl).1 1).trans rfl
 have hxb10_0_w24 : w24.cell? ⟨w7.heap.size, 0, none⟩ = some (.int .i64 X0) := (blk_cell (HLw24.out.get 6 rfl).1 0).trans rfl
 have hxb10_1_w24 : w24.cell? ⟨w7.heap.size, 1, none⟩ = some (.slice Aw7 X1.length cw7) := (blk_cell (HLw24.out.get 6 rfl).1 1).trans rfl
 go_wp2_with fail
 (with_reducible refine (laws_toAlgebra.calls k a0 _ _ l0 X0 X1 _ (Kd.C_below HR0.out (HBw24.out)) HC0.out F1.out).mono ?_)
 rintro e w25 ⟨vw25_0, rfl, how25_0, hbw25⟩
 obtain ⟨Aw25, cw25, rfl⟩ := Kd.S_slice how25_0
 obtain ⟨low25, hiw25, hlw25⟩ := Live.make_S HLw24.out hbw25 how25_0 (below_size (HBw24.out))
 have HLw25 := Aside0.mk hlw25
 clear hlw25 how25_0
 have HBw25 := Aside0.mk (below_step (HBw24.out) (hbw25))
 clear hbw25
 have hxb3_0_w25 : w25.cell? ⟨W.heap.size, 0, none⟩ = some (.int .i64 a0) := (blk_cell (HLw25.out.get 13 rfl).1 0).trans rfl
 have hxb3_1_w25 : w25.cell? ⟨W.heap.size, 1, none⟩ = some (.slice A0 l0.length c0) := (blk_cell (HLw25.out.get 13 rfl).1 1).trans rfl
 have hxb10_0_w25 : w25.cell? ⟨w7.heap.size, 0, none⟩ = some (.int .i64 X0) := (blk_cell (HLw25.out.get 7 rfl).1 0).trans rfl
 have hxb10_1_w25 : w25.cell? ⟨w7.heap.size, 1, none⟩ = some (.slice Aw7 X1.length cw7) := (blk_cell (HLw25.out.get 7 rfl).1 1).trans rfl
 go_wp2_with fail
 (with_reducible refine (laws_toIntS.calls k _ _ l1 X2 _ (Kd.C_below HR1.out (HBw25.out)) HC1.out F2.out).mono ?_)
 rintro e w26 ⟨vw26_0, rfl, how26_0, hbw26⟩
 obtain ⟨Aw26, cw26, rfl⟩ := Kd.R_slice how26_0
 obtain ⟨low26, hiw26, hlw26⟩ := Live.make_R HLw25.out hbw26 how26_0 (below_size (HBw25.out))
 have HLw26 := Aside0.mk hlw26
 clear hlw26 how26_0
 have HBw26 := Aside0.mk (below_step (HBw25.out) (hbw26))
 clear hbw26
 have hxb3_0_w26 : w26.cell? ⟨W.heap.size, 0, none⟩ = some (.int .i64 a0) := (blk_cell (HLw26.out.get 14 rfl).1 0).trans rfl
 have hxb3_1_w26 : w26.cell? ⟨W.heap.size, 1, none⟩ = some (.slice A0 l0.length c0) := (blk_cell (HLw26.out.get 14 rfl).1 1).trans rfl
 have hxb10_0_w26 : w26.cell? ⟨w7.heap.size, 0, none⟩ = some (.int .i64 X0) := (blk_cell (HLw26.out.get 8 rfl).1 0).trans rfl
 have hxb10_1_w26 : w26.cell? ⟨w7.heap.size, 1, none⟩ = some (.slice Aw7 X1.length cw7) := (blk_cell (HLw26.out.get 8 rfl).1 1).trans rfl
 go_wp2_with fail
 (with_reducible refine (laws_toIntS.calls k _ _ l2 X3 _ (Kd.C_below HR2.out (HBw26.out)) HC2.out F3.out).mono ?_)
 rintro e w27 ⟨vw27_0, rfl, how27_0, hbw27⟩
 obtain ⟨Aw27, cw27, rfl⟩ := Kd.R_slice how27_0
 obtain ⟨low27, hiw27, hlw27⟩ := Live.make_R HLw26.out hbw27 how27_0 (below_size (HBw26.out))
 have HLw27 := Aside0.mk hlw27
 clear hlw27 how27_0
 have HBw27 := Aside0.mk (below_step (HBw26.out) (hbw27))
 clear hbw27
 have hxb3_0_w27 : w27.cell? ⟨W.heap.size, 0, none⟩ = some (.int .i64 a0) := (blk_cell (HLw27.out.get 15 rfl).1 0).trans rfl
 have hxb3_1_w27 : w27.cell? ⟨W.heap.size, 1, none⟩ = some (.slice A0 l0.length c0) := (blk_cell (HLw27.out.get 15 rfl).1 1).trans rfl
 have hxb10_0_w27 : w27.cell? ⟨w7.heap.size, 0, none⟩ = some (.int .i64 X0) := (blk_cell (HLw27.out.get 9 rfl).1 0).trans rfl
 have hxb10_1_w27 : w27.cell? ⟨w7.heap.size, 1, none⟩ = some (.slice Aw7 X1.length cw7) := (blk_cell (HLw27.out.get 9 rfl).1 1).trans rfl
 go_wp2_with fail
 (with_reducible refine (impl_LiftCongruence.calls k X0 _ _ X1 _ _ X2 _ _ X3 X4 X5 _ (Kd.S_reads' (HLw27.out.get 2 rfl)).2.2 (Kd.S_reads' (HLw27.out.get 2 rfl)).2.1 (Kd.R_reads' (HLw27.out.get 1 rfl)).2.2 (Kd.R_reads' (HLw27.out.get 1 rfl)).2.1 (Kd.R_reads' (HLw27.out.get 0 rfl)).2.2 (Kd.R_reads' (HLw27.out.get 0 rfl)).2.1 F5.out).mono ?_)
 rintro e w28 ⟨vw28_0, rfl, how28_0, hbw28⟩
 obtain ⟨Aw28, cw28, rfl⟩ := Kd.R_slice how28_0
 obtain ⟨low28, hiw28, hlw28⟩ := Live.make_R HLw27.out hbw28 how28_0 (below_size (HBw27.out))
 have HLw28 := Aside0.mk hlw28
 clear hlw28 how28_0
 have HBw28 := Aside0.mk (below_step (HBw27.out) (hbw28))
 clear hbw28
 have hxb3_0_w28 : w28.cell? ⟨W.heap.size, 0, none⟩ = some (.int .i64 a0) := (blk_cell (HLw28.out.get 16 rfl).1 0).trans rfl
 have hxb3_1_w28 : w28.cell? ⟨W.heap.size, 1, none⟩ = some (.slice A0 l0.length c0) := (blk_cell (HLw28.out.get 16 rfl).1 1).trans rfl
 have hxb10_0_w28 : w28.cell? ⟨w7.heap.size, 0, none⟩ = some (.int .i64 X0) := (blk_cell (HLw28.out.get 10 rfl).1 0).trans rfl
 have hxb10_1_w28 : w28.cell? ⟨w7.heap.size, 1, none⟩ = some (.slice Aw7 X1.length cw7) := (blk_cell (HLw28.out.get 10 rfl).1 1).trans rfl
 go_wp2_with fail
 (with_reducible refine (laws_eqIntS.calls k _ _ X4 _ _ X4 true _ (Kd.R_reads' (HLw28.out.get 0 rfl)).2.2 (Kd.R_reads' (HLw28.out.get 0 rfl)).2.1 (Kd.R_reads' (HLw28.out.get 12 rfl)).2.2 (Kd.R_reads' (HLw28.out.get 12 rfl)).2.1 F6.out).mono ?_)
 rintro e w29 ⟨rfl, hbw29⟩
 have HLw29 := Aside0.mk (HLw28.out.below hbw29.below)
 have HBw29 := Aside0.mk (below_step (HBw28.out) (hbw29.below))
 clear hbw29
 have hxb3_0_w29 : w29.cell? ⟨W.heap.size, 0, none⟩ = some (.int .i64 a0) := (blk_cell (HLw29.out.get 16 rfl).1 0).trans rfl
 have hxb3_1_w29 : w29.cell? ⟨W.heap.size, 1, none⟩ = some (.slice A0 l0.length c0) := (blk_cell (HLw29.out.get 16 rfl).1 1).trans rfl
 have hxb10_0_w29 : w29.cell? ⟨w7.heap.size, 0, none⟩ = some (.int .i64 X0) := (blk_cell (HLw29.out.get 10 rfl).1 0).trans rfl
 have hxb10_1_w29 : w29.cell? ⟨w7.heap.size, 1, none⟩ = some (.slice Aw7 X1.length cw7) := (blk_cell (HLw29.out.get 10 rfl).1 1).trans rfl
 go_wp2_with fail
 have r_ := (Kd.R_reads' (HLw29.out.get 7 rfl)).2
 have q_ := laws_heldIntS.calls k _ _ (asc X4.length 1) 1 (1 + (X4.length : Int)) _ (by first | exact r_.2 | (rw [asc_length]; exact r_.2)) (by first | exact r_.1 | (rw [asc_length]; exact r_.1)) F13.out
 rw [asc_length] at q_
 (with_reducible refine q_.mono ?_)
 clear q_ r_
 rintro e w30 ⟨rfl, hbw30⟩
 have HLw30 := Aside0.mk (HLw29.out.below hbw30.below)
 have HBw30 := Aside0.mk (below_step (HBw29.out) (hbw30.below))
 clear hbw30
 have hxb3_0_w30 : w30.cell? ⟨W.heap.size, 0, none⟩ = some (.int .i64 a0) := (blk_cell (HLw30.out.get 16 rfl).1 0).trans rfl
 have hxb3_1_w30 : w30.cell? ⟨W.heap.size, 1, none⟩ = some (.slice A0 l0.length c0) := (blk_cell (HLw30.out.get 16 rfl).1 1).trans rfl
 have hxb10_0_w30 : w30.cell? ⟨w7.heap.size, 0, none⟩ = some (.int .i64 X0) := (blk_cell (HLw30.out.get 10 rfl).1 0).trans rfl
 have hxb10_1_w30 : w30.cell? ⟨w7.heap.size, 1, none⟩ = some (.slice Aw7 X1.length cw7) := (blk_cell (HLw30.out.get 10 rfl).1 1).trans rfl
 go_wp2
 go_ret
 exact ⟨rfl, HBw30.out⟩
end Go.Proofs.Ytnnbgfphinemfaa
