/- Part 4 of the proof of the law FnExactPowerOf: functions and lists that say what the Go code computes, and that it does; no condition beside those that each theorem states. -/
import Derived.Test.YtijnfpfijgmopaaZFnExactPowerOfc
import Derived.Test.YtijnfpfijgmopaaZFnExactPowerOfWMore
import Derived.Test.YtijnfpfijgmopaaZFnExactPowerOfWKept
import Derived.Test.YtijnfpfijgmopaaZFnExactPowerOfWApart
import Derived.Test.YtijnfpfijgmopaaZFnExactPowerOfWFoot
import Derived.Test.YtijnfpfijgmopaaZFnExactPowerOfWSized
import Derived.Deep.RegionHeld3
namespace Go.Proofs.Ytijnfpfijgmopaa.Q
open Go.RowKit Go.Proofs.YtijnfpfijgmopaaW.PrintWords Go.Proofs.YtijnfpfijgmopaaW.PrintLast Go.Proofs.YtijnfpfijgmopaaW.PrintMore
attribute [local go_sem] max2_int min2_int max_two min_two max_three min_three max_four min_four
set_option linter.unusedVariables false
set_option linter.unusedSimpArgs false
def laws_toOp.f (k : Nat) (a0_0 : Int) (l0_1 : List Int) : Option (Int × List Int) := (laws_toIntS.f k l0_1).bind fun t130 => (some (a0_0, t130))
theorem laws_toOp.mono : ∀ a0 a1 k, LeO (laws_toOp.f k a0 a1) (laws_toOp.f (k + 1) a0 a1) := by
  intro a0 a1 k
  unfold laws_toOp.f
  repeat' first
      | (with_reducible exact laws_toIntS.mono _ _)
      | (with_reducible exact LeO.refl _)
      | (with_reducible exact LeO.none _)
      | (with_reducible refine LeO.ite ?_ ?_)
      | (with_reducible refine LeO.bind ?_ (fun _ => ?_))
      | exact laws_toIntS.mono _ _
      | exact LeO.none _
      | refine LeO.ite ?_ ?_
      | refine LeO.bind ?_ (fun _ => ?_)
set_option maxHeartbeats 8000000 in
set_option maxRecDepth 100000 in
theorem laws_toOp.calls (k : Nat) (a0_0 : Int) (A0_1 : Option Addr) (c0_1 : Nat) (l0_1 : List Int) (r1 : Int) (r2 : List Int) (w : World) (hr0_1 : Kd.C (Kd.int .i64) w A0_1 l0_1.length l0_1) (hc0_1 : l0_1.length ≤ c0_1) (h : laws_toOp.f k a0_0 l0_1 = some (r1, r2)) :
    Calls Try.prog 118 #[.agg #[.int .i64 a0_0, .slice A0_1 l0_1.length c0_1]] w fun e w' => ∃ v1_ : Value, e = .returned (.agg #[.int .i64 r1, v1_]) ∧ Kd.R (Kd.int .i64) 3 w' w.heap.size (fun _ => True) v1_ r2 ∧ Below w.heap.size w w' := by
  have hu109 := Try.underlying109
  have hu87 := Try.underlying87
  have HR0_1 := Aside0.mk hr0_1
  have HC0_1 := Aside0.mk hc0_1
  clear hr0_1 hc0_1
  have HB := Aside0.mk (Below.refl w.heap.size w)
  have H : ((laws_toIntS.f k l0_1).bind fun t130 => (some (a0_0, t130))) = some (r1, r2) := h
  clear h
  replace H := Option.bind_eq_some_iff.mp H
  obtain ⟨t130, A20, H⟩ := H
  replace H : (some (a0_0, t130)) = some (r1, r2) := H
  have A2 := Aside0.mk A20
  clear A20
  simp only [Option.some.injEq, Prod.mk.injEq] at H
  obtain ⟨rfl, rfl⟩ := H
  go_enter Try.func118, Try.ntmps118
  go_wp2_with (first | ((with_reducible refine gate_dst (N := 1) rfl ?_); refine box_event ?hg (N := 1) ?hd (cs := #[.int .i64 a0_0, .slice A0_1 l0_1.length c0_1]) (t := 109) ?hr ?_; (case hd => rfl); (case hg => rfl); (case hr => first | (go_simp; done) | (go_simp; rfl)); intro gb127 hg w3 hbox hb; have n0_ := Aside0.mk (below_step (by repeat (first | (with_reducible first | exact HB.out | apply below_alloc | apply pw_below_drewN | apply below_drew1) | exact HB.out)) hb); have n1_ := Aside0.mk (hbox); have n2_ := Aside0.mk ((by rw [hg]; exact (below_size (by repeat (first | (with_reducible first | exact HB.out | apply below_alloc | apply pw_below_drewN | apply below_drew1) | exact HB.out))) : w.heap.size ≤ gb127)); have n3_ := Aside0.mk ((by rw [hg]; exact (below_size (by repeat (first | (with_reducible first | exact HB.out | apply below_alloc | apply pw_below_drewN | apply below_drew1) | exact HB.out))) : w.heap.size ≤ gb127)); clear HB; have HB := n0_; have BK127 := n1_; have GW127 := n2_; have GE127 := n3_; clear n0_ n1_ n2_ n3_; clear hb hbox hg) | ((with_reducible refine gate_dst (N := 2) rfl ?_); refine box_event ?hg (N := 2) ?hd (cs := #[.int .i64 0, .slice none 0 0]) (t := 87) ?hr ?_; (case hd => rfl); (case hg => rfl); (case hr => first | (go_simp; done) | (go_simp; rfl)); intro gb128 hg w4 hbox hb; have n0_ := Aside0.mk (blk_below (g := gb127) (o := .cells #[.int .i64 a0_0, .slice A0_1 l0_1.length c0_1] 109 (0, 0)) (by (with_reducible repeat (first | refine blk_drewN ?_ _ | refine blk_drew ?_ | refine blk_alloc ?_ _)); exact BK127.out) hb); have n1_ := Aside0.mk (below_step (by repeat (first | (with_reducible first | exact HB.out | apply below_alloc | apply pw_below_drewN | apply below_drew1 | refine below_set ?_ GE127.out) | exact HB.out)) hb); have n2_ := Aside0.mk (hbox); have n3_ := Aside0.mk ((by rw [hg]; exact (below_size (by repeat (first | (with_reducible first | exact HB.out | apply below_alloc | apply pw_below_drewN | apply below_drew1 | refine below_set ?_ GE127.out) | exact HB.out))) : w.heap.size ≤ gb128)); have n4_ := Aside0.mk ((by rw [hg]; exact (below_size (by repeat (first | (with_reducible first | exact HB.out | apply below_alloc | apply pw_below_drewN | apply below_drew1 | refine below_set ?_ GE127.out) | exact HB.out))) : w.heap.size ≤ gb128)); have n5_ := Aside0.mk ((by rw [hg]; exact Nat.ne_of_lt (blk_lt (g := gb127) (o := .cells #[.int .i64 a0_0, .slice A0_1 l0_1.length c0_1] 109 (0, 0)) (by (with_reducible repeat (first | refine blk_drewN ?_ _ | refine blk_drew ?_ | refine blk_alloc ?_ _)); exact BK127.out)) : gb127 ≠ gb128)); have n6_ := Aside0.mk ((by rw [hg]; exact Nat.ne_of_gt (blk_lt (g := gb127) (o := .cells #[.int .i64 a0_0, .slice A0_1 l0_1.length c0_1] 109 (0, 0)) (by (with_reducible repeat (first | refine blk_drewN ?_ _ | refine blk_drew ?_ | refine blk_alloc ?_ _)); exact BK127.out)) : gb128 ≠ gb127)); clear BK127; clear HB; have BK127 := n0_; have HB := n1_; have BK128 := n2_; have GW128 := n3_; have GE128 := n4_; have NB127_128 := n5_; have NB128_127 := n6_; clear n0_ n1_ n2_ n3_ n4_ n5_ n6_; clear hb hbox hg) | ((with_reducible refine gate_dst (N := 3) rfl ?_); refine box_event ?hg (N := 3) ?hd (cs := #[.int .i64 0, .slice none 0 0]) (t := 87) ?hr ?_; (case hd => rfl); (case hg => rfl); (case hr => first | (go_simp; done) | (go_simp; rfl)); intro gb129 hg w5 hbox hb; have n0_ := Aside0.mk (blk_below (g := gb127) (o := .cells #[.int .i64 a0_0, .slice A0_1 l0_1.length c0_1] 109 (0, 0)) (by (with_reducible repeat (first | refine blk_drewN ?_ _ | refine blk_drew ?_ | refine blk_alloc ?_ _)); exact BK127.out) hb); have n1_ := Aside0.mk (blk_below (g := gb128) (o := .cells #[.int .i64 0, .slice none 0 0] 87 (0, 0)) (by (with_reducible repeat (first | refine blk_drewN ?_ _ | refine blk_drew ?_ | refine blk_alloc ?_ _)); exact BK128.out) hb); have n2_ := Aside0.mk (below_step (by repeat (first | (with_reducible first | exact HB.out | apply below_alloc | apply pw_below_drewN | apply below_drew1 | refine below_set ?_ GE127.out | refine below_set ?_ GE128.out) | exact HB.out)) hb); have n3_ := Aside0.mk (hbox); have n4_ := Aside0.mk ((by rw [hg]; exact (below_size (by repeat (first | (with_reducible first | exact HB.out | apply below_alloc | apply pw_below_drewN | apply below_drew1 | refine below_set ?_ GE127.out | refine below_set ?_ GE128.out) | exact HB.out))) : w.heap.size ≤ gb129)); have n5_ := Aside0.mk ((by rw [hg]; exact (below_size (by repeat (first | (with_reducible first | exact HB.out | apply below_alloc | apply pw_below_drewN | apply below_drew1 | refine below_set ?_ GE127.out | refine below_set ?_ GE128.out) | exact HB.out))) : w.heap.size ≤ gb129)); have n6_ := Aside0.mk ((by rw [hg]; exact Nat.ne_of_lt (blk_lt (g := gb127) (o := .cells #[.int .i64 a0_0, .slice A0_1 l0_1.length c0_1] 109 (0, 0)) (by (with_reducible repeat (first | refine blk_drewN ?_ _ | refine blk_drew ?_ | refine blk_alloc ?_ _)); exact BK127.out)) : gb127 ≠ gb129)); have n7_ := Aside0.mk ((by rw [hg]; exact Nat.ne_of_gt (blk_lt (g := gb127) (o := .cells #[.int .i64 a0_0, .slice A0_1 l0_1.length c0_1] 109 (0, 0)) (by (with_reducible repeat (first | refine blk_drewN ?_ _ | refine blk_drew ?_ | refine blk_alloc ?_ _)); exact BK127.out)) : gb129 ≠ gb127)); have n8_ := Aside0.mk ((by rw [hg]; exact Nat.ne_of_lt (blk_lt (g := gb128) (o := .cells #[.int .i64 0, .slice none 0 0] 87 (0, 0)) (by (with_reducible repeat (first | refine blk_drewN ?_ _ | refine blk_drew ?_ | refine blk_alloc ?_ _)); exact BK128.out)) : gb128 ≠ gb129)); have n9_ := Aside0.mk ((by rw [hg]; exact Nat.ne_of_gt (blk_lt (g := gb128) (o := .cells #[.int .i64 0, .slice none 0 0] 87 (0, 0)) (by (with_reducible repeat (first | refine blk_drewN ?_ _ | refine blk_drew ?_ | refine blk_alloc ?_ _)); exact BK128.out)) : gb129 ≠ gb128)); clear BK127; clear BK128; clear HB; have BK127 := n0_; have BK128 := n1_; have HB := n2_; have BK129 := n3_; have GW129 := n4_; have GE129 := n5_; have NB127_129 := n6_; have NB129_127 := n7_; have NB128_129 := n8_; have NB129_128 := n9_; clear n0_ n1_ n2_ n3_ n4_ n5_ n6_ n7_ n8_ n9_; clear hb hbox hg; have hnb6 := NB127_128.out; have hnc6 := NB128_127.out; have hnb7 := NB127_129.out; have hnc7 := NB129_127.out; have hcz8_0 : w5.cell? ⟨gb127, 0, none⟩ = some (.int .i64 a0_0) := (blk_cell BK127.out 0).trans rfl; have hcz8_1 : w5.cell? ⟨gb127, 1, none⟩ = some (.slice A0_1 l0_1.length c0_1) := (blk_cell BK127.out 1).trans rfl; have hfz8_0 := blk_frozen BK127.out 0; have hfz8_1 := blk_frozen BK127.out 1; have hnb9 := NB129_128.out; have hnc9 := NB128_129.out; have hcz10_0 : w5.cell? ⟨gb129, 0, none⟩ = some (.int .i64 0) := (blk_cell BK129.out 0).trans rfl; have hcz10_1 : w5.cell? ⟨gb129, 1, none⟩ = some (.slice none 0 0) := (blk_cell BK129.out 1).trans rfl; have hfz10_0 := blk_frozen BK129.out 0; have hfz10_1 := blk_frozen BK129.out 1) | ((with_reducible refine gate_callee (f := 51) rfl ?_); refine goesL_ (some 9) rfl rfl Try.func51 (by kernel_rfl) rfl #[.slice A0_1 l0_1.length c0_1] rfl (by (try simp only [List.map_toArray, List.map_cons, List.map_nil]); first | done | rfl | (simp only [List.length_drop, List.length_take]; rfl)) ?_; (with_reducible refine (laws_toIntS.calls k _ _ l0_1 t130 _ ?side1 ?side2 A2.out).mono ?_); (case side1 => exact Kd.C_below HR0_1.out (by repeat (first | (with_reducible first | exact HB.out | apply below_alloc | apply pw_below_drewN | apply below_drew1 | refine below_set ?_ GE127.out | refine below_set ?_ GE128.out | refine below_set ?_ GE129.out) | exact HB.out))); (case side2 => exact HC0_1.out); rintro e w11 ⟨v131, rfl, ho0, hb⟩; refine ⟨_, rfl, ?_⟩; have n0_ := Aside0.mk (Kd.R_lower ho0 (below_size (by repeat (first | (with_reducible first | exact HB.out | apply below_alloc | apply pw_below_drewN | apply below_drew1 | refine below_set ?_ GE127.out | refine below_set ?_ GE128.out | refine below_set ?_ GE129.out) | exact HB.out)))); have n1_ := Aside0.mk (blk_below (g := gb127) (o := .cells #[.int .i64 a0_0, .slice A0_1 l0_1.length c0_1] 109 (0, 0)) (by (with_reducible repeat (first | refine blk_drewN ?_ _ | refine blk_drew ?_ | refine blk_alloc ?_ _)); refine blk_far ?_ NB127_129.out _; (with_reducible repeat (first | refine blk_drewN ?_ _ | refine blk_drew ?_ | refine blk_alloc ?_ _)); exact BK127.out) hb); have n2_ := Aside0.mk (blk_below (g := gb128) (o := .cells #[.int .i64 0, .slice none 0 0] 87 (0, 0)) (by (with_reducible repeat (first | refine blk_drewN ?_ _ | refine blk_drew ?_ | refine blk_alloc ?_ _)); refine blk_far ?_ NB128_129.out _; (with_reducible repeat (first | refine blk_drewN ?_ _ | refine blk_drew ?_ | refine blk_alloc ?_ _)); exact BK128.out) hb); have n3_ := Aside0.mk (blk_below (g := gb129) (o := .cells #[.int .i64 a0_0, .slice none 0 0] 87 (0, 0)) (by (with_reducible repeat (first | refine blk_drewN ?_ _ | refine blk_drew ?_ | refine blk_alloc ?_ _)); refine blk_put (cs := #[.int .i64 0, .slice none 0 0]) ?_ 0 _ rfl; (with_reducible repeat (first | refine blk_drewN ?_ _ | refine blk_drew ?_ | refine blk_alloc ?_ _)); exact BK129.out) hb); have n4_ := Aside0.mk (below_step (by repeat (first | (with_reducible first | exact HB.out | apply below_alloc | apply pw_below_drewN | apply below_drew1 | refine below_set ?_ GE127.out | refine below_set ?_ GE128.out | refine below_set ?_ GE129.out) | exact HB.out)) hb); clear BK127; clear BK128; clear BK129; clear HB; have HO132 := n0_; have BK127 := n1_; have BK128 := n2_; have BK129 := n3_; have HB := n4_; clear n0_ n1_ n2_ n3_ n4_; (try clear hb); (try clear hb2); (try clear hk); (try clear hi); (try clear ho0); obtain ⟨Ao12, co12, eo12⟩ := Kd.R_slice HO132.out; subst eo12; have hcz13_0 : w11.cell? ⟨gb129, 0, none⟩ = some (.int .i64 a0_0) := (blk_cell BK129.out 0).trans rfl; have hcz13_1 : w11.cell? ⟨gb129, 1, none⟩ = some (.slice none 0 0) := (blk_cell BK129.out 1).trans rfl; have hfz13_0 := blk_frozen BK129.out 0; have hfz13_1 := blk_frozen BK129.out 1; have hcz14_0 : w11.cell? ⟨gb128, 0, none⟩ = some (.int .i64 0) := (blk_cell BK128.out 0).trans rfl; have hcz14_1 : w11.cell? ⟨gb128, 1, none⟩ = some (.slice none 0 0) := (blk_cell BK128.out 1).trans rfl; have hfz14_0 := blk_frozen BK128.out 0; have hfz14_1 := blk_frozen BK128.out 1))
  refine bodyPost_ret (results_cell_row rfl _ _ gb128 87 #[.int .i64 a0_0, .slice Ao12 t130.length co12] (0, 0) _ rfl (by (with_reducible repeat (first | refine blk_drewN ?_ _ | refine blk_drew ?_ | refine blk_alloc ?_ _)); refine blk_put (cs := #[.int .i64 a0_0, .slice none 0 0]) ?_ 1 _ rfl; (with_reducible repeat (first | refine blk_drewN ?_ _ | refine blk_drew ?_ | refine blk_alloc ?_ _)); refine blk_put (cs := #[.int .i64 0, .slice none 0 0]) ?_ 0 _ rfl; (with_reducible repeat (first | refine blk_drewN ?_ _ | refine blk_drew ?_ | refine blk_alloc ?_ _)); refine blk_far ?_ NB128_129.out _; (with_reducible repeat (first | refine blk_drewN ?_ _ | refine blk_drew ?_ | refine blk_alloc ?_ _)); exact BK128.out) Try.underlying87 rfl (by kernel_rfl)) rfl ?_
  exact ⟨_, by first | rfl | (simp [errW_none, errW_some] <;> rfl) | (simp [*, errW_none, errW_some] <;> rfl), by (with_reducible repeat (first | apply Kd.R_alloc | apply Kd.R_drewN | apply Kd.R_drew)); exact Kd.R_mono (Kd.R_far (p := ⟨gb128, 1, none⟩) (Kd.R_far (p := ⟨gb128, 0, none⟩) (Kd.R_far (p := ⟨gb129, 1, none⟩) (Kd.R_types (Kd.R_types HO132.out BK129.out (by decide)) BK128.out (by decide)) (fun _ hk => hk.1.2) (.slice Ao12 t130.length co12)) (fun _ hk => hk.2) (.int .i64 a0_0)) (fun _ hk => hk.2) (.slice Ao12 t130.length co12)) (fun _ hk => trivial), by repeat (first | (with_reducible first | exact HB.out | apply below_alloc | apply pw_below_drewN | apply below_drew1 | refine below_set ?_ GE127.out | refine below_set ?_ GE128.out | refine below_set ?_ GE129.out) | exact HB.out)⟩
end Go.Proofs.Ytijnfpfijgmopaa.Q

namespace Go.Proofs.Ytijnfpfijgmopaa.Q
open Go.RowKit Go.Proofs.YtijnfpfijgmopaaW.PrintWords Go.Proofs.YtijnfpfijgmopaaW.PrintLast Go.Proofs.YtijnfpfijgmopaaW.PrintMore
attribute [local go_sem] max2_int min2_int max_two min_two max_three min_three max_four min_four
set_option linter.unusedVariables false
set_option linter.unusedSimpArgs false
def laws_toOpS.l0 : Nat → List (S109) → List (S87) → Int → Option ((List (S87)))
  | 0, _, _, _ => none
  | k + 1, x0, x3, x4 => if x4 < (x0.length : Int) then (if 0 ≤ x4 then ((laws_toOp.f k ((rd_T109 x0 x4).f0) ((rd_T109 x0 x4).f1)).bind fun bt137 => (if x4 < (x3.length : Int) then (laws_toOpS.l0 k x0 (x3.set (x4 : Int).toNat (⟨bt137.1, bt137.2⟩ : S87)) (wrap64 (x4 + 1))) else (none))) else (none)) else (some x3)
def laws_toOpS.f (k : Nat) (l0 : List (S109)) : Option ((List (S87))) := if 0 ≤ (l0.length : Int) then (if ((l0.length : Int) : Int).toNat ≤ 8796093022208 then (laws_toOpS.l0 k l0 (List.replicate ((l0.length : Int) : Int).toNat z87) 0) else (none)) else (none)
theorem laws_toOpS.mono_l : ∀ k, (∀ y0 y1 y2, LeO (laws_toOpS.l0 k y0 y1 y2) (laws_toOpS.l0 (k + 1) y0 y1 y2))
  | 0 => fun _ _ _ r h => by simp [laws_toOpS.l0] at h
  | k + 1 => by
    have ih0 := laws_toOpS.mono_l k
    · intro y0 y1 y2
      unfold laws_toOpS.l0
      repeat' first
      | (with_reducible exact ih0 _ _ _)
      | (with_reducible exact laws_toOp.mono _ _ _)
      | (with_reducible exact LeO.refl _)
      | (with_reducible exact LeO.none _)
      | (with_reducible refine LeO.ite ?_ ?_)
      | (with_reducible refine LeO.bind ?_ (fun _ => ?_))
      | exact ih0 _ _ _
      | exact laws_toOp.mono _ _ _
      | exact LeO.none _
      | refine LeO.ite ?_ ?_
      | refine LeO.bind ?_ (fun _ => ?_)
theorem laws_toOpS.mono : ∀ a0 k, LeO (laws_toOpS.f k a0) (laws_toOpS.f (k + 1) a0) := by
  intro a0 k
  have ih0 := laws_toOpS.mono_l k
  unfold laws_toOpS.f
  repeat' first
      | (with_reducible exact ih0 _ _ _)
      | (with_reducible exact laws_toOp.mono _ _ _)
      | (with_reducible exact LeO.refl _)
      | (with_reducible exact LeO.none _)
      | (with_reducible refine LeO.ite ?_ ?_)
      | (with_reducible refine LeO.bind ?_ (fun _ => ?_))
      | exact ih0 _ _ _
      | exact laws_toOp.mono _ _ _
      | exact LeO.none _
      | refine LeO.ite ?_ ?_
      | refine LeO.bind ?_ (fun _ => ?_)
set_option maxHeartbeats 8000000 in
set_option maxRecDepth 100000 in
theorem laws_toOpS.calls (k : Nat) (A0 : Option Addr) (c0 : Nat) (l0 : List (S109)) (r : List (S87)) (w : World) (hr0 : Kd.C k109 w A0 l0.length l0) (hc0 : l0.length ≤ c0) (h : laws_toOpS.f k l0 = some r) :
    Calls Try.prog 57 #[.slice A0 l0.length c0] w fun e w' => ∃ v0_ : Value, e = .returned (v0_) ∧ Kd.S k87 87 w' w.heap.size (fun _ => True) v0_ r ∧ Below w.heap.size w w' := by
  have hu109 := Try.underlying109
  have hu87 := Try.underlying87
  have HR0 := Aside0.mk hr0
  have HC0 := Aside0.mk hc0
  clear hr0 hc0
  have HB := Aside0.mk (Below.refl w.heap.size w)
  have H : (if 0 ≤ (l0.length : Int) then (if ((l0.length : Int) : Int).toNat ≤ 8796093022208 then (laws_toOpS.l0 k l0 (List.replicate ((l0.length : Int) : Int).toNat z87) 0) else (none)) else (none)) = some r := h
  clear h
  by_cases c2 : 0 ≤ (l0.length : Int)
  · rw [if_pos c2] at H
    have c2b0 := eq_true c2
    have c2b1 : decide (0 ≤ (l0.length : Int)) = true := decide_eq_true c2
    clear c2
    by_cases c3 : ((l0.length : Int) : Int).toNat ≤ 8796093022208
    · rw [if_pos c3] at H
      have c3b0 := eq_true c3
      have c3b1 : decide (((l0.length : Int) : Int).toNat ≤ 8796093022208) = true := decide_eq_true c3
      clear c3
      obtain ⟨y133, hy133⟩ : ∃ y_ : List (S87), y_ = (List.replicate ((l0.length : Int) : Int).toNat z87) := ⟨_, rfl⟩
      replace H : (laws_toOpS.l0 k l0 y133 0) = some r := by first | (rw [hy133]; with_reducible exact H) | (have H2_ := (Option.bind_some _ _).symm.trans H; rw [hy133]; with_reducible exact H2_) | (have H2_ := (Option.bind_some _ _).symm.trans H; with_reducible exact H2_) | with_reducible exact H | (rw [hy133]; exact H) | exact H
      have Ny133 := Aside0.mk hy133
      clear hy133
      have H' := Aside0.mk H
      clear H
      go_enter Try.func57, Try.ntmps57
      go_wp2_with (first | ((with_reducible refine gate_dst (N := 7) rfl ?_); refine Kd.S_make k87 _ 87 rfl (N := 7) rfl 28 _ _ rfl (l0.length : Int) rfl rfl Try.underlying28 (.agg #[(.int .i64 0), (.slice none 0 0)]) 32 info87 rfl (by decide) (by omega) z87 (ok := fun _ => True) (okp := fun _ => True) (k87_mkM _ _ _ z87 (Kd.R_nil _ _ _ _ _)) (fun _ hk => hk) trivial (of_decide_eq_true (by first | (with_reducible assumption) | assumption)) (Nat.le_trans (Nat.mul_le_mul_right _ (of_decide_eq_true (by first | (with_reducible assumption) | assumption) : (l0.length : Int).toNat ≤ 8796093022208)) (by omega)) (Below.refl _ _) (Nat.le_refl _) ?_; intro v134 w4 ho5 hb hg_ hnew_; clear hg_ hnew_; (first | rw [← Ny133.out] at ho5 | (simp only [Int.reduceToNat] at ho5; rw [← Ny133.out] at ho5)); have n0_ := Aside0.mk (Kd.S_lower ho5 (below_size (by repeat (first | (with_reducible first | exact HB.out | apply below_alloc | apply pw_below_drewN | apply below_drew1) | exact HB.out)))); have n1_ := Aside0.mk (below_step (by repeat (first | (with_reducible first | exact HB.out | apply below_alloc | apply pw_below_drewN | apply below_drew1) | exact HB.out)) hb); clear HB; have HO135 := n0_; have HB := n1_; clear n0_ n1_; clear hb ho5))
      go_loopg [4] k (fun kq v4 w' => ∃ (x3_1 : List (S87)) (x4_1 : Int), v4 = .int .i64 x4_1 ∧ Aside0 (laws_toOpS.l0 kq l0 x3_1 x4_1 = some r) ∧ Aside0 (kq ≤ k) ∧ Aside0 (Kd.S k87 87 w' w.heap.size (fun _ => True) v134 x3_1) ∧ Aside0 (Below w.heap.size w w'))
      case atStart => exact ⟨(y133), (0), (by first | rfl | (simp; done) | (simp [*]; done)), H', ⟨Nat.le_refl _⟩, ⟨by (with_reducible repeat (first | apply Kd.S_alloc | apply Kd.S_drewN | apply Kd.S_drew)); exact HO135.out⟩, ⟨by repeat (first | (with_reducible first | exact HB.out | apply below_alloc | apply pw_below_drewN | apply below_drew1) | exact HB.out)⟩⟩
      case round =>
        clear H'
        try clear c2
        try clear c2b0
        try clear c2b1
        try clear p2
        try clear c3
        try clear c3b0
        try clear c3b1
        try clear c5
        obtain ⟨x3_1, x4_1, rfl, HA, HK1, HO_3, HB⟩ := hrel
        cases gk with
        | zero => exact absurd HA.out (by simp [laws_toOpS.l0])
        | succ k1 =>
          have H := HA.out
          clear HA
          simp only [laws_toOpS.l0] at H
          by_cases c6 : x4_1 < (l0.length : Int)
          · rw [if_pos c6] at H
            have c6b0 : decide (x4_1 < (l0.length : Int)) = true := decide_eq_true c6
            clear c6
            by_cases c7 : 0 ≤ x4_1
            · rw [if_pos c7] at H
              have c7b0 : decide (0 ≤ x4_1) = true := decide_eq_true c7
              clear c7
              replace H := Option.bind_eq_some_iff.mp H
              obtain ⟨⟨t137, t138⟩, A80, H⟩ := H
              replace H : (if x4_1 < (x3_1.length : Int) then (laws_toOpS.l0 k1 l0 (x3_1.set (x4_1 : Int).toNat (⟨t137, t138⟩ : S87)) (wrap64 (x4_1 + 1))) else (none)) = some r := H
              have A8 := Aside0.mk A80
              clear A80
              by_cases c9 : x4_1 < (x3_1.length : Int)
              · rw [if_pos c9] at H
                have c9b0 : decide (x4_1 < (x3_1.length : Int)) = true := decide_eq_true c9
                clear c9
                obtain ⟨y141, hy141⟩ : ∃ y_ : List (S87), y_ = (x3_1.set (x4_1 : Int).toNat (⟨t137, t138⟩ : S87)) := ⟨_, rfl⟩
                replace H : (laws_toOpS.l0 k1 l0 y141 (wrap64 (x4_1 + 1))) = some r := by first | (rw [hy141]; with_reducible exact H) | (have H2_ := (Option.bind_some _ _).symm.trans H; rw [hy141]; with_reducible exact H2_) | (have H2_ := (Option.bind_some _ _).symm.trans H; with_reducible exact H2_) | with_reducible exact H | (rw [hy141]; exact H) | exact H
                have Ny141 := Aside0.mk hy141
                clear hy141
                have H' := Aside0.mk H
                clear H
                have p136 : 0 ≤ (x4_1 : Int) := of_decide_eq_true (by first | (with_reducible assumption) | assumption)
                have q136 : x4_1 < (l0.length : Int) := of_decide_eq_true (by first | (with_reducible assumption) | assumption)
                obtain ⟨ad136, A136_1, c136_1, e136, hx136_0, hx136_1, hl136_1, hi136_1⟩ := at_T109 HR0.out x4_1 p136 q136
                cases e136
                replace hx136_0 := (HB.out.cell (World.block_lt_of_cell? w _ hx136_0)).trans hx136_0
                replace hx136_1 := (HB.out.cell (World.block_lt_of_cell? w _ hx136_1)).trans hx136_1
                have HR136_1 := Aside0.mk hi136_1
                have HC136_1 := Aside0.mk hl136_1
                clear hi136_1 hl136_1
                replace p136 := eq_true p136
                replace q136 := eq_true q136
                go_wp2_with (first | ((with_reducible refine gate_callee (f := 118) rfl ?_); refine goesL_ (some 20) rfl rfl Try.func118 (by kernel_rfl) rfl #[.agg #[.int .i64 ((rd_T109 l0 x4_1).f0), .slice A136_1 ((rd_T109 l0 x4_1).f1).length c136_1]] rfl (by (try simp only [List.map_toArray, List.map_cons, List.map_nil]); first | done | rfl | (simp only [List.length_drop, List.length_take]; rfl)) ?_; (with_reducible refine (laws_toOp.calls k1 ((rd_T109 l0 x4_1).f0) _ _ ((rd_T109 l0 x4_1).f1) t137 t138 _ ?side1 ?side2 A8.out).mono ?_); (case side1 => repeat (first | exact (Kd.C_below HR136_1.out HB.out) | (with_reducible refine Kd.C_alloc ?_ _) | (with_reducible refine Kd.C_drewN ?_ _) | (with_reducible refine Kd.C_drew ?_))); (case side2 => exact HC136_1.out); rintro e w11 ⟨v139, rfl, ho0, hb⟩; refine ⟨_, rfl, ?_⟩; have n0_ := Aside0.mk (Kd.S_elder' (by (with_reducible repeat (first | apply Kd.S_alloc | apply Kd.S_drewN | apply Kd.S_drew)); exact HO_3.out) (Kd.R_base ho0) hb); have n1_ := Aside0.mk (Kd.R_lower ho0 (below_size (by repeat (first | (with_reducible first | exact HB.out | apply below_alloc | apply pw_below_drewN | apply below_drew1) | exact HB.out)))); have n2_ := Aside0.mk (below_step (by repeat (first | (with_reducible first | exact HB.out | apply below_alloc | apply pw_below_drewN | apply below_drew1) | exact HB.out)) hb); clear HO_3; clear HB; have HO_3 := n0_; have HO140 := n1_; have HB := n2_; clear n0_ n1_ n2_; (try clear hb); (try clear hb2); (try clear hk); (try clear hi); (try clear ho0); have p10 : 0 ≤ (x4_1 : Int) := of_decide_eq_true (by first | (with_reducible assumption) | assumption); have q10 : (x4_1 : Int) < ((x3_1.length : Int) : Int) := of_decide_eq_true (by first | (with_reducible assumption) | assumption); obtain ⟨go10, co10, eo10, gb10, gl10, cl10, HG10⟩ := Kd.S_form HO_3.out (by omega); (first | cases eo10 | (injection eo10 with ea_ en_ ec_; (first | subst ea_ | (injection ea_ with ea_; subst ea_)); subst ec_; clear en_)); have GB10 := Aside0.mk gb10; have GG10 := Aside0.mk HG10; clear gb10 gl10 HG10; obtain ⟨_, ce10, hcl10, hM10, hcc10, hfr10, _, _⟩ := Kd.S_elem HO_3.out z87 (x4_1 : Int) p10 q10; obtain ⟨ve10_1, rfl, ge10_1⟩ := k87_openM hM10; have hx10_0 : w11.cell? ⟨go10, (x4_1 : Int).toNat * 2, none⟩ = some (.int .i64 ((rd_T87 x3_1 x4_1).f0)) := hcc10 0 _ rfl; have hx10_1 : w11.cell? ⟨go10, (x4_1 : Int).toNat * 2 + 1, none⟩ = some (ve10_1) := hcc10 1 _ rfl; have hf10_0 : w11.frozen? ⟨go10, (x4_1 : Int).toNat * 2, none⟩ = false := hfr10 0; have hf10_1 : w11.frozen? ⟨go10, (x4_1 : Int).toNat * 2 + 1, none⟩ = false := hfr10 1; (try clear hcl10); (try clear hcc10); (try clear hfr10); (try clear hM10); replace p10 := eq_true p10; replace q10 := eq_true q10; have n_ := Aside0.mk (Kd.S_mono (ok' := (fun k_ => some k_ ≠ (v139 : Value).ownBlock)) HO_3.out (fun k_ hk => hk.2)); clear HO_3; have HO_3 := n_; clear n_; have HX12 := Aside0.mk (show Kd.S k87 87 w11 w.heap.size (fun k_ => ((fun _ => True)) k_ ∧ ¬ ((fun k_ => some k_ = (v139 : Value).ownBlock)) k_) (.slice (some ⟨go10, 0, none⟩) x3_1.length co10) x3_1 from (by (with_reducible repeat (first | apply Kd.S_alloc | apply Kd.S_drewN | apply Kd.S_drew)); exact Kd.S_mono HO_3.out (fun k_ hk => ⟨trivial, fun e_ => hk e_⟩))); obtain ⟨oki12, ce12, hcl12, hM12, hcc12, hfr12, hoki12, hH12⟩ := Kd.S_elem HX12.out z87 (x4_1 : Int) (of_decide_eq_true (by first | (with_reducible assumption) | assumption)) (by have h_ : (x4_1 : Int) < ((x3_1.length : Int) : Int) := of_decide_eq_true (by first | (with_reducible assumption) | assumption); first | exact h_ | (have e_ := (Kd.S_reads' HO_3.out).1; omega) | simpa using h_); obtain ⟨ve12_1, rfl, ge12_1⟩ := k87_openM hM12; have HP12 := Kd.S_seg hH12 (of_decide_eq_true (by first | (with_reducible assumption) | assumption)) (by have h_ : (x4_1 : Int) < ((x3_1.length : Int) : Int) := of_decide_eq_true (by first | (with_reducible assumption) | assumption); first | exact h_ | (have e_ := (Kd.S_reads' HO_3.out).1; omega) | simpa using h_) (seg := [.int .i64 t137, v139]) (j := 0) (show 2 ≤ 2 from by decide) (x' := (⟨t137, t138⟩ : S87)) (k87_mkM _ _ _ (⟨t137, t138⟩ : S87) (Kd.R_mono (Kd.R_tight rfl (Kd.R_mono (ok' := fun k_ => ((fun _ => True)) k_ ∧ k_ ≠ go10) (Kd.R_apart' (HO140.out) (Kd.S_typed HO_3.out) (by decide)) (fun k_ hk => ⟨trivial, fun e_ => (hk.2) (by rw [e_]; rfl)⟩))) (fun _ h_ => Or.inr (h_)))) (fun _ hk => hk) (fun k_ hk_ => ((Kd.R_mono (ok' := fun k_ => ((fun _ => True)) k_ ∧ k_ ≠ go10) (Kd.R_apart' (HO140.out) (Kd.S_typed HO_3.out) (by decide)) (fun k_ hk => ⟨trivial, fun e_ => (hk.2) (by rw [e_]; rfl)⟩))).1 k_ hk_.symm); have hx12_0 := hcc12 0 _ rfl; (try simp only [show (k87).sz = 2 from rfl, Nat.mul_one, Nat.add_zero] at hx12_0); have hf12_0 := hfr12 0; (try simp only [show (k87).sz = 2 from rfl, Nat.mul_one, Nat.add_zero] at hf12_0); have hx12_1 := hcc12 1 _ rfl; (try simp only [show (k87).sz = 2 from rfl, Nat.mul_one, Nat.add_zero] at hx12_1); have hf12_1 := hfr12 1; (try simp only [show (k87).sz = 2 from rfl, Nat.mul_one, Nat.add_zero] at hf12_1); (try clear hcl12); (try clear hcc12); (try clear hfr12); (try clear hM12); (try clear hoki12); (try clear hH12)) | ((with_reducible refine gate_store (t := 87) (p := 21) rfl ?_); refine store_event (t := 87) (p := 21) (v := ?vo_w13) (w1 := ((w11.setCell ⟨go10, (x4_1 : Int).toNat * 2, none⟩ (.int .i64 t137)).setCell ⟨go10, (x4_1 : Int).toNat * 2 + 1, none⟩ (v139))) ?hg ?ho ?hn ?hr ?_; (case ho => rfl); (case hg => rfl); (case hn => rfl); (case hr => first | (go_simp; done) | (go_simp; rfl) | ((first | (obtain ⟨Ao_v139, co_v139, eo_v139⟩ := Kd.R_slice (‹Aside0 (Kd.R _ _ _ _ _ v139 _)›).out; rw [eo_v139]) | (obtain ⟨Ao_v139, co_v139, eo_v139⟩ := Kd.R_slice (Kd.S_R (‹Aside0 (Kd.S _ _ _ _ _ v139 _)›).out); rw [eo_v139])); go_simp; done) | ((first | (obtain ⟨Ao_v139, co_v139, eo_v139⟩ := Kd.R_slice (‹Aside0 (Kd.R _ _ _ _ _ v139 _)›).out; rw [eo_v139]) | (obtain ⟨Ao_v139, co_v139, eo_v139⟩ := Kd.R_slice (Kd.S_R (‹Aside0 (Kd.S _ _ _ _ _ v139 _)›).out); rw [eo_v139])); go_simp; rfl)); intro w13 hw; have hg : w11.grownBy w13 (some go10) := (by rw [hw]; exact HP12.2); have hp_ : Kd.S k87 87 w13 w.heap.size (fun _ => True) (.slice (some ⟨go10, 0, none⟩) x3_1.length co10) y141 := (by rw [hw, Ny141.out]; exact HP12.1); clear HP12; have n0_ := Aside0.mk (hp_); have n1_ := Aside0.mk ((by rw [hw]; exact below_set (below_set (HB.out) GB10.out) GB10.out : Below w.heap.size w w13)); clear HO_3; clear HB; clear HO140; have HO_3 := n0_; have HB := n1_; clear n0_ n1_; clear hg hw hp_))
                go_roundg k1
                case measure => have := HK1.out; omega
                case rel => exact ⟨(y141), (wrap64 (x4_1 + 1)), (by first | rfl | (simp; done) | (simp [*]; done)), H', ⟨by have := HK1.out; omega⟩, ⟨by (with_reducible repeat (first | apply Kd.S_alloc | apply Kd.S_drewN | apply Kd.S_drew)); exact HO_3.out⟩, ⟨by repeat (first | (with_reducible first | exact HB.out | apply below_alloc | apply pw_below_drewN | apply below_drew1) | exact HB.out)⟩⟩
              · rw [if_neg c9] at H
                exact absurd H (by simp)
            · rw [if_neg c7] at H
              exact absurd H (by simp)
          · rw [if_neg c6] at H
            have c6b0 : decide (x4_1 < (l0.length : Int)) = false := decide_eq_false c6
            clear c6
            obtain rfl := Option.some.inj H
            go_wp2
            go_ret
            exact ⟨_, by first | rfl | (simp [errW_none, errW_some] <;> rfl) | (simp [*, errW_none, errW_some] <;> rfl), by (with_reducible repeat (first | apply Kd.S_alloc | apply Kd.S_drewN | apply Kd.S_drew)); exact HO_3.out, by repeat (first | (with_reducible first | exact HB.out | apply below_alloc | apply pw_below_drewN | apply below_drew1) | exact HB.out)⟩
    · rw [if_neg c3] at H
      exact absurd H (by simp)
  · rw [if_neg c2] at H
    exact absurd H (by simp)
end Go.Proofs.Ytijnfpfijgmopaa.Q

namespace Go.Proofs.Ytijnfpfijgmopaa.Q
open Go.RowKit Go.Proofs.YtijnfpfijgmopaaW.PrintWords Go.Proofs.YtijnfpfijgmopaaW.PrintLast Go.Proofs.YtijnfpfijgmopaaW.PrintMore
attribute [local go_sem] max2_int min2_int max_two min_two max_three min_three max_four min_four
set_option linter.unusedVariables false
set_option linter.unusedSimpArgs false
def laws_toAlgebra.f (k : Nat) (a0_0 : Int) (l0_1 : List (S109)) : Option (Int × (List (S87))) := (laws_toOpS.f k l0_1).bind fun t145 => (some (a0_0, t145))
theorem laws_toAlgebra.mono : ∀ a0 a1 k, LeO (laws_toAlgebra.f k a0 a1) (laws_toAlgebra.f (k + 1) a0 a1) := by
  intro a0 a1 k
  unfold laws_toAlgebra.f
  repeat' first
      | (with_reducible exact laws_toOpS.mono _ _)
      | (with_reducible exact LeO.refl _)
      | (with_reducible exact LeO.none _)
      | (with_reducible refine LeO.ite ?_ ?_)
      | (with_reducible refine LeO.bind ?_ (fun _ => ?_))
      | exact laws_toOpS.mono _ _
      | exact LeO.none _
      | refine LeO.ite ?_ ?_
      | refine LeO.bind ?_ (fun _ => ?_)
set_option maxHeartbeats 8000000 in
set_option maxRecDepth 100000 in
theorem laws_toAlgebra.calls (k : Nat) (a0_0 : Int) (A0_1 : Option Addr) (c0_1 : Nat) (l0_1 : List (S109)) (r1 : Int) (r2 : List (S87)) (w : World) (hr0_1 : Kd.C k109 w A0_1 l0_1.length l0_1) (hc0_1 : l0_1.length ≤ c0_1) (h : laws_toAlgebra.f k a0_0 l0_1 = some (r1, r2)) :
    Calls Try.prog 17 #[.agg #[.int .i64 a0_0, .slice A0_1 l0_1.length c0_1]] w fun e w' => ∃ v1_ : Value, e = .returned (.agg #[.int .i64 r1, v1_]) ∧ Kd.S k87 87 w' w.heap.size (fun _ => True) v1_ r2 ∧ Below w.heap.size w w' := by
  have hu24 := Try.underlying24
  have hu30 := Try.underlying30
  have HR0_1 := Aside0.mk hr0_1
  have HC0_1 := Aside0.mk hc0_1
  clear hr0_1 hc0_1
  have HB := Aside0.mk (Below.refl w.heap.size w)
  have H : ((laws_toOpS.f k l0_1).bind fun t145 => (some (a0_0, t145))) = some (r1, r2) := h
  clear h
  replace H := Option.bind_eq_some_iff.mp H
  obtain ⟨t145, A20, H⟩ := H
  replace H : (some (a0_0, t145)) = some (r1, r2) := H
  have A2 := Aside0.mk A20
  clear A20
  simp only [Option.some.injEq, Prod.mk.injEq] at H
  obtain ⟨rfl, rfl⟩ := H
  go_enter Try.func17, Try.ntmps17
  go_wp2_with (first | ((with_reducible refine gate_dst (N := 1) rfl ?_); refine box_event ?hg (N := 1) ?hd (cs := #[.int .i64 a0_0, .slice A0_1 l0_1.length c0_1]) (t := 24) ?hr ?_; (case hd => rfl); (case hg => rfl); (case hr => first | (go_simp; done) | (go_simp; rfl)); intro gb142 hg w3 hbox hb; have n0_ := Aside0.mk (below_step (by repeat (first | (with_reducible first | exact HB.out | apply below_alloc | apply pw_below_drewN | apply below_drew1) | exact HB.out)) hb); have n1_ := Aside0.mk (hbox); have n2_ := Aside0.mk ((by rw [hg]; exact (below_size (by repeat (first | (with_reducible first | exact HB.out | apply below_alloc | apply pw_below_drewN | apply below_drew1) | exact HB.out))) : w.heap.size ≤ gb142)); have n3_ := Aside0.mk ((by rw [hg]; exact (below_size (by repeat (first | (with_reducible first | exact HB.out | apply below_alloc | apply pw_below_drewN | apply below_drew1) | exact HB.out))) : w.heap.size ≤ gb142)); clear HB; have HB := n0_; have BK142 := n1_; have GW142 := n2_; have GE142 := n3_; clear n0_ n1_ n2_ n3_; clear hb hbox hg) | ((with_reducible refine gate_dst (N := 2) rfl ?_); refine box_event ?hg (N := 2) ?hd (cs := #[.int .i64 0, .slice none 0 0]) (t := 30) ?hr ?_; (case hd => rfl); (case hg => rfl); (case hr => first | (go_simp; done) | (go_simp; rfl)); intro gb143 hg w4 hbox hb; have n0_ := Aside0.mk (blk_below (g := gb142) (o := .cells #[.int .i64 a0_0, .slice A0_1 l0_1.length c0_1] 24 (0, 0)) (by (with_reducible repeat (first | refine blk_drewN ?_ _ | refine blk_drew ?_ | refine blk_alloc ?_ _)); exact BK142.out) hb); have n1_ := Aside0.mk (below_step (by repeat (first | (with_reducible first | exact HB.out | apply below_alloc | apply pw_below_drewN | apply below_drew1 | refine below_set ?_ GE142.out) | exact HB.out)) hb); have n2_ := Aside0.mk (hbox); have n3_ := Aside0.mk ((by rw [hg]; exact (below_size (by repeat (first | (with_reducible first | exact HB.out | apply below_alloc | apply pw_below_drewN | apply below_drew1 | refine below_set ?_ GE142.out) | exact HB.out))) : w.heap.size ≤ gb143)); have n4_ := Aside0.mk ((by rw [hg]; exact (below_size (by repeat (first | (with_reducible first | exact HB.out | apply below_alloc | apply pw_below_drewN | apply below_drew1 | refine below_set ?_ GE142.out) | exact HB.out))) : w.heap.size ≤ gb143)); have n5_ := Aside0.mk ((by rw [hg]; exact Nat.ne_of_lt (blk_lt (g := gb142) (o := .cells #[.int .i64 a0_0, .slice A0_1 l0_1.length c0_1] 24 (0, 0)) (by (with_reducible repeat (first | refine blk_drewN ?_ _ | refine blk_drew ?_ | refine blk_alloc ?_ _)); exact BK142.out)) : gb142 ≠ gb143)); have n6_ := Aside0.mk ((by rw [hg]; exact Nat.ne_of_gt (blk_lt (g := gb142) (o := .cells #[.int .i64 a0_0, .slice A0_1 l0_1.length c0_1] 24 (0, 0)) (by (with_reducible repeat (first | refine blk_drewN ?_ _ | refine blk_drew ?_ | refine blk_alloc ?_ _)); exact BK142.out)) : gb143 ≠ gb142)); clear BK142; clear HB; have BK142 := n0_; have HB := n1_; have BK143 := n2_; have GW143 := n3_; have GE143 := n4_; have NB142_143 := n5_; have NB143_142 := n6_; clear n0_ n1_ n2_ n3_ n4_ n5_ n6_; clear hb hbox hg) | ((with_reducible refine gate_dst (N := 3) rfl ?_); refine box_event ?hg (N := 3) ?hd (cs := #[.int .i64 0, .slice none 0 0]) (t := 30) ?hr ?_; (case hd => rfl); (case hg => rfl); (case hr => first | (go_simp; done) | (go_simp; rfl)); intro gb144 hg w5 hbox hb; have n0_ := Aside0.mk (blk_below (g := gb142) (o := .cells #[.int .i64 a0_0, .slice A0_1 l0_1.length c0_1] 24 (0, 0)) (by (with_reducible repeat (first | refine blk_drewN ?_ _ | refine blk_drew ?_ | refine blk_alloc ?_ _)); exact BK142.out) hb); have n1_ := Aside0.mk (blk_below (g := gb143) (o := .cells #[.int .i64 0, .slice none 0 0] 30 (0, 0)) (by (with_reducible repeat (first | refine blk_drewN ?_ _ | refine blk_drew ?_ | refine blk_alloc ?_ _)); exact BK143.out) hb); have n2_ := Aside0.mk (below_step (by repeat (first | (with_reducible first | exact HB.out | apply below_alloc | apply pw_below_drewN | apply below_drew1 | refine below_set ?_ GE142.out | refine below_set ?_ GE143.out) | exact HB.out)) hb); have n3_ := Aside0.mk (hbox); have n4_ := Aside0.mk ((by rw [hg]; exact (below_size (by repeat (first | (with_reducible first | exact HB.out | apply below_alloc | apply pw_below_drewN | apply below_drew1 | refine below_set ?_ GE142.out | refine below_set ?_ GE143.out) | exact HB.out))) : w.heap.size ≤ gb144)); have n5_ := Aside0.mk ((by rw [hg]; exact (below_size (by repeat (first | (with_reducible first | exact HB.out | apply below_alloc | apply pw_below_drewN | apply below_drew1 | refine below_set ?_ GE142.out | refine below_set ?_ GE143.out) | exact HB.out))) : w.heap.size ≤ gb144)); have n6_ := Aside0.mk ((by rw [hg]; exact Nat.ne_of_lt (blk_lt (g := gb142) (o := .cells #[.int .i64 a0_0, .slice A0_1 l0_1.length c0_1] 24 (0, 0)) (by (with_reducible repeat (first | refine blk_drewN ?_ _ | refine blk_drew ?_ | refine blk_alloc ?_ _)); exact BK142.out)) : gb142 ≠ gb144)); have n7_ := Aside0.mk ((by rw [hg]; exact Nat.ne_of_gt (blk_lt (g := gb142) (o := .cells #[.int .i64 a0_0, .slice A0_1 l0_1.length c0_1] 24 (0, 0)) (by (with_reducible repeat (first | refine blk_drewN ?_ _ | refine blk_drew ?_ | refine blk_alloc ?_ _)); exact BK142.out)) : gb144 ≠ gb142)); have n8_ := Aside0.mk ((by rw [hg]; exact Nat.ne_of_lt (blk_lt (g := gb143) (o := .cells #[.int .i64 0, .slice none 0 0] 30 (0, 0)) (by (with_reducible repeat (first | refine blk_drewN ?_ _ | refine blk_drew ?_ | refine blk_alloc ?_ _)); exact BK143.out)) : gb143 ≠ gb144)); have n9_ := Aside0.mk ((by rw [hg]; exact Nat.ne_of_gt (blk_lt (g := gb143) (o := .cells #[.int .i64 0, .slice none 0 0] 30 (0, 0)) (by (with_reducible repeat (first | refine blk_drewN ?_ _ | refine blk_drew ?_ | refine blk_alloc ?_ _)); exact BK143.out)) : gb144 ≠ gb143)); clear BK142; clear BK143; clear HB; have BK142 := n0_; have BK143 := n1_; have HB := n2_; have BK144 := n3_; have GW144 := n4_; have GE144 := n5_; have NB142_144 := n6_; have NB144_142 := n7_; have NB143_144 := n8_; have NB144_143 := n9_; clear n0_ n1_ n2_ n3_ n4_ n5_ n6_ n7_ n8_ n9_; clear hb hbox hg; have hnb6 := NB142_143.out; have hnc6 := NB143_142.out; have hnb7 := NB142_144.out; have hnc7 := NB144_142.out; have hcz8_0 : w5.cell? ⟨gb142, 0, none⟩ = some (.int .i64 a0_0) := (blk_cell BK142.out 0).trans rfl; have hcz8_1 : w5.cell? ⟨gb142, 1, none⟩ = some (.slice A0_1 l0_1.length c0_1) := (blk_cell BK142.out 1).trans rfl; have hfz8_0 := blk_frozen BK142.out 0; have hfz8_1 := blk_frozen BK142.out 1; have hnb9 := NB144_143.out; have hnc9 := NB143_144.out; have hcz10_0 : w5.cell? ⟨gb144, 0, none⟩ = some (.int .i64 0) := (blk_cell BK144.out 0).trans rfl; have hcz10_1 : w5.cell? ⟨gb144, 1, none⟩ = some (.slice none 0 0) := (blk_cell BK144.out 1).trans rfl; have hfz10_0 := blk_frozen BK144.out 0; have hfz10_1 := blk_frozen BK144.out 1) | ((with_reducible refine gate_callee (f := 57) rfl ?_); refine goesL_ (some 9) rfl rfl Try.func57 (by kernel_rfl) rfl #[.slice A0_1 l0_1.length c0_1] rfl (by (try simp only [List.map_toArray, List.map_cons, List.map_nil]); first | done | rfl | (simp only [List.length_drop, List.length_take]; rfl)) ?_; (with_reducible refine (laws_toOpS.calls k _ _ l0_1 t145 _ ?side1 ?side2 A2.out).mono ?_); (case side1 => exact Kd.C_below HR0_1.out (by repeat (first | (with_reducible first | exact HB.out | apply below_alloc | apply pw_below_drewN | apply below_drew1 | refine below_set ?_ GE142.out | refine below_set ?_ GE143.out | refine below_set ?_ GE144.out) | exact HB.out))); (case side2 => exact HC0_1.out); rintro e w11 ⟨v146, rfl, ho0, hb⟩; refine ⟨_, rfl, ?_⟩; have n0_ := Aside0.mk (Kd.S_lower ho0 (below_size (by repeat (first | (with_reducible first | exact HB.out | apply below_alloc | apply pw_below_drewN | apply below_drew1 | refine below_set ?_ GE142.out | refine below_set ?_ GE143.out | refine below_set ?_ GE144.out) | exact HB.out)))); have n1_ := Aside0.mk (blk_below (g := gb142) (o := .cells #[.int .i64 a0_0, .slice A0_1 l0_1.length c0_1] 24 (0, 0)) (by (with_reducible repeat (first | refine blk_drewN ?_ _ | refine blk_drew ?_ | refine blk_alloc ?_ _)); refine blk_far ?_ NB142_144.out _; (with_reducible repeat (first | refine blk_drewN ?_ _ | refine blk_drew ?_ | refine blk_alloc ?_ _)); exact BK142.out) hb); have n2_ := Aside0.mk (blk_below (g := gb143) (o := .cells #[.int .i64 0, .slice none 0 0] 30 (0, 0)) (by (with_reducible repeat (first | refine blk_drewN ?_ _ | refine blk_drew ?_ | refine blk_alloc ?_ _)); refine blk_far ?_ NB143_144.out _; (with_reducible repeat (first | refine blk_drewN ?_ _ | refine blk_drew ?_ | refine blk_alloc ?_ _)); exact BK143.out) hb); have n3_ := Aside0.mk (blk_below (g := gb144) (o := .cells #[.int .i64 a0_0, .slice none 0 0] 30 (0, 0)) (by (with_reducible repeat (first | refine blk_drewN ?_ _ | refine blk_drew ?_ | refine blk_alloc ?_ _)); refine blk_put (cs := #[.int .i64 0, .slice none 0 0]) ?_ 0 _ rfl; (with_reducible repeat (first | refine blk_drewN ?_ _ | refine blk_drew ?_ | refine blk_alloc ?_ _)); exact BK144.out) hb); have n4_ := Aside0.mk (below_step (by repeat (first | (with_reducible first | exact HB.out | apply below_alloc | apply pw_below_drewN | apply below_drew1 | refine below_set ?_ GE142.out | refine below_set ?_ GE143.out | refine below_set ?_ GE144.out) | exact HB.out)) hb); clear BK142; clear BK143; clear BK144; clear HB; have HO147 := n0_; have BK142 := n1_; have BK143 := n2_; have BK144 := n3_; have HB := n4_; clear n0_ n1_ n2_ n3_ n4_; (try clear hb); (try clear hb2); (try clear hk); (try clear hi); (try clear ho0); obtain ⟨Ao12, co12, eo12⟩ := Kd.S_slice HO147.out; subst eo12; have hcz13_0 : w11.cell? ⟨gb144, 0, none⟩ = some (.int .i64 a0_0) := (blk_cell BK144.out 0).trans rfl; have hcz13_1 : w11.cell? ⟨gb144, 1, none⟩ = some (.slice none 0 0) := (blk_cell BK144.out 1).trans rfl; have hfz13_0 := blk_frozen BK144.out 0; have hfz13_1 := blk_frozen BK144.out 1; have hcz14_0 : w11.cell? ⟨gb143, 0, none⟩ = some (.int .i64 0) := (blk_cell BK143.out 0).trans rfl; have hcz14_1 : w11.cell? ⟨gb143, 1, none⟩ = some (.slice none 0 0) := (blk_cell BK143.out 1).trans rfl; have hfz14_0 := blk_frozen BK143.out 0; have hfz14_1 := blk_frozen BK143.out 1))
  refine bodyPost_ret (results_cell_row rfl _ _ gb143 30 #[.int .i64 a0_0, .slice Ao12 t145.length co12] (0, 0) _ rfl (by (with_reducible repeat (first | refine blk_drewN ?_ _ | refine blk_drew ?_ | refine blk_alloc ?_ _)); refine blk_put (cs := #[.int .i64 a0_0, .slice none 0 0]) ?_ 1 _ rfl; (with_reducible repeat (first | refine blk_drewN ?_ _ | refine blk_drew ?_ | refine blk_alloc ?_ _)); refine blk_put (cs := #[.int .i64 0, .slice none 0 0]) ?_ 0 _ rfl; (with_reducible repeat (first | refine blk_drewN ?_ _ | refine blk_drew ?_ | refine blk_alloc ?_ _)); refine blk_far ?_ NB143_144.out _; (with_reducible repeat (first | refine blk_drewN ?_ _ | refine blk_drew ?_ | refine blk_alloc ?_ _)); exact BK143.out) Try.underlying30 rfl (by kernel_rfl)) rfl ?_
  exact ⟨_, by first | rfl | (simp [errW_none, errW_some] <;> rfl) | (simp [*, errW_none, errW_some] <;> rfl), by (with_reducible repeat (first | apply Kd.S_alloc | apply Kd.S_drewN | apply Kd.S_drew)); exact Kd.S_mono (Kd.S_far (p := ⟨gb143, 1, none⟩) (Kd.S_far (p := ⟨gb143, 0, none⟩) (Kd.S_far (p := ⟨gb144, 1, none⟩) (Kd.S_types (Kd.S_types HO147.out BK144.out (by decide)) BK143.out (by decide)) (fun _ hk => hk.1.2) (.slice Ao12 t145.length co12)) (fun _ hk => hk.2) (.int .i64 a0_0)) (fun _ hk => hk.2) (.slice Ao12 t145.length co12)) (fun _ hk => trivial), by repeat (first | (with_reducible first | exact HB.out | apply below_alloc | apply pw_below_drewN | apply below_drew1 | refine below_set ?_ GE142.out | refine below_set ?_ GE143.out | refine below_set ?_ GE144.out) | exact HB.out)⟩
end Go.Proofs.Ytijnfpfijgmopaa.Q

namespace Go.Proofs.Ytijnfpfijgmopaa.Q
open Go.RowKit Go.Proofs.YtijnfpfijgmopaaW.PrintWords Go.Proofs.YtijnfpfijgmopaaW.PrintLast Go.Proofs.YtijnfpfijgmopaaW.PrintMore
attribute [local go_sem] max2_int min2_int max_two min_two max_three min_three max_four min_four
set_option linter.unusedVariables false
set_option linter.unusedSimpArgs false
def laws_eqIntS.l0 : Nat → List Int → List Int → Int → Option (Bool)
  | 0, _, _, _ => none
  | k + 1, x0, x1, x5 => if x5 < (x0.length : Int) then (if 0 ≤ x5 then (if x5 < (x1.length : Int) then (if (rd x0 x5) = (rd x1 x5) then (laws_eqIntS.l0 k x0 x1 (wrap64 (x5 + 1))) else (some false)) else (none)) else (none)) else (some true)
def laws_eqIntS.f (k : Nat) (l0 : List Int) (l1 : List Int) : Option (Bool) := if (l0.length : Int) = (l1.length : Int) then (laws_eqIntS.l0 k l0 l1 0) else (some false)
theorem laws_eqIntS.mono_l : ∀ k, (∀ y0 y1 y2, LeO (laws_eqIntS.l0 k y0 y1 y2) (laws_eqIntS.l0 (k + 1) y0 y1 y2))
  | 0 => fun _ _ _ r h => by simp [laws_eqIntS.l0] at h
  | k + 1 => by
    have ih0 := laws_eqIntS.mono_l k
    · intro y0 y1 y2
      unfold laws_eqIntS.l0
      repeat' first
      | (with_reducible exact ih0 _ _ _)
      | (with_reducible exact LeO.refl _)
      | (with_reducible exact LeO.none _)
      | (with_reducible refine LeO.ite ?_ ?_)
      | (with_reducible refine LeO.bind ?_ (fun _ => ?_))
      | exact ih0 _ _ _
      | exact LeO.none _
      | refine LeO.ite ?_ ?_
      | refine LeO.bind ?_ (fun _ => ?_)
theorem laws_eqIntS.mono : ∀ a0 a1 k, LeO (laws_eqIntS.f k a0 a1) (laws_eqIntS.f (k + 1) a0 a1) := by
  intro a0 a1 k
  have ih0 := laws_eqIntS.mono_l k
  unfold laws_eqIntS.f
  repeat' first
      | (with_reducible exact ih0 _ _ _)
      | (with_reducible exact LeO.refl _)
      | (with_reducible exact LeO.none _)
      | (with_reducible refine LeO.ite ?_ ?_)
      | (with_reducible refine LeO.bind ?_ (fun _ => ?_))
      | exact ih0 _ _ _
      | exact LeO.none _
      | refine LeO.ite ?_ ?_
      | refine LeO.bind ?_ (fun _ => ?_)
set_option maxHeartbeats 8000000 in
set_option maxRecDepth 100000 in
theorem laws_eqIntS.calls (k : Nat) (A0 : Option Addr) (c0 : Nat) (l0 : List Int) (A1 : Option Addr) (c1 : Nat) (l1 : List Int) (r : Bool) (w : World) (hr0 : Kd.C (Kd.int .i64) w A0 l0.length l0) (hc0 : l0.length ≤ c0) (hr1 : Kd.C (Kd.int .i64) w A1 l1.length l1) (hc1 : l1.length ≤ c1) (h : laws_eqIntS.f k l0 l1 = some r) :
    Calls Try.prog 30 #[.slice A0 l0.length c0, .slice A1 l1.length c1] w fun e w' => e = .returned (.bool r) ∧ Drawn0 w w' := by
  have HR0 := Aside0.mk hr0
  have HC0 := Aside0.mk hc0
  clear hr0 hc0
  have HR1 := Aside0.mk hr1
  have HC1 := Aside0.mk hc1
  clear hr1 hc1
  have H : (if (l0.length : Int) = (l1.length : Int) then (laws_eqIntS.l0 k l0 l1 0) else (some false)) = some r := h
  clear h
  by_cases c3 : (l0.length : Int) = (l1.length : Int)
  · rw [if_pos c3] at H
    have c3b0 : ((l0.length : Int) == (l1.length : Int)) = true := beq_iff_eq.mpr c3
    have c3b1 : ((l0.length : Int) != (l1.length : Int)) = false := bne_eq_false_iff_eq.mpr c3
    have c3b2 : (l0.length == l1.length) = true := by first | simpa using c3 | (simp at c3 ⊢; omega)
    clear c3
    have H' := Aside0.mk H
    clear H
    go_enter Try.func30, Try.ntmps30
    go_wp2
    repeat (go_quiet (fail); try go_wp2)
    go_loopg [5] k (fun kq v5 w' => ∃ (x5_1 : Int), v5 = .int .i64 x5_1 ∧ Aside0 (laws_eqIntS.l0 kq l0 l1 x5_1 = some r) ∧ Aside0 (kq ≤ k) ∧ Drawn0 w w')
    case atStart => exact ⟨(0), (by first | rfl | (simp; done) | (simp [*]; done)), H', ⟨Nat.le_refl _⟩, by repeat (first | exact Drawn0.refl _ | apply Drawn0.step)⟩
    case round =>
      clear H'
      try clear c1
      try clear p2
      try clear c3
      try clear c3b0
      try clear c3b1
      try clear c3b2
      obtain ⟨x5_1, rfl, HA, HK1, ⟨m1, rfl⟩⟩ := hrel
      cases gk with
      | zero => exact absurd HA.out (by simp [laws_eqIntS.l0])
      | succ k1 =>
        have H := HA.out
        clear HA
        simp only [laws_eqIntS.l0] at H
        by_cases c4 : x5_1 < (l0.length : Int)
        · rw [if_pos c4] at H
          have c4b0 : decide (x5_1 < (l0.length : Int)) = true := decide_eq_true c4
          clear c4
          by_cases c5 : 0 ≤ x5_1
          · rw [if_pos c5] at H
            have c5b0 : decide (0 ≤ x5_1) = true := decide_eq_true c5
            clear c5
            by_cases c6 : x5_1 < (l1.length : Int)
            · rw [if_pos c6] at H
              have c6b0 : decide (x5_1 < (l1.length : Int)) = true := decide_eq_true c6
              clear c6
              by_cases c7 : (rd l0 x5_1) = (rd l1 x5_1)
              · rw [if_pos c7] at H
                have c7b0 : ((rd l0 x5_1) == (rd l1 x5_1)) = true := beq_iff_eq.mpr c7
                have c7b1 : ((rd l0 x5_1) != (rd l1 x5_1)) = false := bne_eq_false_iff_eq.mpr c7
                clear c7
                have H' := Aside0.mk H
                clear H
                have p162 : 0 ≤ (x5_1 : Int) := of_decide_eq_true (by first | (with_reducible assumption) | assumption)
                have q162 : x5_1 < (l0.length : Int) := of_decide_eq_true (by first | (with_reducible assumption) | assumption)
                obtain ⟨ad162, e162, hx162_0⟩ := Kd.at_int HR0.out x5_1 p162 q162
                cases e162
                replace p162 := eq_true p162
                replace q162 := eq_true q162
                have p163 : 0 ≤ (x5_1 : Int) := of_decide_eq_true (by first | (with_reducible assumption) | assumption)
                have q163 : x5_1 < (l1.length : Int) := of_decide_eq_true (by first | (with_reducible assumption) | assumption)
                obtain ⟨ad163, e163, hx163_0⟩ := Kd.at_int HR1.out x5_1 p163 q163
                cases e163
                replace p163 := eq_true p163
                replace q163 := eq_true q163
                go_wp2
                repeat (go_quiet (fail); try go_wp2)
                go_roundg k1
                case measure => have := HK1.out; omega
                case rel => exact ⟨(wrap64 (x5_1 + 1)), (by first | rfl | (simp; done) | (simp [*]; done)), H', ⟨by have := HK1.out; omega⟩, by repeat (first | exact Drawn0.refl _ | apply Drawn0.step)⟩
              · rw [if_neg c7] at H
                have c7b0 : ((rd l0 x5_1) == (rd l1 x5_1)) = false := beq_eq_false_iff_ne.mpr c7
                have c7b1 : ((rd l0 x5_1) != (rd l1 x5_1)) = true := bne_iff_ne.mpr c7
                obtain rfl := Option.some.inj H
                have p162 : 0 ≤ (x5_1 : Int) := of_decide_eq_true (by first | (with_reducible assumption) | assumption)
                have q162 : x5_1 < (l0.length : Int) := of_decide_eq_true (by first | (with_reducible assumption) | assumption)
                obtain ⟨ad162, e162, hx162_0⟩ := Kd.at_int HR0.out x5_1 p162 q162
                cases e162
                replace p162 := eq_true p162
                replace q162 := eq_true q162
                have p163 : 0 ≤ (x5_1 : Int) := of_decide_eq_true (by first | (with_reducible assumption) | assumption)
                have q163 : x5_1 < (l1.length : Int) := of_decide_eq_true (by first | (with_reducible assumption) | assumption)
                obtain ⟨ad163, e163, hx163_0⟩ := Kd.at_int HR1.out x5_1 p163 q163
                cases e163
                replace p163 := eq_true p163
                replace q163 := eq_true q163
                go_wp2
                repeat (go_quiet (fail); try go_wp2)
                go_ret
                exact ⟨by first | rfl | (simp; done) | (simp [*]; done), by repeat (first | exact Drawn0.refl _ | apply Drawn0.step)⟩
            · rw [if_neg c6] at H
              exact absurd H (by simp)
          · rw [if_neg c5] at H
            exact absurd H (by simp)
        · rw [if_neg c4] at H
          have c4b0 : decide (x5_1 < (l0.length : Int)) = false := decide_eq_false c4
          clear c4
          obtain rfl := Option.some.inj H
          go_wp2
          repeat (go_quiet (fail); try go_wp2)
          go_ret
          exact ⟨by first | rfl | (simp; done) | (simp [*]; done), by repeat (first | exact Drawn0.refl _ | apply Drawn0.step)⟩
  · rw [if_neg c3] at H
    have c3b0 : ((l0.length : Int) == (l1.length : Int)) = false := beq_eq_false_iff_ne.mpr c3
    have c3b1 : ((l0.length : Int) != (l1.length : Int)) = true := bne_iff_ne.mpr c3
    have c3b2 : (l0.length == l1.length) = false := by first | simpa using c3 | (simp at c3 ⊢; omega)
    obtain rfl := Option.some.inj H
    go_enter Try.func30, Try.ntmps30
    go_wp2
    repeat (go_quiet (fail); try go_wp2)
    go_ret
    exact ⟨by first | rfl | (simp; done) | (simp [*]; done), by repeat (first | exact Drawn0.refl _ | apply Drawn0.step)⟩
end Go.Proofs.Ytijnfpfijgmopaa.Q

namespace Go.Proofs.Ytijnfpfijgmopaa.Q
open Go.RowKit Go.Proofs.YtijnfpfijgmopaaW.PrintWords Go.Proofs.YtijnfpfijgmopaaW.PrintLast Go.Proofs.YtijnfpfijgmopaaW.PrintMore
attribute [local go_sem] max2_int min2_int max_two min_two max_three min_three max_four min_four
set_option linter.unusedVariables false
set_option linter.unusedSimpArgs false
def laws_eqOp.f (k : Nat) (a0_0 : Int) (l0_1 : List Int) (a1_0 : Int) (l1_1 : List Int) : Option (Bool) := if a0_0 = a1_0 then ((laws_eqIntS.f k l0_1 l1_1).bind fun t166 => (if t166 = true then (some true) else (some false))) else (some false)
theorem laws_eqOp.mono : ∀ a0 a1 a2 a3 k, LeO (laws_eqOp.f k a0 a1 a2 a3) (laws_eqOp.f (k + 1) a0 a1 a2 a3) := by
  intro a0 a1 a2 a3 k
  unfold laws_eqOp.f
  repeat' first
      | (with_reducible exact laws_eqIntS.mono _ _ _)
      | (with_reducible exact LeO.refl _)
      | (with_reducible exact LeO.none _)
      | (with_reducible refine LeO.ite ?_ ?_)
      | (with_reducible refine LeO.bind ?_ (fun _ => ?_))
      | exact laws_eqIntS.mono _ _ _
      | exact LeO.none _
      | refine LeO.ite ?_ ?_
      | refine LeO.bind ?_ (fun _ => ?_)
set_option maxHeartbeats 8000000 in
set_option maxRecDepth 100000 in
theorem laws_eqOp.calls (k : Nat) (a0_0 : Int) (A0_1 : Option Addr) (c0_1 : Nat) (l0_1 : List Int) (a1_0 : Int) (A1_1 : Option Addr) (c1_1 : Nat) (l1_1 : List Int) (r : Bool) (w : World) (hr0_1 : Kd.C (Kd.int .i64) w A0_1 l0_1.length l0_1) (hc0_1 : l0_1.length ≤ c0_1) (hr1_1 : Kd.C (Kd.int .i64) w A1_1 l1_1.length l1_1) (hc1_1 : l1_1.length ≤ c1_1) (h : laws_eqOp.f k a0_0 l0_1 a1_0 l1_1 = some r) :
    Calls Try.prog 125 #[.agg #[.int .i64 a0_0, .slice A0_1 l0_1.length c0_1], .agg #[.int .i64 a1_0, .slice A1_1 l1_1.length c1_1]] w fun e w' => e = .returned (.bool r) ∧ Below w.heap.size w w' := by
  have hu87 := Try.underlying87
  have HR0_1 := Aside0.mk hr0_1
  have HC0_1 := Aside0.mk hc0_1
  clear hr0_1 hc0_1
  have HR1_1 := Aside0.mk hr1_1
  have HC1_1 := Aside0.mk hc1_1
  clear hr1_1 hc1_1
  have HB := Aside0.mk (Below.refl w.heap.size w)
  have H : (if a0_0 = a1_0 then ((laws_eqIntS.f k l0_1 l1_1).bind fun t166 => (if t166 = true then (some true) else (some false))) else (some false)) = some r := h
  clear h
  by_cases c3 : a0_0 = a1_0
  · rw [if_pos c3] at H
    have c3b0 : (a0_0 == a1_0) = true := beq_iff_eq.mpr c3
    have c3b1 : (a0_0 != a1_0) = false := bne_eq_false_iff_eq.mpr c3
    clear c3
    replace H := Option.bind_eq_some_iff.mp H
    obtain ⟨t166, A40, H⟩ := H
    replace H : (if t166 = true then (some true) else (some false)) = some r := H
    have A4 := Aside0.mk A40
    clear A40
    by_cases c5 : t166 = true
    · subst c5
      have H1 : (some true) = some r := by rw [if_pos rfl] at H; exact H
      clear H
      have H := H1
      clear H1
      obtain rfl := Option.some.inj H
      go_enter Try.func125, Try.ntmps125
      go_wp2_with (first | ((with_reducible refine gate_dst (N := 2) rfl ?_); refine box_event ?hg (N := 2) ?hd (cs := #[.int .i64 a0_0, .slice A0_1 l0_1.length c0_1]) (t := 87) ?hr ?_; (case hd => rfl); (case hg => rfl); (case hr => first | (go_simp; done) | (go_simp; rfl)); intro gb164 hg w6 hbox hb; have n0_ := Aside0.mk (below_step (by repeat (first | (with_reducible first | exact HB.out | apply below_alloc | apply pw_below_drewN | apply below_drew1) | exact HB.out)) hb); have n1_ := Aside0.mk (hbox); have n2_ := Aside0.mk ((by rw [hg]; exact (below_size (by repeat (first | (with_reducible first | exact HB.out | apply below_alloc | apply pw_below_drewN | apply below_drew1) | exact HB.out))) : w.heap.size ≤ gb164)); have n3_ := Aside0.mk ((by rw [hg]; exact (below_size (by repeat (first | (with_reducible first | exact HB.out | apply below_alloc | apply pw_below_drewN | apply below_drew1) | exact HB.out))) : w.heap.size ≤ gb164)); clear HB; have HB := n0_; have BK164 := n1_; have GW164 := n2_; have GE164 := n3_; clear n0_ n1_ n2_ n3_; clear hb hbox hg) | ((with_reducible refine gate_dst (N := 3) rfl ?_); refine box_event ?hg (N := 3) ?hd (cs := #[.int .i64 a1_0, .slice A1_1 l1_1.length c1_1]) (t := 87) ?hr ?_; (case hd => rfl); (case hg => rfl); (case hr => first | (go_simp; done) | (go_simp; rfl)); intro gb165 hg w7 hbox hb; have n0_ := Aside0.mk (blk_below (g := gb164) (o := .cells #[.int .i64 a0_0, .slice A0_1 l0_1.length c0_1] 87 (0, 0)) (by (with_reducible repeat (first | refine blk_drewN ?_ _ | refine blk_drew ?_ | refine blk_alloc ?_ _)); exact BK164.out) hb); have n1_ := Aside0.mk (below_step (by repeat (first | (with_reducible first | exact HB.out | apply below_alloc | apply pw_below_drewN | apply below_drew1 | refine below_set ?_ GE164.out) | exact HB.out)) hb); have n2_ := Aside0.mk (hbox); have n3_ := Aside0.mk ((by rw [hg]; exact (below_size (by repeat (first | (with_reducible first | exact HB.out | apply below_alloc | apply pw_below_drewN | apply below_drew1 | refine below_set ?_ GE164.out) | exact HB.out))) : w.heap.size ≤ gb165)); have n4_ := Aside0.mk ((by rw [hg]; exact (below_size (by repeat (first | (with_reducible first | exact HB.out | apply below_alloc | apply pw_below_drewN | apply below_drew1 | refine below_set ?_ GE164.out) | exact HB.out))) : w.heap.size ≤ gb165)); have n5_ := Aside0.mk ((by rw [hg]; exact Nat.ne_of_lt (blk_lt (g := gb164) (o := .cells #[.int .i64 a0_0, .slice A0_1 l0_1.length c0_1] 87 (0, 0)) (by (with_reducible repeat (first | refine blk_drewN ?_ _ | refine blk_drew ?_ | refine blk_alloc ?_ _)); exact BK164.out)) : gb164 ≠ gb165)); have n6_ := Aside0.mk ((by rw [hg]; exact Nat.ne_of_gt (blk_lt (g := gb164) (o := .cells #[.int .i64 a0_0, .slice A0_1 l0_1.length c0_1] 87 (0, 0)) (by (with_reducible repeat (first | refine blk_drewN ?_ _ | refine blk_drew ?_ | refine blk_alloc ?_ _)); exact BK164.out)) : gb165 ≠ gb164)); clear BK164; clear HB; have BK164 := n0_; have HB := n1_; have BK165 := n2_; have GW165 := n3_; have GE165 := n4_; have NB164_165 := n5_; have NB165_164 := n6_; clear n0_ n1_ n2_ n3_ n4_ n5_ n6_; clear hb hbox hg; have hnb8 := NB164_165.out; have hnc8 := NB165_164.out; have hcz9_0 : w7.cell? ⟨gb164, 0, none⟩ = some (.int .i64 a0_0) := (blk_cell BK164.out 0).trans rfl; have hcz9_1 : w7.cell? ⟨gb164, 1, none⟩ = some (.slice A0_1 l0_1.length c0_1) := (blk_cell BK164.out 1).trans rfl; have hfz9_0 := blk_frozen BK164.out 0; have hfz9_1 := blk_frozen BK164.out 1; have hcz10_0 : w7.cell? ⟨gb165, 0, none⟩ = some (.int .i64 a1_0) := (blk_cell BK165.out 0).trans rfl; have hcz10_1 : w7.cell? ⟨gb165, 1, none⟩ = some (.slice A1_1 l1_1.length c1_1) := (blk_cell BK165.out 1).trans rfl; have hfz10_0 := blk_frozen BK165.out 0; have hfz10_1 := blk_frozen BK165.out 1) | ((with_reducible refine gate_callee (f := 30) rfl ?_); refine goesL_ (some 14) rfl rfl Try.func30 (by kernel_rfl) rfl #[.slice A0_1 l0_1.length c0_1, .slice A1_1 l1_1.length c1_1] rfl (by (try simp only [List.map_toArray, List.map_cons, List.map_nil]); first | done | rfl | (simp only [List.length_drop, List.length_take]; rfl)) ?_; (with_reducible refine (laws_eqIntS.calls k _ _ l0_1 _ _ l1_1 true _ ?side1 ?side2 ?side3 ?side4 A4.out).mono ?_); (case side1 => repeat (first | exact (Kd.C_below HR0_1.out HB.out) | (with_reducible refine Kd.C_alloc ?_ _) | (with_reducible refine Kd.C_drewN ?_ _) | (with_reducible refine Kd.C_drew ?_))); (case side2 => exact HC0_1.out); (case side3 => repeat (first | exact (Kd.C_below HR1_1.out HB.out) | (with_reducible refine Kd.C_alloc ?_ _) | (with_reducible refine Kd.C_drewN ?_ _) | (with_reducible refine Kd.C_drew ?_))); (case side4 => exact HC1_1.out); rintro e w' ⟨rfl, ⟨nd, rfl⟩⟩; refine ⟨_, rfl, ?_⟩))
      go_ret
      exact ⟨by first | rfl | (simp [errW_none, errW_some] <;> rfl) | (simp [*, errW_none, errW_some] <;> rfl), by repeat (first | (with_reducible first | exact HB.out | apply below_alloc | apply pw_below_drewN | apply below_drew1 | refine below_set ?_ GE164.out | refine below_set ?_ GE165.out) | exact HB.out)⟩
    · replace c5 := Bool.eq_false_iff.mpr c5
      subst c5
      have H1 : (some false) = some r := by rw [if_neg (show ¬ (false = true) by decide)] at H; exact H
      clear H
      have H := H1
      clear H1
      obtain rfl := Option.some.inj H
      go_enter Try.func125, Try.ntmps125
      go_wp2_with (first | ((with_reducible refine gate_dst (N := 2) rfl ?_); refine box_event ?hg (N := 2) ?hd (cs := #[.int .i64 a0_0, .slice A0_1 l0_1.length c0_1]) (t := 87) ?hr ?_; (case hd => rfl); (case hg => rfl); (case hr => first | (go_simp; done) | (go_simp; rfl)); intro gb164 hg w11 hbox hb; have n0_ := Aside0.mk (below_step (by repeat (first | (with_reducible first | exact HB.out | apply below_alloc | apply pw_below_drewN | apply below_drew1) | exact HB.out)) hb); have n1_ := Aside0.mk (hbox); have n2_ := Aside0.mk ((by rw [hg]; exact (below_size (by repeat (first | (with_reducible first | exact HB.out | apply below_alloc | apply pw_below_drewN | apply below_drew1) | exact HB.out))) : w.heap.size ≤ gb164)); have n3_ := Aside0.mk ((by rw [hg]; exact (below_size (by repeat (first | (with_reducible first | exact HB.out | apply below_alloc | apply pw_below_drewN | apply below_drew1) | exact HB.out))) : w.heap.size ≤ gb164)); clear HB; have HB := n0_; have BK164 := n1_; have GW164 := n2_; have GE164 := n3_; clear n0_ n1_ n2_ n3_; clear hb hbox hg) | ((with_reducible refine gate_dst (N := 3) rfl ?_); refine box_event ?hg (N := 3) ?hd (cs := #[.int .i64 a1_0, .slice A1_1 l1_1.length c1_1]) (t := 87) ?hr ?_; (case hd => rfl); (case hg => rfl); (case hr => first | (go_simp; done) | (go_simp; rfl)); intro gb165 hg w12 hbox hb; have n0_ := Aside0.mk (blk_below (g := gb164) (o := .cells #[.int .i64 a0_0, .slice A0_1 l0_1.length c0_1] 87 (0, 0)) (by (with_reducible repeat (first | refine blk_drewN ?_ _ | refine blk_drew ?_ | refine blk_alloc ?_ _)); exact BK164.out) hb); have n1_ := Aside0.mk (below_step (by repeat (first | (with_reducible first | exact HB.out | apply below_alloc | apply pw_below_drewN | apply below_drew1 | refine below_set ?_ GE164.out) | exact HB.out)) hb); have n2_ := Aside0.mk (hbox); have n3_ := Aside0.mk ((by rw [hg]; exact (below_size (by repeat (first | (with_reducible first | exact HB.out | apply below_alloc | apply pw_below_drewN | apply below_drew1 | refine below_set ?_ GE164.out) | exact HB.out))) : w.heap.size ≤ gb165)); have n4_ := Aside0.mk ((by rw [hg]; exact (below_size (by repeat (first | (with_reducible first | exact HB.out | apply below_alloc | apply pw_below_drewN | apply below_drew1 | refine below_set ?_ GE164.out) | exact HB.out))) : w.heap.size ≤ gb165)); have n5_ := Aside0.mk ((by rw [hg]; exact Nat.ne_of_lt (blk_lt (g := gb164) (o := .cells #[.int .i64 a0_0, .slice A0_1 l0_1.length c0_1] 87 (0, 0)) (by (with_reducible repeat (first | refine blk_drewN ?_ _ | refine blk_drew ?_ | refine blk_alloc ?_ _)); exact BK164.out)) : gb164 ≠ gb165)); have n6_ := Aside0.mk ((by rw [hg]; exact Nat.ne_of_gt (blk_lt (g := gb164) (o := .cells #[.int .i64 a0_0, .slice A0_1 l0_1.length c0_1] 87 (0, 0)) (by (with_reducible repeat (first | refine blk_drewN ?_ _ | refine blk_drew ?_ | refine blk_alloc ?_ _)); exact BK164.out)) : gb165 ≠ gb164)); clear BK164; clear HB; have BK164 := n0_; have HB := n1_; have BK165 := n2_; have GW165 := n3_; have GE165 := n4_; have NB164_165 := n5_; have NB165_164 := n6_; clear n0_ n1_ n2_ n3_ n4_ n5_ n6_; clear hb hbox hg; have hnb13 := NB164_165.out; have hnc13 := NB165_164.out; have hcz14_0 : w12.cell? ⟨gb164, 0, none⟩ = some (.int .i64 a0_0) := (blk_cell BK164.out 0).trans rfl; have hcz14_1 : w12.cell? ⟨gb164, 1, none⟩ = some (.slice A0_1 l0_1.length c0_1) := (blk_cell BK164.out 1).trans rfl; have hfz14_0 := blk_frozen BK164.out 0; have hfz14_1 := blk_frozen BK164.out 1; have hcz15_0 : w12.cell? ⟨gb165, 0, none⟩ = some (.int .i64 a1_0) := (blk_cell BK165.out 0).trans rfl; have hcz15_1 : w12.cell? ⟨gb165, 1, none⟩ = some (.slice A1_1 l1_1.length c1_1) := (blk_cell BK165.out 1).trans rfl; have hfz15_0 := blk_frozen BK165.out 0; have hfz15_1 := blk_frozen BK165.out 1) | ((with_reducible refine gate_callee (f := 30) rfl ?_); refine goesL_ (some 14) rfl rfl Try.func30 (by kernel_rfl) rfl #[.slice A0_1 l0_1.length c0_1, .slice A1_1 l1_1.length c1_1] rfl (by (try simp only [List.map_toArray, List.map_cons, List.map_nil]); first | done | rfl | (simp only [List.length_drop, List.length_take]; rfl)) ?_; (with_reducible refine (laws_eqIntS.calls k _ _ l0_1 _ _ l1_1 false _ ?side1 ?side2 ?side3 ?side4 A4.out).mono ?_); (case side1 => repeat (first | exact (Kd.C_below HR0_1.out HB.out) | (with_reducible refine Kd.C_alloc ?_ _) | (with_reducible refine Kd.C_drewN ?_ _) | (with_reducible refine Kd.C_drew ?_))); (case side2 => exact HC0_1.out); (case side3 => repeat (first | exact (Kd.C_below HR1_1.out HB.out) | (with_reducible refine Kd.C_alloc ?_ _) | (with_reducible refine Kd.C_drewN ?_ _) | (with_reducible refine Kd.C_drew ?_))); (case side4 => exact HC1_1.out); rintro e w' ⟨rfl, ⟨nd, rfl⟩⟩; refine ⟨_, rfl, ?_⟩))
      go_ret
      exact ⟨by first | rfl | (simp [errW_none, errW_some] <;> rfl) | (simp [*, errW_none, errW_some] <;> rfl), by repeat (first | (with_reducible first | exact HB.out | apply below_alloc | apply pw_below_drewN | apply below_drew1 | refine below_set ?_ GE164.out | refine below_set ?_ GE165.out) | exact HB.out)⟩
  · rw [if_neg c3] at H
    have c3b0 : (a0_0 == a1_0) = false := beq_eq_false_iff_ne.mpr c3
    have c3b1 : (a0_0 != a1_0) = true := bne_iff_ne.mpr c3
    obtain rfl := Option.some.inj H
    go_enter Try.func125, Try.ntmps125
    go_wp2_with (first | ((with_reducible refine gate_dst (N := 2) rfl ?_); refine box_event ?hg (N := 2) ?hd (cs := #[.int .i64 a0_0, .slice A0_1 l0_1.length c0_1]) (t := 87) ?hr ?_; (case hd => rfl); (case hg => rfl); (case hr => first | (go_simp; done) | (go_simp; rfl)); intro gb164 hg w16 hbox hb; have n0_ := Aside0.mk (below_step (by repeat (first | (with_reducible first | exact HB.out | apply below_alloc | apply pw_below_drewN | apply below_drew1) | exact HB.out)) hb); have n1_ := Aside0.mk (hbox); have n2_ := Aside0.mk ((by rw [hg]; exact (below_size (by repeat (first | (with_reducible first | exact HB.out | apply below_alloc | apply pw_below_drewN | apply below_drew1) | exact HB.out))) : w.heap.size ≤ gb164)); have n3_ := Aside0.mk ((by rw [hg]; exact (below_size (by repeat (first | (with_reducible first | exact HB.out | apply below_alloc | apply pw_below_drewN | apply below_drew1) | exact HB.out))) : w.heap.size ≤ gb164)); clear HB; have HB := n0_; have BK164 := n1_; have GW164 := n2_; have GE164 := n3_; clear n0_ n1_ n2_ n3_; clear hb hbox hg) | ((with_reducible refine gate_dst (N := 3) rfl ?_); refine box_event ?hg (N := 3) ?hd (cs := #[.int .i64 a1_0, .slice A1_1 l1_1.length c1_1]) (t := 87) ?hr ?_; (case hd => rfl); (case hg => rfl); (case hr => first | (go_simp; done) | (go_simp; rfl)); intro gb165 hg w17 hbox hb; have n0_ := Aside0.mk (blk_below (g := gb164) (o := .cells #[.int .i64 a0_0, .slice A0_1 l0_1.length c0_1] 87 (0, 0)) (by (with_reducible repeat (first | refine blk_drewN ?_ _ | refine blk_drew ?_ | refine blk_alloc ?_ _)); exact BK164.out) hb); have n1_ := Aside0.mk (below_step (by repeat (first | (with_reducible first | exact HB.out | apply below_alloc | apply pw_below_drewN | apply below_drew1 | refine below_set ?_ GE164.out) | exact HB.out)) hb); have n2_ := Aside0.mk (hbox); have n3_ := Aside0.mk ((by rw [hg]; exact (below_size (by repeat (first | (with_reducible first | exact HB.out | apply below_alloc | apply pw_below_drewN | apply below_drew1 | refine below_set ?_ GE164.out) | exact HB.out))) : w.heap.size ≤ gb165)); have n4_ := Aside0.mk ((by rw [hg]; exact (below_size (by repeat (first | (with_reducible first | exact HB.out | apply below_alloc | apply pw_below_drewN | apply below_drew1 | refine below_set ?_ GE164.out) | exact HB.out))) : w.heap.size ≤ gb165)); have n5_ := Aside0.mk ((by rw [hg]; exact Nat.ne_of_lt (blk_lt (g := gb164) (o := .cells #[.int .i64 a0_0, .slice A0_1 l0_1.length c0_1] 87 (0, 0)) (by (with_reducible repeat (first | refine blk_drewN ?_ _ | refine blk_drew ?_ | refine blk_alloc ?_ _)); exact BK164.out)) : gb164 ≠ gb165)); have n6_ := Aside0.mk ((by rw [hg]; exact Nat.ne_of_gt (blk_lt (g := gb164) (o := .cells #[.int .i64 a0_0, .slice A0_1 l0_1.length c0_1] 87 (0, 0)) (by (with_reducible repeat (first | refine blk_drewN ?_ _ | refine blk_drew ?_ | refine blk_alloc ?_ _)); exact BK164.out)) : gb165 ≠ gb164)); clear BK164; clear HB; have BK164 := n0_; have HB := n1_; have BK165 := n2_; have GW165 := n3_; have GE165 := n4_; have NB164_165 := n5_; have NB165_164 := n6_; clear n0_ n1_ n2_ n3_ n4_ n5_ n6_; clear hb hbox hg; have hnb18 := NB164_165.out; have hnc18 := NB165_164.out; have hcz19_0 : w17.cell? ⟨gb164, 0, none⟩ = some (.int .i64 a0_0) := (blk_cell BK164.out 0).trans rfl; have hcz19_1 : w17.cell? ⟨gb164, 1, none⟩ = some (.slice A0_1 l0_1.length c0_1) := (blk_cell BK164.out 1).trans rfl; have hfz19_0 := blk_frozen BK164.out 0; have hfz19_1 := blk_frozen BK164.out 1; have hcz20_0 : w17.cell? ⟨gb165, 0, none⟩ = some (.int .i64 a1_0) := (blk_cell BK165.out 0).trans rfl; have hcz20_1 : w17.cell? ⟨gb165, 1, none⟩ = some (.slice A1_1 l1_1.length c1_1) := (blk_cell BK165.out 1).trans rfl; have hfz20_0 := blk_frozen BK165.out 0; have hfz20_1 := blk_frozen BK165.out 1))
    go_ret
    exact ⟨by first | rfl | (simp [errW_none, errW_some] <;> rfl) | (simp [*, errW_none, errW_some] <;> rfl), by repeat (first | (with_reducible first | exact HB.out | apply below_alloc | apply pw_below_drewN | apply below_drew1 | refine below_set ?_ GE164.out | refine below_set ?_ GE165.out) | exact HB.out)⟩
end Go.Proofs.Ytijnfpfijgmopaa.Q

namespace Go.Proofs.Ytijnfpfijgmopaa.Q
open Go.RowKit Go.Proofs.YtijnfpfijgmopaaW.PrintWords Go.Proofs.YtijnfpfijgmopaaW.PrintLast Go.Proofs.YtijnfpfijgmopaaW.PrintMore
attribute [local go_sem] max2_int min2_int max_two min_two max_three min_three max_four min_four
set_option linter.unusedVariables false
set_option linter.unusedSimpArgs false
def laws_eqOpS.l0 : Nat → List (S87) → List (S87) → Int → Option (Bool)
  | 0, _, _, _ => none
  | k + 1, x0, x1, x5 => if x5 < (x0.length : Int) then (if 0 ≤ x5 then (if x5 < (x1.length : Int) then ((laws_eqOp.f k ((rd_T87 x0 x5).f0) ((rd_T87 x0 x5).f1) ((rd_T87 x1 x5).f0) ((rd_T87 x1 x5).f1)).bind fun t169 => (if t169 = true then (laws_eqOpS.l0 k x0 x1 (wrap64 (x5 + 1))) else (some false))) else (none)) else (none)) else (some true)
def laws_eqOpS.f (k : Nat) (l0 : List (S87)) (l1 : List (S87)) : Option (Bool) := if (l0.length : Int) = (l1.length : Int) then (laws_eqOpS.l0 k l0 l1 0) else (some false)
theorem laws_eqOpS.mono_l : ∀ k, (∀ y0 y1 y2, LeO (laws_eqOpS.l0 k y0 y1 y2) (laws_eqOpS.l0 (k + 1) y0 y1 y2))
  | 0 => fun _ _ _ r h => by simp [laws_eqOpS.l0] at h
  | k + 1 => by
    have ih0 := laws_eqOpS.mono_l k
    · intro y0 y1 y2
      unfold laws_eqOpS.l0
      repeat' first
      | (with_reducible exact ih0 _ _ _)
      | (with_reducible exact laws_eqOp.mono _ _ _ _ _)
      | (with_reducible exact LeO.refl _)
      | (with_reducible exact LeO.none _)
      | (with_reducible refine LeO.ite ?_ ?_)
      | (with_reducible refine LeO.bind ?_ (fun _ => ?_))
      | exact ih0 _ _ _
      | exact laws_eqOp.mono _ _ _ _ _
      | exact LeO.none _
      | refine LeO.ite ?_ ?_
      | refine LeO.bind ?_ (fun _ => ?_)
theorem laws_eqOpS.mono : ∀ a0 a1 k, LeO (laws_eqOpS.f k a0 a1) (laws_eqOpS.f (k + 1) a0 a1) := by
  intro a0 a1 k
  have ih0 := laws_eqOpS.mono_l k
  unfold laws_eqOpS.f
  repeat' first
      | (with_reducible exact ih0 _ _ _)
      | (with_reducible exact laws_eqOp.mono _ _ _ _ _)
      | (with_reducible exact LeO.refl _)
      | (with_reducible exact LeO.none _)
      | (with_reducible refine LeO.ite ?_ ?_)
      | (with_reducible refine LeO.bind ?_ (fun _ => ?_))
      | exact ih0 _ _ _
      | exact laws_eqOp.mono _ _ _ _ _
      | exact LeO.none _
      | refine LeO.ite ?_ ?_
      | refine LeO.bind ?_ (fun _ => ?_)
def laws_eqOpS.T6 : Bool × List (List Nat × List Nat) := (true, [([], []), ([], []), ([0, 1], [0, 1]), ([2], [2]), ([], []), ([], []), ([4, 5], [4, 5]), ([6], [6]), ([3, 7], [3, 7]), ([8], [8])])
def laws_eqOpS.B6 : List Nat := [0, 0, 3, 7, 0, 0, 48, 112, 255, 511]
theorem laws_eqOpS.tab6 : rtab .any (opsOf Try.f59 6) = laws_eqOpS.T6 := by kernel_rfl
theorem laws_eqOpS.bits6 : waitsOk laws_eqOpS.T6.2 laws_eqOpS.B6 = true := by kernel_rfl
set_option maxHeartbeats 8000000 in
set_option maxRecDepth 100000 in
theorem laws_eqOpS.calls (k : Nat) (A0 : Option Addr) (c0 : Nat) (l0 : List (S87)) (A1 : Option Addr) (c1 : Nat) (l1 : List (S87)) (r : Bool) (w : World) (hr0 : Kd.C k87 w A0 l0.length l0) (hc0 : l0.length ≤ c0) (hr1 : Kd.C k87 w A1 l1.length l1) (hc1 : l1.length ≤ c1) (h : laws_eqOpS.f k l0 l1 = some r) :
    Calls Try.prog 59 #[.slice A0 l0.length c0, .slice A1 l1.length c1] w fun e w' => e = .returned (.bool r) ∧ Below w.heap.size w w' := by
  have hu87 := Try.underlying87
  have HR0 := Aside0.mk hr0
  have HC0 := Aside0.mk hc0
  clear hr0 hc0
  have HR1 := Aside0.mk hr1
  have HC1 := Aside0.mk hc1
  clear hr1 hc1
  have HB := Aside0.mk (Below.refl w.heap.size w)
  have H : (if (l0.length : Int) = (l1.length : Int) then (laws_eqOpS.l0 k l0 l1 0) else (some false)) = some r := h
  clear h
  by_cases c3 : (l0.length : Int) = (l1.length : Int)
  · rw [if_pos c3] at H
    have c3b0 : ((l0.length : Int) == (l1.length : Int)) = true := beq_iff_eq.mpr c3
    have c3b1 : ((l0.length : Int) != (l1.length : Int)) = false := bne_eq_false_iff_eq.mpr c3
    have c3b2 : (l0.length == l1.length) = true := by first | simpa using c3 | (simp at c3 ⊢; omega)
    clear c3
    have H' := Aside0.mk H
    clear H
    go_enter Try.func59, Try.ntmps59
    go_wp2
    go_loopg [5] k (fun kq v5 w' => ∃ (x5_1 : Int), v5 = .int .i64 x5_1 ∧ Aside0 (laws_eqOpS.l0 kq l0 l1 x5_1 = some r) ∧ Aside0 (kq ≤ k) ∧ Aside0 (Below w.heap.size w w'))
    case atStart => exact ⟨(0), (by first | rfl | (simp; done) | (simp [*]; done)), H', ⟨Nat.le_refl _⟩, ⟨by repeat (first | (with_reducible first | exact HB.out | apply below_alloc | apply pw_below_drewN | apply below_drew1) | exact HB.out)⟩⟩
    case round =>
      clear H'
      try clear c1
      try clear p2
      try clear c3
      try clear c3b0
      try clear c3b1
      try clear c3b2
      obtain ⟨x5_1, rfl, HA, HK1, HB⟩ := hrel
      cases gk with
      | zero => exact absurd HA.out (by simp [laws_eqOpS.l0])
      | succ k1 =>
        have H := HA.out
        clear HA
        simp only [laws_eqOpS.l0] at H
        by_cases c4 : x5_1 < (l0.length : Int)
        · rw [if_pos c4] at H
          have c4b0 : decide (x5_1 < (l0.length : Int)) = true := decide_eq_true c4
          clear c4
          by_cases c5 : 0 ≤ x5_1
          · rw [if_pos c5] at H
            have c5b0 : decide (0 ≤ x5_1) = true := decide_eq_true c5
            clear c5
            by_cases c6 : x5_1 < (l1.length : Int)
            · rw [if_pos c6] at H
              have c6b0 : decide (x5_1 < (l1.length : Int)) = true := decide_eq_true c6
              clear c6
              replace H := Option.bind_eq_some_iff.mp H
              obtain ⟨t169, A70, H⟩ := H
              replace H : (if t169 = true then (laws_eqOpS.l0 k1 l0 l1 (wrap64 (x5_1 + 1))) else (some false)) = some r := H
              have A7 := Aside0.mk A70
              clear A70
              by_cases c8 : t169 = true
              · subst c8
                have H1 : (laws_eqOpS.l0 k1 l0 l1 (wrap64 (x5_1 + 1))) = some r := by rw [if_pos rfl] at H; exact H
                clear H
                have H := H1
                clear H1
                have H' := Aside0.mk H
                clear H
                try go_wp2
                have n0_ := Aside0.mk (below_drew1 HB.out)
                clear HB
                have HB := n0_
                clear n0_
                have p167 : 0 ≤ (x5_1 : Int) := of_decide_eq_true (by first | (with_reducible assumption) | assumption)
                have q167 : x5_1 < (l0.length : Int) := of_decide_eq_true (by first | (with_reducible assumption) | assumption)
                obtain ⟨ad167, A167_1, c167_1, e167, hx167_0, hx167_1, hl167_1, hi167_1⟩ := at_T87 HR0.out x5_1 p167 q167
                have hw167_1 := hx167_1
                have hw167_0 := hx167_0
                cases e167
                replace hx167_0 := (HB.out.cell (World.block_lt_of_cell? w _ hx167_0)).trans hx167_0
                replace hx167_1 := (HB.out.cell (World.block_lt_of_cell? w _ hx167_1)).trans hx167_1
                have HR167_1 := Aside0.mk hi167_1
                have HC167_1 := Aside0.mk hl167_1
                clear hi167_1 hl167_1
                replace p167 := eq_true p167
                replace q167 := eq_true q167
                have p168 : 0 ≤ (x5_1 : Int) := of_decide_eq_true (by first | (with_reducible assumption) | assumption)
                have q168 : x5_1 < (l1.length : Int) := of_decide_eq_true (by first | (with_reducible assumption) | assumption)
                obtain ⟨ad168, A168_1, c168_1, e168, hx168_0, hx168_1, hl168_1, hi168_1⟩ := at_T87 HR1.out x5_1 p168 q168
                have hw168_1 := hx168_1
                have hw168_0 := hx168_0
                cases e168
                replace hx168_0 := (HB.out.cell (World.block_lt_of_cell? w _ hx168_0)).trans hx168_0
                replace hx168_1 := (HB.out.cell (World.block_lt_of_cell? w _ hx168_1)).trans hx168_1
                have HR168_1 := Aside0.mk hi168_1
                have HC168_1 := Aside0.mk hl168_1
                clear hi168_1 hl168_1
                replace p168 := eq_true p168
                replace q168 := eq_true q168
                refine start_ (n := 10) (S := fun w' => w'.cell? (ad167.add ((x5_1).toNat * 2)) = some (.int .i64 ((rd_T87 l0 x5_1).f0)) ∧ w'.cell? ⟨(ad167.add ((x5_1).toNat * 2)).block, (ad167.add ((x5_1).toNat * 2)).off + 1, none⟩ = some (.slice A167_1 ((rd_T87 l0 x5_1).f1).length c167_1) ∧ w'.cell? (ad168.add ((x5_1).toNat * 2)) = some (.int .i64 ((rd_T87 l1 x5_1).f0)) ∧ w'.cell? ⟨(ad168.add ((x5_1).toNat * 2)).block, (ad168.add ((x5_1).toNat * 2)).off + 1, none⟩ = some (.slice A168_1 ((rd_T87 l1 x5_1).f1).length c168_1)) (ds := []) #[false, false, false, false, false, false, false, false, false, false] (by kernel_rfl) rfl rfl ⟨((HB.out.cell (World.block_lt_of_cell? w _ hw167_0)).trans hw167_0), ((HB.out.cell (World.block_lt_of_cell? w _ hw167_1)).trans hw167_1), ((HB.out.cell (World.block_lt_of_cell? w _ hw168_0)).trans hw168_0), ((HB.out.cell (World.block_lt_of_cell? w _ hw168_1)).trans hw168_1)⟩ (fun hHeld => ?_); refine with_tabW laws_eqOpS.tab6 laws_eqOpS.bits6 (fun HT_ HW_ => ?_)
                generalize wr.drew = w9 at HB HR167_1 HR168_1 hx167_0 hx167_1 hx168_0 hx168_1 hHeld ⊢
                refine pure_ (i := 0) (N := some 17) (v := ?_) (a' := ?_) #[true, false, false, false, false, false, false, false, false, false] rfl rfl (any_of HT_.out (by kernel_rfl)) (fun _ _ _ h => h) (Or.inl ⟨by rfl, ?_⟩) ?_ ?_
                rotate_left
                · intro w'
                  go_simp
                  with_reducible rfl
                rotate_left
                · simp only [Act.put, List.setIfInBounds_toArray, List.set_cons_zero, List.set_cons_succ, i64_w, i32_w]
                  rfl
                refine pure_ (i := 1) (N := some 18) (v := ?_) (a' := ?_) #[true, true, false, false, false, false, false, false, false, false] rfl rfl (any_of HT_.out (by kernel_rfl)) (fun _ _ _ h => h) (Or.inl ⟨by rfl, ?_⟩) ?_ ?_
                rotate_left
                · intro w'
                  go_simp
                  with_reducible rfl
                rotate_left
                · simp only [Act.put, List.setIfInBounds_toArray, List.set_cons_zero, List.set_cons_succ, i64_w, i32_w]
                  rfl
                refine pure_ (i := 2) (N := some 19) (v := ?_) (a' := ?_) #[true, true, true, false, false, false, false, false, false, false] rfl rfl (any_of HT_.out (by kernel_rfl)) (fun _ _ _ h => h) (Or.inl ⟨by rfl, ?_⟩) ?_ ?_
                rotate_left
                · intro w'
                  go_simp
                  with_reducible rfl
                rotate_left
                · simp only [Act.put, List.setIfInBounds_toArray, List.set_cons_zero, List.set_cons_succ, i64_w, i32_w]
                  rfl
                refine pure_ (i := 4) (N := some 21) (v := ?_) (a' := ?_) #[true, true, true, false, true, false, false, false, false, false] rfl rfl (any_of HT_.out (by kernel_rfl)) (fun _ _ _ h => h) (Or.inl ⟨by rfl, ?_⟩) ?_ ?_
                rotate_left
                · intro w'
                  go_simp
                  with_reducible rfl
                rotate_left
                · simp only [Act.put, List.setIfInBounds_toArray, List.set_cons_zero, List.set_cons_succ, i64_w, i32_w]
                  rfl
                refine pure_ (i := 5) (N := some 22) (v := ?_) (a' := ?_) #[true, true, true, false, true, true, false, false, false, false] rfl rfl (any_of HT_.out (by kernel_rfl)) (fun _ _ _ h => h) (Or.inl ⟨by rfl, ?_⟩) ?_ ?_
                rotate_left
                · intro w'
                  go_simp
                  with_reducible rfl
                rotate_left
                · simp only [Act.put, List.setIfInBounds_toArray, List.set_cons_zero, List.set_cons_succ, i64_w, i32_w]
                  rfl
                refine pure_ (i := 6) (N := some 23) (v := ?_) (a' := ?_) #[true, true, true, false, true, true, true, false, false, false] rfl rfl (any_of HT_.out (by kernel_rfl)) (fun _ _ _ h => h) (Or.inl ⟨by rfl, ?_⟩) ?_ ?_
                rotate_left
                · intro w'
                  go_simp
                  with_reducible rfl
                rotate_left
                · simp only [Act.put, List.setIfInBounds_toArray, List.set_cons_zero, List.set_cons_succ, i64_w, i32_w]
                  rfl
                refine take_ (i := 3) (N := some 20) (v := ?_) (a' := ?_) #[true, true, true, true, true, true, true, false, false, false] rfl rfl (take_ofW HT_.out HW_.out (by kernel_rfl)) (fun _ _ _ h => h) (Or.inl ⟨by rfl, ?_⟩) hHeld ?_ ?_
                rotate_left
                · rintro w' ⟨s0, s1, s2, s3⟩
                  go_simp
                  with_reducible rfl
                rotate_left
                · simp only [Act.put, List.setIfInBounds_toArray, List.set_cons_zero, List.set_cons_succ, i64_w, i32_w]
                  rfl
                refine take_ (i := 7) (N := some 24) (v := ?_) (a' := ?_) #[true, true, true, true, true, true, true, true, false, false] rfl rfl (take_ofW HT_.out HW_.out (by kernel_rfl)) (fun _ _ _ h => h) (Or.inl ⟨by rfl, ?_⟩) hHeld ?_ ?_
                rotate_left
                · rintro w' ⟨s0, s1, s2, s3⟩
                  go_simp
                  with_reducible rfl
                rotate_left
                · simp only [Act.put, List.setIfInBounds_toArray, List.set_cons_zero, List.set_cons_succ, i64_w, i32_w]
                  rfl
                refine one_ (i := 8) (N := some 25) #[true, true, true, true, true, true, true, true, true, false] rfl rfl (one_of HT_.out (by kernel_rfl)) (by decide) (fun K hK => ?_)
                refine goes_ Try.func125 (by kernel_rfl) rfl #[.agg #[.int .i64 ((rd_T87 l0 x5_1).f0), .slice A167_1 ((rd_T87 l0 x5_1).f1).length c167_1], .agg #[.int .i64 ((rd_T87 l1 x5_1).f0), .slice A168_1 ((rd_T87 l1 x5_1).f1).length c168_1]] (by rfl) rfl rfl (by (try simp only [List.map_toArray, List.map_cons, List.map_nil]); first | done | rfl | (simp only [List.length_drop, List.length_take]; rfl)) ?_
                with_reducible refine (laws_eqOp.calls k1 ((rd_T87 l0 x5_1).f0) _ _ ((rd_T87 l0 x5_1).f1) ((rd_T87 l1 x5_1).f0) _ _ ((rd_T87 l1 x5_1).f1) true _ ?side1 ?side2 ?side3 ?side4 A7.out).mono ?_
                (case side1 => repeat (first | exact (Kd.C_below HR167_1.out HB.out) | (with_reducible refine Kd.C_alloc ?_ _) | (with_reducible refine Kd.C_drewN ?_ _) | (with_reducible refine Kd.C_drew ?_)))
                (case side2 => exact HC167_1.out)
                (case side3 => repeat (first | exact (Kd.C_below HR168_1.out HB.out) | (with_reducible refine Kd.C_alloc ?_ _) | (with_reducible refine Kd.C_drewN ?_ _) | (with_reducible refine Kd.C_drew ?_)))
                (case side4 => exact HC168_1.out)
                rintro e w10 ⟨rfl, hb⟩
                refine ⟨_, rfl, ?_⟩
                have n0_ := Aside0.mk (below_step (by repeat (first | (with_reducible first | exact HB.out | apply below_alloc | apply pw_below_drewN | apply below_drew1) | exact HB.out)) hb)
                clear HB
                have HB := n0_
                clear n0_
                (try clear hb)
                (try clear hb2)
                (try clear hk)
                (try clear hi)
                refine hK.out _ _ ⟨((HB.out.cell (World.block_lt_of_cell? w _ hw167_0)).trans hw167_0), ((HB.out.cell (World.block_lt_of_cell? w _ hw167_1)).trans hw167_1), ((HB.out.cell (World.block_lt_of_cell? w _ hw168_0)).trans hw168_0), ((HB.out.cell (World.block_lt_of_cell? w _ hw168_1)).trans hw168_1)⟩ (fun hHeld => ?_)
                clear hK K
                refine norm_ (a' := ?_) ?_ ?_
                rotate_left
                · show Act.put _ (some 25) _ = _
                  simp only [Act.put, List.setIfInBounds_toArray, List.set_cons_zero, List.set_cons_succ, i64_w, i32_w]
                  rfl
                refine pure_ (i := 9) (N := some 26) (v := ?_) (a' := ?_) #[true, true, true, true, true, true, true, true, true, true] rfl rfl (any_of HT_.out (by kernel_rfl)) (fun _ _ _ h => h) (Or.inl ⟨by rfl, ?_⟩) ?_ ?_
                rotate_left
                · intro w'
                  go_simp
                  with_reducible rfl
                rotate_left
                · simp only [Act.put, List.setIfInBounds_toArray, List.set_cons_zero, List.set_cons_succ, i64_w, i32_w]
                  rfl
                refine done_ (done_of HT_.out (by kernel_rfl)) ?_
                try go_wp2
                go_roundg k1
                case measure => have := HK1.out; omega
                case rel => exact ⟨(wrap64 (x5_1 + 1)), (by first | rfl | (simp; done) | (simp [*]; done)), H', ⟨by have := HK1.out; omega⟩, ⟨by repeat (first | (with_reducible first | exact HB.out | apply below_alloc | apply pw_below_drewN | apply below_drew1) | exact HB.out)⟩⟩
              · replace c8 := Bool.eq_false_iff.mpr c8
                subst c8
                have H1 : (some false) = some r := by rw [if_neg (show ¬ (false = true) by decide)] at H; exact H
                clear H
                have H := H1
                clear H1
                obtain rfl := Option.some.inj H
                try go_wp2
                have n0_ := Aside0.mk (below_drew1 HB.out)
                clear HB
                have HB := n0_
                clear n0_
                have p167 : 0 ≤ (x5_1 : Int) := of_decide_eq_true (by first | (with_reducible assumption) | assumption)
                have q167 : x5_1 < (l0.length : Int) := of_decide_eq_true (by first | (with_reducible assumption) | assumption)
                obtain ⟨ad167, A167_1, c167_1, e167, hx167_0, hx167_1, hl167_1, hi167_1⟩ := at_T87 HR0.out x5_1 p167 q167
                have hw167_1 := hx167_1
                have hw167_0 := hx167_0
                cases e167
                replace hx167_0 := (HB.out.cell (World.block_lt_of_cell? w _ hx167_0)).trans hx167_0
                replace hx167_1 := (HB.out.cell (World.block_lt_of_cell? w _ hx167_1)).trans hx167_1
                have HR167_1 := Aside0.mk hi167_1
                have HC167_1 := Aside0.mk hl167_1
                clear hi167_1 hl167_1
                replace p167 := eq_true p167
                replace q167 := eq_true q167
                have p168 : 0 ≤ (x5_1 : Int) := of_decide_eq_true (by first | (with_reducible assumption) | assumption)
                have q168 : x5_1 < (l1.length : Int) := of_decide_eq_true (by first | (with_reducible assumption) | assumption)
                obtain ⟨ad168, A168_1, c168_1, e168, hx168_0, hx168_1, hl168_1, hi168_1⟩ := at_T87 HR1.out x5_1 p168 q168
                have hw168_1 := hx168_1
                have hw168_0 := hx168_0
                cases e168
                replace hx168_0 := (HB.out.cell (World.block_lt_of_cell? w _ hx168_0)).trans hx168_0
                replace hx168_1 := (HB.out.cell (World.block_lt_of_cell? w _ hx168_1)).trans hx168_1
                have HR168_1 := Aside0.mk hi168_1
                have HC168_1 := Aside0.mk hl168_1
                clear hi168_1 hl168_1
                replace p168 := eq_true p168
                replace q168 := eq_true q168
                refine start_ (n := 10) (S := fun w' => w'.cell? (ad167.add ((x5_1).toNat * 2)) = some (.int .i64 ((rd_T87 l0 x5_1).f0)) ∧ w'.cell? ⟨(ad167.add ((x5_1).toNat * 2)).block, (ad167.add ((x5_1).toNat * 2)).off + 1, none⟩ = some (.slice A167_1 ((rd_T87 l0 x5_1).f1).length c167_1) ∧ w'.cell? (ad168.add ((x5_1).toNat * 2)) = some (.int .i64 ((rd_T87 l1 x5_1).f0)) ∧ w'.cell? ⟨(ad168.add ((x5_1).toNat * 2)).block, (ad168.add ((x5_1).toNat * 2)).off + 1, none⟩ = some (.slice A168_1 ((rd_T87 l1 x5_1).f1).length c168_1)) (ds := []) #[false, false, false, false, false, false, false, false, false, false] (by kernel_rfl) rfl rfl ⟨((HB.out.cell (World.block_lt_of_cell? w _ hw167_0)).trans hw167_0), ((HB.out.cell (World.block_lt_of_cell? w _ hw167_1)).trans hw167_1), ((HB.out.cell (World.block_lt_of_cell? w _ hw168_0)).trans hw168_0), ((HB.out.cell (World.block_lt_of_cell? w _ hw168_1)).trans hw168_1)⟩ (fun hHeld => ?_); refine with_tabW laws_eqOpS.tab6 laws_eqOpS.bits6 (fun HT_ HW_ => ?_)
                generalize wr.drew = w11 at HB HR167_1 HR168_1 hx167_0 hx167_1 hx168_0 hx168_1 hHeld ⊢
                refine pure_ (i := 0) (N := some 17) (v := ?_) (a' := ?_) #[true, false, false, false, false, false, false, false, false, false] rfl rfl (any_of HT_.out (by kernel_rfl)) (fun _ _ _ h => h) (Or.inl ⟨by rfl, ?_⟩) ?_ ?_
                rotate_left
                · intro w'
                  go_simp
                  with_reducible rfl
                rotate_left
                · simp only [Act.put, List.setIfInBounds_toArray, List.set_cons_zero, List.set_cons_succ, i64_w, i32_w]
                  rfl
                refine pure_ (i := 1) (N := some 18) (v := ?_) (a' := ?_) #[true, true, false, false, false, false, false, false, false, false] rfl rfl (any_of HT_.out (by kernel_rfl)) (fun _ _ _ h => h) (Or.inl ⟨by rfl, ?_⟩) ?_ ?_
                rotate_left
                · intro w'
                  go_simp
                  with_reducible rfl
                rotate_left
                · simp only [Act.put, List.setIfInBounds_toArray, List.set_cons_zero, List.set_cons_succ, i64_w, i32_w]
                  rfl
                refine pure_ (i := 2) (N := some 19) (v := ?_) (a' := ?_) #[true, true, true, false, false, false, false, false, false, false] rfl rfl (any_of HT_.out (by kernel_rfl)) (fun _ _ _ h => h) (Or.inl ⟨by rfl, ?_⟩) ?_ ?_
                rotate_left
                · intro w'
                  go_simp
                  with_reducible rfl
                rotate_left
                · simp only [Act.put, List.setIfInBounds_toArray, List.set_cons_zero, List.set_cons_succ, i64_w, i32_w]
                  rfl
                refine pure_ (i := 4) (N := some 21) (v := ?_) (a' := ?_) #[true, true, true, false, true, false, false, false, false, false] rfl rfl (any_of HT_.out (by kernel_rfl)) (fun _ _ _ h => h) (Or.inl ⟨by rfl, ?_⟩) ?_ ?_
                rotate_left
                · intro w'
                  go_simp
                  with_reducible rfl
                rotate_left
                · simp only [Act.put, List.setIfInBounds_toArray, List.set_cons_zero, List.set_cons_succ, i64_w, i32_w]
                  rfl
                refine pure_ (i := 5) (N := some 22) (v := ?_) (a' := ?_) #[true, true, true, false, true, true, false, false, false, false] rfl rfl (any_of HT_.out (by kernel_rfl)) (fun _ _ _ h => h) (Or.inl ⟨by rfl, ?_⟩) ?_ ?_
                rotate_left
                · intro w'
                  go_simp
                  with_reducible rfl
                rotate_left
                · simp only [Act.put, List.setIfInBounds_toArray, List.set_cons_zero, List.set_cons_succ, i64_w, i32_w]
                  rfl
                refine pure_ (i := 6) (N := some 23) (v := ?_) (a' := ?_) #[true, true, true, false, true, true, true, false, false, false] rfl rfl (any_of HT_.out (by kernel_rfl)) (fun _ _ _ h => h) (Or.inl ⟨by rfl, ?_⟩) ?_ ?_
                rotate_left
                · intro w'
                  go_simp
                  with_reducible rfl
                rotate_left
                · simp only [Act.put, List.setIfInBounds_toArray, List.set_cons_zero, List.set_cons_succ, i64_w, i32_w]
                  rfl
                refine take_ (i := 3) (N := some 20) (v := ?_) (a' := ?_) #[true, true, true, true, true, true, true, false, false, false] rfl rfl (take_ofW HT_.out HW_.out (by kernel_rfl)) (fun _ _ _ h => h) (Or.inl ⟨by rfl, ?_⟩) hHeld ?_ ?_
                rotate_left
                · rintro w' ⟨s0, s1, s2, s3⟩
                  go_simp
                  with_reducible rfl
                rotate_left
                · simp only [Act.put, List.setIfInBounds_toArray, List.set_cons_zero, List.set_cons_succ, i64_w, i32_w]
                  rfl
                refine take_ (i := 7) (N := some 24) (v := ?_) (a' := ?_) #[true, true, true, true, true, true, true, true, false, false] rfl rfl (take_ofW HT_.out HW_.out (by kernel_rfl)) (fun _ _ _ h => h) (Or.inl ⟨by rfl, ?_⟩) hHeld ?_ ?_
                rotate_left
                · rintro w' ⟨s0, s1, s2, s3⟩
                  go_simp
                  with_reducible rfl
                rotate_left
                · simp only [Act.put, List.setIfInBounds_toArray, List.set_cons_zero, List.set_cons_succ, i64_w, i32_w]
                  rfl
                refine one_ (i := 8) (N := some 25) #[true, true, true, true, true, true, true, true, true, false] rfl rfl (one_of HT_.out (by kernel_rfl)) (by decide) (fun K hK => ?_)
                refine goes_ Try.func125 (by kernel_rfl) rfl #[.agg #[.int .i64 ((rd_T87 l0 x5_1).f0), .slice A167_1 ((rd_T87 l0 x5_1).f1).length c167_1], .agg #[.int .i64 ((rd_T87 l1 x5_1).f0), .slice A168_1 ((rd_T87 l1 x5_1).f1).length c168_1]] (by rfl) rfl rfl (by (try simp only [List.map_toArray, List.map_cons, List.map_nil]); first | done | rfl | (simp only [List.length_drop, List.length_take]; rfl)) ?_
                with_reducible refine (laws_eqOp.calls k1 ((rd_T87 l0 x5_1).f0) _ _ ((rd_T87 l0 x5_1).f1) ((rd_T87 l1 x5_1).f0) _ _ ((rd_T87 l1 x5_1).f1) false _ ?side1 ?side2 ?side3 ?side4 A7.out).mono ?_
                (case side1 => repeat (first | exact (Kd.C_below HR167_1.out HB.out) | (with_reducible refine Kd.C_alloc ?_ _) | (with_reducible refine Kd.C_drewN ?_ _) | (with_reducible refine Kd.C_drew ?_)))
                (case side2 => exact HC167_1.out)
                (case side3 => repeat (first | exact (Kd.C_below HR168_1.out HB.out) | (with_reducible refine Kd.C_alloc ?_ _) | (with_reducible refine Kd.C_drewN ?_ _) | (with_reducible refine Kd.C_drew ?_)))
                (case side4 => exact HC168_1.out)
                rintro e w12 ⟨rfl, hb⟩
                refine ⟨_, rfl, ?_⟩
                have n0_ := Aside0.mk (below_step (by repeat (first | (with_reducible first | exact HB.out | apply below_alloc | apply pw_below_drewN | apply below_drew1) | exact HB.out)) hb)
                clear HB
                have HB := n0_
                clear n0_
                (try clear hb)
                (try clear hb2)
                (try clear hk)
                (try clear hi)
                refine hK.out _ _ ⟨((HB.out.cell (World.block_lt_of_cell? w _ hw167_0)).trans hw167_0), ((HB.out.cell (World.block_lt_of_cell? w _ hw167_1)).trans hw167_1), ((HB.out.cell (World.block_lt_of_cell? w _ hw168_0)).trans hw168_0), ((HB.out.cell (World.block_lt_of_cell? w _ hw168_1)).trans hw168_1)⟩ (fun hHeld => ?_)
                clear hK K
                refine norm_ (a' := ?_) ?_ ?_
                rotate_left
                · show Act.put _ (some 25) _ = _
                  simp only [Act.put, List.setIfInBounds_toArray, List.set_cons_zero, List.set_cons_succ, i64_w, i32_w]
                  rfl
                refine pure_ (i := 9) (N := some 26) (v := ?_) (a' := ?_) #[true, true, true, true, true, true, true, true, true, true] rfl rfl (any_of HT_.out (by kernel_rfl)) (fun _ _ _ h => h) (Or.inl ⟨by rfl, ?_⟩) ?_ ?_
                rotate_left
                · intro w'
                  go_simp
                  with_reducible rfl
                rotate_left
                · simp only [Act.put, List.setIfInBounds_toArray, List.set_cons_zero, List.set_cons_succ, i64_w, i32_w]
                  rfl
                refine done_ (done_of HT_.out (by kernel_rfl)) ?_
                try go_wp2
                go_ret
                exact ⟨by first | rfl | (simp [errW_none, errW_some] <;> rfl) | (simp [*, errW_none, errW_some] <;> rfl), by repeat (first | (with_reducible first | exact HB.out | apply below_alloc | apply pw_below_drewN | apply below_drew1) | exact HB.out)⟩
            · rw [if_neg c6] at H
              exact absurd H (by simp)
          · rw [if_neg c5] at H
            exact absurd H (by simp)
        · rw [if_neg c4] at H
          have c4b0 : decide (x5_1 < (l0.length : Int)) = false := decide_eq_false c4
          clear c4
          obtain rfl := Option.some.inj H
          go_wp2
          go_ret
          exact ⟨by first | rfl | (simp [errW_none, errW_some] <;> rfl) | (simp [*, errW_none, errW_some] <;> rfl), by repeat (first | (with_reducible first | exact HB.out | apply below_alloc | apply pw_below_drewN | apply below_drew1) | exact HB.out)⟩
  · rw [if_neg c3] at H
    have c3b0 : ((l0.length : Int) == (l1.length : Int)) = false := beq_eq_false_iff_ne.mpr c3
    have c3b1 : ((l0.length : Int) != (l1.length : Int)) = true := bne_iff_ne.mpr c3
    have c3b2 : (l0.length == l1.length) = false := by first | simpa using c3 | (simp at c3 ⊢; omega)
    obtain rfl := Option.some.inj H
    go_enter Try.func59, Try.ntmps59
    go_wp2
    go_ret
    exact ⟨by first | rfl | (simp [errW_none, errW_some] <;> rfl) | (simp [*, errW_none, errW_some] <;> rfl), by repeat (first | (with_reducible first | exact HB.out | apply below_alloc | apply pw_below_drewN | apply below_drew1) | exact HB.out)⟩
end Go.Proofs.Ytijnfpfijgmopaa.Q

namespace Go.Proofs.Ytijnfpfijgmopaa.Q
open Go.RowKit Go.Proofs.YtijnfpfijgmopaaW.PrintWords Go.Proofs.YtijnfpfijgmopaaW.PrintLast Go.Proofs.YtijnfpfijgmopaaW.PrintMore
attribute [local go_sem] max2_int min2_int max_two min_two max_three min_three max_four min_four
set_option linter.unusedVariables false
set_option linter.unusedSimpArgs false
def laws_eqAlgebra.f (k : Nat) (a0_0 : Int) (l0_1 : List (S87)) (a1_0 : Int) (l1_1 : List (S87)) : Option (Bool) := if a0_0 = a1_0 then ((laws_eqOpS.f k l0_1 l1_1).bind fun t172 => (if t172 = true then (some true) else (some false))) else (some false)
theorem laws_eqAlgebra.mono : ∀ a0 a1 a2 a3 k, LeO (laws_eqAlgebra.f k a0 a1 a2 a3) (laws_eqAlgebra.f (k + 1) a0 a1 a2 a3) := by
  intro a0 a1 a2 a3 k
  unfold laws_eqAlgebra.f
  repeat' first
      | (with_reducible exact laws_eqOpS.mono _ _ _)
      | (with_reducible exact LeO.refl _)
      | (with_reducible exact LeO.none _)
      | (with_reducible refine LeO.ite ?_ ?_)
      | (with_reducible refine LeO.bind ?_ (fun _ => ?_))
      | exact laws_eqOpS.mono _ _ _
      | exact LeO.none _
      | refine LeO.ite ?_ ?_
      | refine LeO.bind ?_ (fun _ => ?_)
set_option maxHeartbeats 8000000 in
set_option maxRecDepth 100000 in
theorem laws_eqAlgebra.calls (k : Nat) (a0_0 : Int) (A0_1 : Option Addr) (c0_1 : Nat) (l0_1 : List (S87)) (a1_0 : Int) (A1_1 : Option Addr) (c1_1 : Nat) (l1_1 : List (S87)) (r : Bool) (w : World) (hr0_1 : Kd.C k87 w A0_1 l0_1.length l0_1) (hc0_1 : l0_1.length ≤ c0_1) (hr1_1 : Kd.C k87 w A1_1 l1_1.length l1_1) (hc1_1 : l1_1.length ≤ c1_1) (h : laws_eqAlgebra.f k a0_0 l0_1 a1_0 l1_1 = some r) :
    Calls Try.prog 19 #[.agg #[.int .i64 a0_0, .slice A0_1 l0_1.length c0_1], .agg #[.int .i64 a1_0, .slice A1_1 l1_1.length c1_1]] w fun e w' => e = .returned (.bool r) ∧ Below w.heap.size w w' := by
  have hu30 := Try.underlying30
  have HR0_1 := Aside0.mk hr0_1
  have HC0_1 := Aside0.mk hc0_1
  clear hr0_1 hc0_1
  have HR1_1 := Aside0.mk hr1_1
  have HC1_1 := Aside0.mk hc1_1
  clear hr1_1 hc1_1
  have HB := Aside0.mk (Below.refl w.heap.size w)
  have H : (if a0_0 = a1_0 then ((laws_eqOpS.f k l0_1 l1_1).bind fun t172 => (if t172 = true then (some true) else (some false))) else (some false)) = some r := h
  clear h
  by_cases c3 : a0_0 = a1_0
  · rw [if_pos c3] at H
    have c3b0 : (a0_0 == a1_0) = true := beq_iff_eq.mpr c3
    have c3b1 : (a0_0 != a1_0) = false := bne_eq_false_iff_eq.mpr c3
    clear c3
    replace H := Option.bind_eq_some_iff.mp H
    obtain ⟨t172, A40, H⟩ := H
    replace H : (if t172 = true then (some true) else (some false)) = some r := H
    have A4 := Aside0.mk A40
    clear A40
    by_cases c5 : t172 = true
    · subst c5
      have H1 : (some true) = some r := by rw [if_pos rfl] at H; exact H
      clear H
      have H := H1
      clear H1
      obtain rfl := Option.some.inj H
      go_enter Try.func19, Try.ntmps19
      go_wp2_with (first | ((with_reducible refine gate_dst (N := 2) rfl ?_); refine box_event ?hg (N := 2) ?hd (cs := #[.int .i64 a0_0, .slice A0_1 l0_1.length c0_1]) (t := 30) ?hr ?_; (case hd => rfl); (case hg => rfl); (case hr => first | (go_simp; done) | (go_simp; rfl)); intro gb170 hg w6 hbox hb; have n0_ := Aside0.mk (below_step (by repeat (first | (with_reducible first | exact HB.out | apply below_alloc | apply pw_below_drewN | apply below_drew1) | exact HB.out)) hb); have n1_ := Aside0.mk (hbox); have n2_ := Aside0.mk ((by rw [hg]; exact (below_size (by repeat (first | (with_reducible first | exact HB.out | apply below_alloc | apply pw_below_drewN | apply below_drew1) | exact HB.out))) : w.heap.size ≤ gb170)); have n3_ := Aside0.mk ((by rw [hg]; exact (below_size (by repeat (first | (with_reducible first | exact HB.out | apply below_alloc | apply pw_below_drewN | apply below_drew1) | exact HB.out))) : w.heap.size ≤ gb170)); clear HB; have HB := n0_; have BK170 := n1_; have GW170 := n2_; have GE170 := n3_; clear n0_ n1_ n2_ n3_; clear hb hbox hg) | ((with_reducible refine gate_dst (N := 3) rfl ?_); refine box_event ?hg (N := 3) ?hd (cs := #[.int .i64 a1_0, .slice A1_1 l1_1.length c1_1]) (t := 30) ?hr ?_; (case hd => rfl); (case hg => rfl); (case hr => first | (go_simp; done) | (go_simp; rfl)); intro gb171 hg w7 hbox hb; have n0_ := Aside0.mk (blk_below (g := gb170) (o := .cells #[.int .i64 a0_0, .slice A0_1 l0_1.length c0_1] 30 (0, 0)) (by (with_reducible repeat (first | refine blk_drewN ?_ _ | refine blk_drew ?_ | refine blk_alloc ?_ _)); exact BK170.out) hb); have n1_ := Aside0.mk (below_step (by repeat (first | (with_reducible first | exact HB.out | apply below_alloc | apply pw_below_drewN | apply below_drew1 | refine below_set ?_ GE170.out) | exact HB.out)) hb); have n2_ := Aside0.mk (hbox); have n3_ := Aside0.mk ((by rw [hg]; exact (below_size (by repeat (first | (with_reducible first | exact HB.out | apply below_alloc | apply pw_below_drewN | apply below_drew1 | refine below_set ?_ GE170.out) | exact HB.out))) : w.heap.size ≤ gb171)); have n4_ := Aside0.mk ((by rw [hg]; exact (below_size (by repeat (first | (with_reducible first | exact HB.out | apply below_alloc | apply pw_below_drewN | apply below_drew1 | refine below_set ?_ GE170.out) | exact HB.out))) : w.heap.size ≤ gb171)); have n5_ := Aside0.mk ((by rw [hg]; exact Nat.ne_of_lt (blk_lt (g := gb170) (o := .cells #[.int .i64 a0_0, .slice A0_1 l0_1.length c0_1] 30 (0, 0)) (by (with_reducible repeat (first | refine blk_drewN ?_ _ | refine blk_drew ?_ | refine blk_alloc ?_ _)); exact BK170.out)) : gb170 ≠ gb171)); have n6_ := Aside0.mk ((by rw [hg]; exact Nat.ne_of_gt (blk_lt (g := gb170) (o := .cells #[.int .i64 a0_0, .slice A0_1 l0_1.length c0_1] 30 (0, 0)) (by (with_reducible repeat (first | refine blk_drewN ?_ _ | refine blk_drew ?_ | refine blk_alloc ?_ _)); exact BK170.out)) : gb171 ≠ gb170)); clear BK170; clear HB; have BK170 := n0_; have HB := n1_; have BK171 := n2_; have GW171 := n3_; have GE171 := n4_; have NB170_171 := n5_; have NB171_170 := n6_; clear n0_ n1_ n2_ n3_ n4_ n5_ n6_; clear hb hbox hg; have hnb8 := NB170_171.out; have hnc8 := NB171_170.out; have hcz9_0 : w7.cell? ⟨gb170, 0, none⟩ = some (.int .i64 a0_0) := (blk_cell BK170.out 0).trans rfl; have hcz9_1 : w7.cell? ⟨gb170, 1, none⟩ = some (.slice A0_1 l0_1.length c0_1) := (blk_cell BK170.out 1).trans rfl; have hfz9_0 := blk_frozen BK170.out 0; have hfz9_1 := blk_frozen BK170.out 1; have hcz10_0 : w7.cell? ⟨gb171, 0, none⟩ = some (.int .i64 a1_0) := (blk_cell BK171.out 0).trans rfl; have hcz10_1 : w7.cell? ⟨gb171, 1, none⟩ = some (.slice A1_1 l1_1.length c1_1) := (blk_cell BK171.out 1).trans rfl; have hfz10_0 := blk_frozen BK171.out 0; have hfz10_1 := blk_frozen BK171.out 1) | ((with_reducible refine gate_callee (f := 59) rfl ?_); refine goesL_ (some 14) rfl rfl Try.func59 (by kernel_rfl) rfl #[.slice A0_1 l0_1.length c0_1, .slice A1_1 l1_1.length c1_1] rfl (by (try simp only [List.map_toArray, List.map_cons, List.map_nil]); first | done | rfl | (simp only [List.length_drop, List.length_take]; rfl)) ?_; (with_reducible refine (laws_eqOpS.calls k _ _ l0_1 _ _ l1_1 true _ ?side1 ?side2 ?side3 ?side4 A4.out).mono ?_); (case side1 => repeat (first | exact (Kd.C_below HR0_1.out HB.out) | (with_reducible refine Kd.C_alloc ?_ _) | (with_reducible refine Kd.C_drewN ?_ _) | (with_reducible refine Kd.C_drew ?_))); (case side2 => exact HC0_1.out); (case side3 => repeat (first | exact (Kd.C_below HR1_1.out HB.out) | (with_reducible refine Kd.C_alloc ?_ _) | (with_reducible refine Kd.C_drewN ?_ _) | (with_reducible refine Kd.C_drew ?_))); (case side4 => exact HC1_1.out); rintro e w11 ⟨rfl, hb⟩; refine ⟨_, rfl, ?_⟩; have n0_ := Aside0.mk (blk_below (g := gb170) (o := .cells #[.int .i64 a0_0, .slice A0_1 l0_1.length c0_1] 30 (0, 0)) (by (with_reducible repeat (first | refine blk_drewN ?_ _ | refine blk_drew ?_ | refine blk_alloc ?_ _)); exact BK170.out) hb); have n1_ := Aside0.mk (blk_below (g := gb171) (o := .cells #[.int .i64 a1_0, .slice A1_1 l1_1.length c1_1] 30 (0, 0)) (by (with_reducible repeat (first | refine blk_drewN ?_ _ | refine blk_drew ?_ | refine blk_alloc ?_ _)); exact BK171.out) hb); have n2_ := Aside0.mk (below_step (by repeat (first | (with_reducible first | exact HB.out | apply below_alloc | apply pw_below_drewN | apply below_drew1 | refine below_set ?_ GE170.out | refine below_set ?_ GE171.out) | exact HB.out)) hb); clear BK170; clear BK171; clear HB; have BK170 := n0_; have BK171 := n1_; have HB := n2_; clear n0_ n1_ n2_; (try clear hb); (try clear hb2); (try clear hk); (try clear hi)))
      go_ret
      exact ⟨by first | rfl | (simp [errW_none, errW_some] <;> rfl) | (simp [*, errW_none, errW_some] <;> rfl), by repeat (first | (with_reducible first | exact HB.out | apply below_alloc | apply pw_below_drewN | apply below_drew1 | refine below_set ?_ GE170.out | refine below_set ?_ GE171.out) | exact HB.out)⟩
    · replace c5 := Bool.eq_false_iff.mpr c5
      subst c5
      have H1 : (some false) = some r := by rw [if_neg (show ¬ (false = true) by decide)] at H; exact H
      clear H
      have H := H1
      clear H1
      obtain rfl := Option.some.inj H
      go_enter Try.func19, Try.ntmps19
      go_wp2_with (first | ((with_reducible refine gate_dst (N := 2) rfl ?_); refine box_event ?hg (N := 2) ?hd (cs := #[.int .i64 a0_0, .slice A0_1 l0_1.length c0_1]) (t := 30) ?hr ?_; (case hd => rfl); (case hg => rfl); (case hr => first | (go_simp; done) | (go_simp; rfl)); intro gb170 hg w12 hbox hb; have n0_ := Aside0.mk (below_step (by repeat (first | (with_reducible first | exact HB.out | apply below_alloc | apply pw_below_drewN | apply below_drew1) | exact HB.out)) hb); have n1_ := Aside0.mk (hbox); have n2_ := Aside0.mk ((by rw [hg]; exact (below_size (by repeat (first | (with_reducible first | exact HB.out | apply below_alloc | apply pw_below_drewN | apply below_drew1) | exact HB.out))) : w.heap.size ≤ gb170)); have n3_ := Aside0.mk ((by rw [hg]; exact (below_size (by repeat (first | (with_reducible first | exact HB.out | apply below_alloc | apply pw_below_drewN | apply below_drew1) | exact HB.out))) : w.heap.size ≤ gb170)); clear HB; have HB := n0_; have BK170 := n1_; have GW170 := n2_; have GE170 := n3_; clear n0_ n1_ n2_ n3_; clear hb hbox hg) | ((with_reducible refine gate_dst (N := 3) rfl ?_); refine box_event ?hg (N := 3) ?hd (cs := #[.int .i64 a1_0, .slice A1_1 l1_1.length c1_1]) (t := 30) ?hr ?_; (case hd => rfl); (case hg => rfl); (case hr => first | (go_simp; done) | (go_simp; rfl)); intro gb171 hg w13 hbox hb; have n0_ := Aside0.mk (blk_below (g := gb170) (o := .cells #[.int .i64 a0_0, .slice A0_1 l0_1.length c0_1] 30 (0, 0)) (by (with_reducible repeat (first | refine blk_drewN ?_ _ | refine blk_drew ?_ | refine blk_alloc ?_ _)); exact BK170.out) hb); have n1_ := Aside0.mk (below_step (by repeat (first | (with_reducible first | exact HB.out | apply below_alloc | apply pw_below_drewN | apply below_drew1 | refine below_set ?_ GE170.out) | exact HB.out)) hb); have n2_ := Aside0.mk (hbox); have n3_ := Aside0.mk ((by rw [hg]; exact (below_size (by repeat (first | (with_reducible first | exact HB.out | apply below_alloc | apply pw_below_drewN | apply below_drew1 | refine below_set ?_ GE170.out) | exact HB.out))) : w.heap.size ≤ gb171)); have n4_ := Aside0.mk ((by rw [hg]; exact (below_size (by repeat (first | (with_reducible first | exact HB.out | apply below_alloc | apply pw_below_drewN | apply below_drew1 | refine below_set ?_ GE170.out) | exact HB.out))) : w.heap.size ≤ gb171)); have n5_ := Aside0.mk ((by rw [hg]; exact Nat.ne_of_lt (blk_lt (g := gb170) (o := .cells #[.int .i64 a0_0, .slice A0_1 l0_1.length c0_1] 30 (0, 0)) (by (with_reducible repeat (first | refine blk_drewN ?_ _ | refine blk_drew ?_ | refine blk_alloc ?_ _)); exact BK170.out)) : gb170 ≠ gb171)); have n6_ := Aside0.mk ((by rw [hg]; exact Nat.ne_of_gt (blk_lt (g := gb170) (o := .cells #[.int .i64 a0_0, .slice A0_1 l0_1.length c0_1] 30 (0, 0)) (by (with_reducible repeat (first | refine blk_drewN ?_ _ | refine blk_drew ?_ | refine blk_alloc ?_ _)); exact BK170.out)) : gb171 ≠ gb170)); clear BK170; clear HB; have BK170 := n0_; have HB := n1_; have BK171 := n2_; have GW171 := n3_; have GE171 := n4_; have NB170_171 := n5_; have NB171_170 := n6_; clear n0_ n1_ n2_ n3_ n4_ n5_ n6_; clear hb hbox hg; have hnb14 := NB170_171.out; have hnc14 := NB171_170.out; have hcz15_0 : w13.cell? ⟨gb170, 0, none⟩ = some (.int .i64 a0_0) := (blk_cell BK170.out 0).trans rfl; have hcz15_1 : w13.cell? ⟨gb170, 1, none⟩ = some (.slice A0_1 l0_1.length c0_1) := (blk_cell BK170.out 1).trans rfl; have hfz15_0 := blk_frozen BK170.out 0; have hfz15_1 := blk_frozen BK170.out 1; have hcz16_0 : w13.cell? ⟨gb171, 0, none⟩ = some (.int .i64 a1_0) := (blk_cell BK171.out 0).trans rfl; have hcz16_1 : w13.cell? ⟨gb171, 1, none⟩ = some (.slice A1_1 l1_1.length c1_1) := (blk_cell BK171.out 1).trans rfl; have hfz16_0 := blk_frozen BK171.out 0; have hfz16_1 := blk_frozen BK171.out 1) | ((with_reducible refine gate_callee (f := 59) rfl ?_); refine goesL_ (some 14) rfl rfl Try.func59 (by kernel_rfl) rfl #[.slice A0_1 l0_1.length c0_1, .slice A1_1 l1_1.length c1_1] rfl (by (try simp only [List.map_toArray, List.map_cons, List.map_nil]); first | done | rfl | (simp only [List.length_drop, List.length_take]; rfl)) ?_; (with_reducible refine (laws_eqOpS.calls k _ _ l0_1 _ _ l1_1 false _ ?side1 ?side2 ?side3 ?side4 A4.out).mono ?_); (case side1 => repeat (first | exact (Kd.C_below HR0_1.out HB.out) | (with_reducible refine Kd.C_alloc ?_ _) | (with_reducible refine Kd.C_drewN ?_ _) | (with_reducible refine Kd.C_drew ?_))); (case side2 => exact HC0_1.out); (case side3 => repeat (first | exact (Kd.C_below HR1_1.out HB.out) | (with_reducible refine Kd.C_alloc ?_ _) | (with_reducible refine Kd.C_drewN ?_ _) | (with_reducible refine Kd.C_drew ?_))); (case side4 => exact HC1_1.out); rintro e w17 ⟨rfl, hb⟩; refine ⟨_, rfl, ?_⟩; have n0_ := Aside0.mk (blk_below (g := gb170) (o := .cells #[.int .i64 a0_0, .slice A0_1 l0_1.length c0_1] 30 (0, 0)) (by (with_reducible repeat (first | refine blk_drewN ?_ _ | refine blk_drew ?_ | refine blk_alloc ?_ _)); exact BK170.out) hb); have n1_ := Aside0.mk (blk_below (g := gb171) (o := .cells #[.int .i64 a1_0, .slice A1_1 l1_1.length c1_1] 30 (0, 0)) (by (with_reducible repeat (first | refine blk_drewN ?_ _ | refine blk_drew ?_ | refine blk_alloc ?_ _)); exact BK171.out) hb); have n2_ := Aside0.mk (below_step (by repeat (first | (with_reducible first | exact HB.out | apply below_alloc | apply pw_below_drewN | apply below_drew1 | refine below_set ?_ GE170.out | refine below_set ?_ GE171.out) | exact HB.out)) hb); clear BK170; clear BK171; clear HB; have BK170 := n0_; have BK171 := n1_; have HB := n2_; clear n0_ n1_ n2_; (try clear hb); (try clear hb2); (try clear hk); (try clear hi)))
      go_ret
      exact ⟨by first | rfl | (simp [errW_none, errW_some] <;> rfl) | (simp [*, errW_none, errW_some] <;> rfl), by repeat (first | (with_reducible first | exact HB.out | apply below_alloc | apply pw_below_drewN | apply below_drew1 | refine below_set ?_ GE170.out | refine below_set ?_ GE171.out) | exact HB.out)⟩
  · rw [if_neg c3] at H
    have c3b0 : (a0_0 == a1_0) = false := beq_eq_false_iff_ne.mpr c3
    have c3b1 : (a0_0 != a1_0) = true := bne_iff_ne.mpr c3
    obtain rfl := Option.some.inj H
    go_enter Try.func19, Try.ntmps19
    go_wp2_with (first | ((with_reducible refine gate_dst (N := 2) rfl ?_); refine box_event ?hg (N := 2) ?hd (cs := #[.int .i64 a0_0, .slice A0_1 l0_1.length c0_1]) (t := 30) ?hr ?_; (case hd => rfl); (case hg => rfl); (case hr => first | (go_simp; done) | (go_simp; rfl)); intro gb170 hg w18 hbox hb; have n0_ := Aside0.mk (below_step (by repeat (first | (with_reducible first | exact HB.out | apply below_alloc | apply pw_below_drewN | apply below_drew1) | exact HB.out)) hb); have n1_ := Aside0.mk (hbox); have n2_ := Aside0.mk ((by rw [hg]; exact (below_size (by repeat (first | (with_reducible first | exact HB.out | apply below_alloc | apply pw_below_drewN | apply below_drew1) | exact HB.out))) : w.heap.size ≤ gb170)); have n3_ := Aside0.mk ((by rw [hg]; exact (below_size (by repeat (first | (with_reducible first | exact HB.out | apply below_alloc | apply pw_below_drewN | apply below_drew1) | exact HB.out))) : w.heap.size ≤ gb170)); clear HB; have HB := n0_; have BK170 := n1_; have GW170 := n2_; have GE170 := n3_; clear n0_ n1_ n2_ n3_; clear hb hbox hg) | ((with_reducible refine gate_dst (N := 3) rfl ?_); refine box_event ?hg (N := 3) ?hd (cs := #[.int .i64 a1_0, .slice A1_1 l1_1.length c1_1]) (t := 30) ?hr ?_; (case hd => rfl); (case hg => rfl); (case hr => first | (go_simp; done) | (go_simp; rfl)); intro gb171 hg w19 hbox hb; have n0_ := Aside0.mk (blk_below (g := gb170) (o := .cells #[.int .i64 a0_0, .slice A0_1 l0_1.length c0_1] 30 (0, 0)) (by (with_reducible repeat (first | refine blk_drewN ?_ _ | refine blk_drew ?_ | refine blk_alloc ?_ _)); exact BK170.out) hb); have n1_ := Aside0.mk (below_step (by repeat (first | (with_reducible first | exact HB.out | apply below_alloc | apply pw_below_drewN | apply below_drew1 | refine below_set ?_ GE170.out) | exact HB.out)) hb); have n2_ := Aside0.mk (hbox); have n3_ := Aside0.mk ((by rw [hg]; exact (below_size (by repeat (first | (with_reducible first | exact HB.out | apply below_alloc | apply pw_below_drewN | apply below_drew1 | refine below_set ?_ GE170.out) | exact HB.out))) : w.heap.size ≤ gb171)); have n4_ := Aside0.mk ((by rw [hg]; exact (below_size (by repeat (first | (with_reducible first | exact HB.out | apply below_alloc | apply pw_below_drewN | apply below_drew1 | refine below_set ?_ GE170.out) | exact HB.out))) : w.heap.size ≤ gb171)); have n5_ := Aside0.mk ((by rw [hg]; exact Nat.ne_of_lt (blk_lt (g := gb170) (o := .cells #[.int .i64 a0_0, .slice A0_1 l0_1.length c0_1] 30 (0, 0)) (by (with_reducible repeat (first | refine blk_drewN ?_ _ | refine blk_drew ?_ | refine blk_alloc ?_ _)); exact BK170.out)) : gb170 ≠ gb171)); have n6_ := Aside0.mk ((by rw [hg]; exact Nat.ne_of_gt (blk_lt (g := gb170) (o := .cells #[.int .i64 a0_0, .slice A0_1 l0_1.length c0_1] 30 (0, 0)) (by (with_reducible repeat (first | refine blk_drewN ?_ _ | refine blk_drew ?_ | refine blk_alloc ?_ _)); exact BK170.out)) : gb171 ≠ gb170)); clear BK170; clear HB; have BK170 := n0_; have HB := n1_; have BK171 := n2_; have GW171 := n3_; have GE171 := n4_; have NB170_171 := n5_; have NB171_170 := n6_; clear n0_ n1_ n2_ n3_ n4_ n5_ n6_; clear hb hbox hg; have hnb20 := NB170_171.out; have hnc20 := NB171_170.out; have hcz21_0 : w19.cell? ⟨gb170, 0, none⟩ = some (.int .i64 a0_0) := (blk_cell BK170.out 0).trans rfl; have hcz21_1 : w19.cell? ⟨gb170, 1, none⟩ = some (.slice A0_1 l0_1.length c0_1) := (blk_cell BK170.out 1).trans rfl; have hfz21_0 := blk_frozen BK170.out 0; have hfz21_1 := blk_frozen BK170.out 1; have hcz22_0 : w19.cell? ⟨gb171, 0, none⟩ = some (.int .i64 a1_0) := (blk_cell BK171.out 0).trans rfl; have hcz22_1 : w19.cell? ⟨gb171, 1, none⟩ = some (.slice A1_1 l1_1.length c1_1) := (blk_cell BK171.out 1).trans rfl; have hfz22_0 := blk_frozen BK171.out 0; have hfz22_1 := blk_frozen BK171.out 1))
    go_ret
    exact ⟨by first | rfl | (simp [errW_none, errW_some] <;> rfl) | (simp [*, errW_none, errW_some] <;> rfl), by repeat (first | (with_reducible first | exact HB.out | apply below_alloc | apply pw_below_drewN | apply below_drew1 | refine below_set ?_ GE170.out | refine below_set ?_ GE171.out) | exact HB.out)⟩
end Go.Proofs.Ytijnfpfijgmopaa.Q

namespace Go.Proofs.Ytijnfpfijgmopaa.Q
open Go.RowKit Go.Proofs.YtijnfpfijgmopaaW.PrintWords Go.Proofs.YtijnfpfijgmopaaW.PrintLast Go.Proofs.YtijnfpfijgmopaaW.PrintMore
attribute [local go_sem] max2_int min2_int max_two min_two max_three min_three max_four min_four
set_option linter.unusedVariables false
set_option linter.unusedSimpArgs false
def laws_szIntS.f (l0 : List Int) (a1 : Int) : Option (Int) := if (wrap64 (a1 - (l0.length : Int))) < 0 then (some (-1)) else (some (wrap64 (a1 - (l0.length : Int))))
set_option maxHeartbeats 8000000 in
set_option maxRecDepth 100000 in
theorem laws_szIntS.calls (A0 : Option Addr) (c0 : Nat) (l0 : List Int) (a1 : Int) (r : Int) (w : World) (hr0 : Kd.C (Kd.int .i64) w A0 l0.length l0) (hc0 : l0.length ≤ c0) (h : laws_szIntS.f l0 a1 = some r) :
    Calls Try.prog 76 #[.slice A0 l0.length c0, .int .i64 a1] w fun e w' => e = .returned (.int .i64 r) ∧ Drawn0 w w' := by
  have HR0 := Aside0.mk hr0
  have HC0 := Aside0.mk hc0
  clear hr0 hc0
  have H : (if (wrap64 (a1 - (l0.length : Int))) < 0 then (some (-1)) else (some (wrap64 (a1 - (l0.length : Int))))) = some r := h
  clear h
  by_cases c3 : (wrap64 (a1 - (l0.length : Int))) < 0
  · rw [if_pos c3] at H
    have c3b0 : decide ((wrap64 (a1 - (l0.length : Int))) < 0) = true := decide_eq_true c3
    clear c3
    obtain rfl := Option.some.inj H
    go_enter Try.func76, Try.ntmps76
    go_wp2
    go_ret
    exact ⟨by first | rfl | (simp; done) | (simp [*]; done), by repeat (first | exact Drawn0.refl _ | apply Drawn0.step)⟩
  · rw [if_neg c3] at H
    have c3b0 : decide ((wrap64 (a1 - (l0.length : Int))) < 0) = false := decide_eq_false c3
    clear c3
    obtain rfl := Option.some.inj H
    go_enter Try.func76, Try.ntmps76
    go_wp2
    go_ret
    exact ⟨by first | rfl | (simp; done) | (simp [*]; done), by repeat (first | exact Drawn0.refl _ | apply Drawn0.step)⟩
end Go.Proofs.Ytijnfpfijgmopaa.Q

namespace Go.Proofs.Ytijnfpfijgmopaa.Q
open Go.RowKit Go.Proofs.YtijnfpfijgmopaaW.PrintWords Go.Proofs.YtijnfpfijgmopaaW.PrintLast Go.Proofs.YtijnfpfijgmopaaW.PrintMore
attribute [local go_sem] max2_int min2_int max_two min_two max_three min_three max_four min_four
set_option linter.unusedVariables false
set_option linter.unusedSimpArgs false
def laws_szOp.f (a0_0 : Int) (l0_1 : List Int) (a1 : Int) : Option (Int) := (laws_szIntS.f l0_1 a1).bind fun t102 => (if t102 < 0 then (some (-1)) else (some t102))
set_option maxHeartbeats 8000000 in
set_option maxRecDepth 100000 in
theorem laws_szOp.calls (a0_0 : Int) (A0_1 : Option Addr) (c0_1 : Nat) (l0_1 : List Int) (a1 : Int) (r : Int) (w : World) (hr0_1 : Kd.C (Kd.int .i64) w A0_1 l0_1.length l0_1) (hc0_1 : l0_1.length ≤ c0_1) (h : laws_szOp.f a0_0 l0_1 a1 = some r) :
    Calls Try.prog 111 #[.agg #[.int .i64 a0_0, .slice A0_1 l0_1.length c0_1], .int .i64 a1] w fun e w' => e = .returned (.int .i64 r) ∧ Below w.heap.size w w' := by
  have hu109 := Try.underlying109
  have HR0_1 := Aside0.mk hr0_1
  have HC0_1 := Aside0.mk hc0_1
  clear hr0_1 hc0_1
  have HB := Aside0.mk (Below.refl w.heap.size w)
  have H : ((laws_szIntS.f l0_1 a1).bind fun t102 => (if t102 < 0 then (some (-1)) else (some t102))) = some r := h
  clear h
  replace H := Option.bind_eq_some_iff.mp H
  obtain ⟨t102, A30, H⟩ := H
  replace H : (if t102 < 0 then (some (-1)) else (some t102)) = some r := H
  have A3 := Aside0.mk A30
  clear A30
  by_cases c4 : t102 < 0
  · rw [if_pos c4] at H
    have c4b0 : decide (t102 < 0) = true := decide_eq_true c4
    clear c4
    obtain rfl := Option.some.inj H
    go_enter Try.func111, Try.ntmps111
    go_wp2_with (first | ((with_reducible refine gate_dst (N := 2) rfl ?_); refine box_event ?hg (N := 2) ?hd (cs := #[.int .i64 a0_0, .slice A0_1 l0_1.length c0_1]) (t := 109) ?hr ?_; (case hd => rfl); (case hg => rfl); (case hr => first | (go_simp; done) | (go_simp; rfl)); intro gb101 hg w5 hbox hb; have n0_ := Aside0.mk (below_step (by repeat (first | (with_reducible first | exact HB.out | apply below_alloc | apply pw_below_drewN | apply below_drew1) | exact HB.out)) hb); have n1_ := Aside0.mk (hbox); have n2_ := Aside0.mk ((by rw [hg]; exact (below_size (by repeat (first | (with_reducible first | exact HB.out | apply below_alloc | apply pw_below_drewN | apply below_drew1) | exact HB.out))) : w.heap.size ≤ gb101)); have n3_ := Aside0.mk ((by rw [hg]; exact (below_size (by repeat (first | (with_reducible first | exact HB.out | apply below_alloc | apply pw_below_drewN | apply below_drew1) | exact HB.out))) : w.heap.size ≤ gb101)); clear HB; have HB := n0_; have BK101 := n1_; have GW101 := n2_; have GE101 := n3_; clear n0_ n1_ n2_ n3_; clear hb hbox hg; have hcz6_0 : w5.cell? ⟨gb101, 0, none⟩ = some (.int .i64 a0_0) := (blk_cell BK101.out 0).trans rfl; have hcz6_1 : w5.cell? ⟨gb101, 1, none⟩ = some (.slice A0_1 l0_1.length c0_1) := (blk_cell BK101.out 1).trans rfl; have hfz6_0 := blk_frozen BK101.out 0; have hfz6_1 := blk_frozen BK101.out 1) | ((with_reducible refine gate_callee (f := 76) rfl ?_); refine goesL_ (some 8) rfl rfl Try.func76 (by kernel_rfl) rfl #[.slice A0_1 l0_1.length c0_1, .int .i64 a1] rfl (by (try simp only [List.map_toArray, List.map_cons, List.map_nil]); first | done | rfl | (simp only [List.length_drop, List.length_take]; rfl)) ?_; (with_reducible refine (laws_szIntS.calls _ _ l0_1 a1 t102 _ ?side1 ?side2 A3.out).mono ?_); (case side1 => repeat (first | exact (Kd.C_below HR0_1.out HB.out) | (with_reducible refine Kd.C_alloc ?_ _) | (with_reducible refine Kd.C_drewN ?_ _) | (with_reducible refine Kd.C_drew ?_))); (case side2 => exact HC0_1.out); rintro e w' ⟨rfl, ⟨nd, rfl⟩⟩; refine ⟨_, rfl, ?_⟩))
    go_ret
    exact ⟨by first | rfl | (simp [errW_none, errW_some] <;> rfl) | (simp [*, errW_none, errW_some] <;> rfl), by repeat (first | (with_reducible first | exact HB.out | apply below_alloc | apply pw_below_drewN | apply below_drew1 | refine below_set ?_ GE101.out) | exact HB.out)⟩
  · rw [if_neg c4] at H
    have c4b0 : decide (t102 < 0) = false := decide_eq_false c4
    clear c4
    obtain rfl := Option.some.inj H
    go_enter Try.func111, Try.ntmps111
    go_wp2_with (first | ((with_reducible refine gate_dst (N := 2) rfl ?_); refine box_event ?hg (N := 2) ?hd (cs := #[.int .i64 a0_0, .slice A0_1 l0_1.length c0_1]) (t := 109) ?hr ?_; (case hd => rfl); (case hg => rfl); (case hr => first | (go_simp; done) | (go_simp; rfl)); intro gb101 hg w7 hbox hb; have n0_ := Aside0.mk (below_step (by repeat (first | (with_reducible first | exact HB.out | apply below_alloc | apply pw_below_drewN | apply below_drew1) | exact HB.out)) hb); have n1_ := Aside0.mk (hbox); have n2_ := Aside0.mk ((by rw [hg]; exact (below_size (by repeat (first | (with_reducible first | exact HB.out | apply below_alloc | apply pw_below_drewN | apply below_drew1) | exact HB.out))) : w.heap.size ≤ gb101)); have n3_ := Aside0.mk ((by rw [hg]; exact (below_size (by repeat (first | (with_reducible first | exact HB.out | apply below_alloc | apply pw_below_drewN | apply below_drew1) | exact HB.out))) : w.heap.size ≤ gb101)); clear HB; have HB := n0_; have BK101 := n1_; have GW101 := n2_; have GE101 := n3_; clear n0_ n1_ n2_ n3_; clear hb hbox hg; have hcz8_0 : w7.cell? ⟨gb101, 0, none⟩ = some (.int .i64 a0_0) := (blk_cell BK101.out 0).trans rfl; have hcz8_1 : w7.cell? ⟨gb101, 1, none⟩ = some (.slice A0_1 l0_1.length c0_1) := (blk_cell BK101.out 1).trans rfl; have hfz8_0 := blk_frozen BK101.out 0; have hfz8_1 := blk_frozen BK101.out 1) | ((with_reducible refine gate_callee (f := 76) rfl ?_); refine goesL_ (some 8) rfl rfl Try.func76 (by kernel_rfl) rfl #[.slice A0_1 l0_1.length c0_1, .int .i64 a1] rfl (by (try simp only [List.map_toArray, List.map_cons, List.map_nil]); first | done | rfl | (simp only [List.length_drop, List.length_take]; rfl)) ?_; (with_reducible refine (laws_szIntS.calls _ _ l0_1 a1 t102 _ ?side1 ?side2 A3.out).mono ?_); (case side1 => repeat (first | exact (Kd.C_below HR0_1.out HB.out) | (with_reducible refine Kd.C_alloc ?_ _) | (with_reducible refine Kd.C_drewN ?_ _) | (with_reducible refine Kd.C_drew ?_))); (case side2 => exact HC0_1.out); rintro e w' ⟨rfl, ⟨nd, rfl⟩⟩; refine ⟨_, rfl, ?_⟩))
    go_ret
    exact ⟨by first | rfl | (simp [errW_none, errW_some] <;> rfl) | (simp [*, errW_none, errW_some] <;> rfl), by repeat (first | (with_reducible first | exact HB.out | apply below_alloc | apply pw_below_drewN | apply below_drew1 | refine below_set ?_ GE101.out) | exact HB.out)⟩
end Go.Proofs.Ytijnfpfijgmopaa.Q

namespace Go.Proofs.Ytijnfpfijgmopaa.Q
open Go.RowKit Go.Proofs.YtijnfpfijgmopaaW.PrintWords Go.Proofs.YtijnfpfijgmopaaW.PrintLast Go.Proofs.YtijnfpfijgmopaaW.PrintMore
attribute [local go_sem] max2_int min2_int max_two min_two max_three min_three max_four min_four
set_option linter.unusedVariables false
set_option linter.unusedSimpArgs false
def laws_szOpS.l0 : Nat → List (S109) → Int → Int → Option (Int)
  | 0, _, _, _ => none
  | k + 1, x0, x1, x5 => if x5 < (x0.length : Int) then (if 0 ≤ x5 then ((laws_szOp.f ((rd_T109 x0 x5).f0) ((rd_T109 x0 x5).f1) x1).bind fun t104 => (if t104 < 0 then (some (-1)) else (laws_szOpS.l0 k x0 t104 (wrap64 (x5 + 1))))) else (none)) else (some x1)
def laws_szOpS.f (k : Nat) (l0 : List (S109)) (a1 : Int) : Option (Int) := if (wrap64 (a1 - (l0.length : Int))) < 0 then (some (-1)) else (laws_szOpS.l0 k l0 (wrap64 (a1 - (l0.length : Int))) 0)
theorem laws_szOpS.mono_l : ∀ k, (∀ y0 y1 y2, LeO (laws_szOpS.l0 k y0 y1 y2) (laws_szOpS.l0 (k + 1) y0 y1 y2))
  | 0 => fun _ _ _ r h => by simp [laws_szOpS.l0] at h
  | k + 1 => by
    have ih0 := laws_szOpS.mono_l k
    · intro y0 y1 y2
      unfold laws_szOpS.l0
      repeat' first
      | (with_reducible exact ih0 _ _ _)
      | (with_reducible exact LeO.refl _)
      | (with_reducible exact LeO.none _)
      | (with_reducible refine LeO.ite ?_ ?_)
      | (with_reducible refine LeO.bind ?_ (fun _ => ?_))
      | exact ih0 _ _ _
      | exact LeO.none _
      | refine LeO.ite ?_ ?_
      | refine LeO.bind ?_ (fun _ => ?_)
theorem laws_szOpS.mono : ∀ a0 a1 k, LeO (laws_szOpS.f k a0 a1) (laws_szOpS.f (k + 1) a0 a1) := by
  intro a0 a1 k
  have ih0 := laws_szOpS.mono_l k
  unfold laws_szOpS.f
  repeat' first
      | (with_reducible exact ih0 _ _ _)
      | (with_reducible exact LeO.refl _)
      | (with_reducible exact LeO.none _)
      | (with_reducible refine LeO.ite ?_ ?_)
      | (with_reducible refine LeO.bind ?_ (fun _ => ?_))
      | exact ih0 _ _ _
      | exact LeO.none _
      | refine LeO.ite ?_ ?_
      | refine LeO.bind ?_ (fun _ => ?_)
set_option maxHeartbeats 8000000 in
set_option maxRecDepth 100000 in
theorem laws_szOpS.calls (k : Nat) (A0 : Option Addr) (c0 : Nat) (l0 : List (S109)) (a1 : Int) (r : Int) (w : World) (hr0 : Kd.C k109 w A0 l0.length l0) (hc0 : l0.length ≤ c0) (h : laws_szOpS.f k l0 a1 = some r) :
    Calls Try.prog 55 #[.slice A0 l0.length c0, .int .i64 a1] w fun e w' => e = .returned (.int .i64 r) ∧ Below w.heap.size w w' := by
  have hu109 := Try.underlying109
  have HR0 := Aside0.mk hr0
  have HC0 := Aside0.mk hc0
  clear hr0 hc0
  have HB := Aside0.mk (Below.refl w.heap.size w)
  have H : (if (wrap64 (a1 - (l0.length : Int))) < 0 then (some (-1)) else (laws_szOpS.l0 k l0 (wrap64 (a1 - (l0.length : Int))) 0)) = some r := h
  clear h
  by_cases c3 : (wrap64 (a1 - (l0.length : Int))) < 0
  · rw [if_pos c3] at H
    have c3b0 : decide ((wrap64 (a1 - (l0.length : Int))) < 0) = true := decide_eq_true c3
    clear c3
    obtain rfl := Option.some.inj H
    go_enter Try.func55, Try.ntmps55
    go_wp2
    go_ret
    exact ⟨by first | rfl | (simp [errW_none, errW_some] <;> rfl) | (simp [*, errW_none, errW_some] <;> rfl), by repeat (first | (with_reducible first | exact HB.out | apply below_alloc | apply pw_below_drewN | apply below_drew1) | exact HB.out)⟩
  · rw [if_neg c3] at H
    have c3b0 : decide ((wrap64 (a1 - (l0.length : Int))) < 0) = false := decide_eq_false c3
    clear c3
    have H' := Aside0.mk H
    clear H
    go_enter Try.func55, Try.ntmps55
    go_wp2
    go_loopg [1, 5] k (fun kq v1 v5 w' => ∃ (x1_1 : Int) (x5_1 : Int), v1 = .int .i64 x1_1 ∧ v5 = .int .i64 x5_1 ∧ Aside0 (laws_szOpS.l0 kq l0 x1_1 x5_1 = some r) ∧ Aside0 (kq ≤ k) ∧ Aside0 (Below w.heap.size w w'))
    case atStart => exact ⟨(wrap64 (a1 - (l0.length : Int))), (0), (by first | rfl | (simp; done) | (simp [*]; done)), (by first | rfl | (simp; done) | (simp [*]; done)), H', ⟨Nat.le_refl _⟩, ⟨by repeat (first | (with_reducible first | exact HB.out | apply below_alloc | apply pw_below_drewN | apply below_drew1) | exact HB.out)⟩⟩
    case round =>
      clear H'
      try clear p2
      try clear c3
      try clear c3b0
      obtain ⟨x1_1, x5_1, rfl, rfl, HA, HK1, HB⟩ := hrel
      cases gk with
      | zero => exact absurd HA.out (by simp [laws_szOpS.l0])
      | succ k1 =>
        have H := HA.out
        clear HA
        simp only [laws_szOpS.l0] at H
        by_cases c4 : x5_1 < (l0.length : Int)
        · rw [if_pos c4] at H
          have c4b0 : decide (x5_1 < (l0.length : Int)) = true := decide_eq_true c4
          clear c4
          by_cases c5 : 0 ≤ x5_1
          · rw [if_pos c5] at H
            have c5b0 : decide (0 ≤ x5_1) = true := decide_eq_true c5
            clear c5
            replace H := Option.bind_eq_some_iff.mp H
            obtain ⟨t104, A60, H⟩ := H
            replace H : (if t104 < 0 then (some (-1)) else (laws_szOpS.l0 k1 l0 t104 (wrap64 (x5_1 + 1)))) = some r := H
            have A6 := Aside0.mk A60
            clear A60
            by_cases c7 : t104 < 0
            · rw [if_pos c7] at H
              have c7b0 : decide (t104 < 0) = true := decide_eq_true c7
              clear c7
              obtain rfl := Option.some.inj H
              have p103 : 0 ≤ (x5_1 : Int) := of_decide_eq_true (by first | (with_reducible assumption) | assumption)
              have q103 : x5_1 < (l0.length : Int) := of_decide_eq_true (by first | (with_reducible assumption) | assumption)
              obtain ⟨ad103, A103_1, c103_1, e103, hx103_0, hx103_1, hl103_1, hi103_1⟩ := at_T109 HR0.out x5_1 p103 q103
              cases e103
              replace hx103_0 := (HB.out.cell (World.block_lt_of_cell? w _ hx103_0)).trans hx103_0
              replace hx103_1 := (HB.out.cell (World.block_lt_of_cell? w _ hx103_1)).trans hx103_1
              have HR103_1 := Aside0.mk hi103_1
              have HC103_1 := Aside0.mk hl103_1
              clear hi103_1 hl103_1
              replace p103 := eq_true p103
              replace q103 := eq_true q103
              go_wp2_with (first | ((with_reducible refine gate_callee (f := 111) rfl ?_); refine goesL_ (some 23) rfl rfl Try.func111 (by kernel_rfl) rfl #[.agg #[.int .i64 ((rd_T109 l0 x5_1).f0), .slice A103_1 ((rd_T109 l0 x5_1).f1).length c103_1], .int .i64 x1_1] rfl (by (try simp only [List.map_toArray, List.map_cons, List.map_nil]); first | done | rfl | (simp only [List.length_drop, List.length_take]; rfl)) ?_; (with_reducible refine (laws_szOp.calls ((rd_T109 l0 x5_1).f0) _ _ ((rd_T109 l0 x5_1).f1) x1_1 t104 _ ?side1 ?side2 A6.out).mono ?_); (case side1 => repeat (first | exact (Kd.C_below HR103_1.out HB.out) | (with_reducible refine Kd.C_alloc ?_ _) | (with_reducible refine Kd.C_drewN ?_ _) | (with_reducible refine Kd.C_drew ?_))); (case side2 => exact HC103_1.out); rintro e w8 ⟨rfl, hb⟩; refine ⟨_, rfl, ?_⟩; have n0_ := Aside0.mk (below_step (by repeat (first | (with_reducible first | exact HB.out | apply below_alloc | apply pw_below_drewN | apply below_drew1) | exact HB.out)) hb); clear HB; have HB := n0_; clear n0_; (try clear hb); (try clear hb2); (try clear hk); (try clear hi)))
              go_ret
              exact ⟨by first | rfl | (simp [errW_none, errW_some] <;> rfl) | (simp [*, errW_none, errW_some] <;> rfl), by repeat (first | (with_reducible first | exact HB.out | apply below_alloc | apply pw_below_drewN | apply below_drew1) | exact HB.out)⟩
            · rw [if_neg c7] at H
              have c7b0 : decide (t104 < 0) = false := decide_eq_false c7
              clear c7
              have H' := Aside0.mk H
              clear H
              have p103 : 0 ≤ (x5_1 : Int) := of_decide_eq_true (by first | (with_reducible assumption) | assumption)
              have q103 : x5_1 < (l0.length : Int) := of_decide_eq_true (by first | (with_reducible assumption) | assumption)
              obtain ⟨ad103, A103_1, c103_1, e103, hx103_0, hx103_1, hl103_1, hi103_1⟩ := at_T109 HR0.out x5_1 p103 q103
              cases e103
              replace hx103_0 := (HB.out.cell (World.block_lt_of_cell? w _ hx103_0)).trans hx103_0
              replace hx103_1 := (HB.out.cell (World.block_lt_of_cell? w _ hx103_1)).trans hx103_1
              have HR103_1 := Aside0.mk hi103_1
              have HC103_1 := Aside0.mk hl103_1
              clear hi103_1 hl103_1
              replace p103 := eq_true p103
              replace q103 := eq_true q103
              go_wp2_with (first | ((with_reducible refine gate_callee (f := 111) rfl ?_); refine goesL_ (some 23) rfl rfl Try.func111 (by kernel_rfl) rfl #[.agg #[.int .i64 ((rd_T109 l0 x5_1).f0), .slice A103_1 ((rd_T109 l0 x5_1).f1).length c103_1], .int .i64 x1_1] rfl (by (try simp only [List.map_toArray, List.map_cons, List.map_nil]); first | done | rfl | (simp only [List.length_drop, List.length_take]; rfl)) ?_; (with_reducible refine (laws_szOp.calls ((rd_T109 l0 x5_1).f0) _ _ ((rd_T109 l0 x5_1).f1) x1_1 t104 _ ?side1 ?side2 A6.out).mono ?_); (case side1 => repeat (first | exact (Kd.C_below HR103_1.out HB.out) | (with_reducible refine Kd.C_alloc ?_ _) | (with_reducible refine Kd.C_drewN ?_ _) | (with_reducible refine Kd.C_drew ?_))); (case side2 => exact HC103_1.out); rintro e w9 ⟨rfl, hb⟩; refine ⟨_, rfl, ?_⟩; have n0_ := Aside0.mk (below_step (by repeat (first | (with_reducible first | exact HB.out | apply below_alloc | apply pw_below_drewN | apply below_drew1) | exact HB.out)) hb); clear HB; have HB := n0_; clear n0_; (try clear hb); (try clear hb2); (try clear hk); (try clear hi)))
              go_roundg k1
              case measure => have := HK1.out; omega
              case rel => exact ⟨(t104), (wrap64 (x5_1 + 1)), (by first | rfl | (simp; done) | (simp [*]; done)), (by first | rfl | (simp; done) | (simp [*]; done)), H', ⟨by have := HK1.out; omega⟩, ⟨by repeat (first | (with_reducible first | exact HB.out | apply below_alloc | apply pw_below_drewN | apply below_drew1) | exact HB.out)⟩⟩
          · rw [if_neg c5] at H
            exact absurd H (by simp)
        · rw [if_neg c4] at H
          have c4b0 : decide (x5_1 < (l0.length : Int)) = false := decide_eq_false c4
          clear c4
          obtain rfl := Option.some.inj H
          go_wp2
          go_ret
          exact ⟨by first | rfl | (simp [errW_none, errW_some] <;> rfl) | (simp [*, errW_none, errW_some] <;> rfl), by repeat (first | (with_reducible first | exact HB.out | apply below_alloc | apply pw_below_drewN | apply below_drew1) | exact HB.out)⟩
end Go.Proofs.Ytijnfpfijgmopaa.Q

namespace Go.Proofs.Ytijnfpfijgmopaa.Q
open Go.RowKit Go.Proofs.YtijnfpfijgmopaaW.PrintWords Go.Proofs.YtijnfpfijgmopaaW.PrintLast Go.Proofs.YtijnfpfijgmopaaW.PrintMore
attribute [local go_sem] max2_int min2_int max_two min_two max_three min_three max_four min_four
set_option linter.unusedVariables false
set_option linter.unusedSimpArgs false
def laws_szAlgebra.f (k : Nat) (a0_0 : Int) (l0_1 : List (S109)) (a1 : Int) : Option (Int) := (laws_szOpS.f k l0_1 a1).bind fun t106 => (if t106 < 0 then (some (-1)) else (some t106))
theorem laws_szAlgebra.mono : ∀ a0 a1 a2 k, LeO (laws_szAlgebra.f k a0 a1 a2) (laws_szAlgebra.f (k + 1) a0 a1 a2) := by
  intro a0 a1 a2 k
  unfold laws_szAlgebra.f
  repeat' first
      | (with_reducible exact laws_szOpS.mono _ _ _)
      | (with_reducible exact LeO.refl _)
      | (with_reducible exact LeO.none _)
      | (with_reducible refine LeO.ite ?_ ?_)
      | (with_reducible refine LeO.bind ?_ (fun _ => ?_))
      | exact laws_szOpS.mono _ _ _
      | exact LeO.none _
      | refine LeO.ite ?_ ?_
      | refine LeO.bind ?_ (fun _ => ?_)
set_option maxHeartbeats 8000000 in
set_option maxRecDepth 100000 in
theorem laws_szAlgebra.calls (k : Nat) (a0_0 : Int) (A0_1 : Option Addr) (c0_1 : Nat) (l0_1 : List (S109)) (a1 : Int) (r : Int) (w : World) (hr0_1 : Kd.C k109 w A0_1 l0_1.length l0_1) (hc0_1 : l0_1.length ≤ c0_1) (h : laws_szAlgebra.f k a0_0 l0_1 a1 = some r) :
    Calls Try.prog 15 #[.agg #[.int .i64 a0_0, .slice A0_1 l0_1.length c0_1], .int .i64 a1] w fun e w' => e = .returned (.int .i64 r) ∧ Below w.heap.size w w' := by
  have hu24 := Try.underlying24
  have HR0_1 := Aside0.mk hr0_1
  have HC0_1 := Aside0.mk hc0_1
  clear hr0_1 hc0_1
  have HB := Aside0.mk (Below.refl w.heap.size w)
  have H : ((laws_szOpS.f k l0_1 a1).bind fun t106 => (if t106 < 0 then (some (-1)) else (some t106))) = some r := h
  clear h
  replace H := Option.bind_eq_some_iff.mp H
  obtain ⟨t106, A30, H⟩ := H
  replace H : (if t106 < 0 then (some (-1)) else (some t106)) = some r := H
  have A3 := Aside0.mk A30
  clear A30
  by_cases c4 : t106 < 0
  · rw [if_pos c4] at H
    have c4b0 : decide (t106 < 0) = true := decide_eq_true c4
    clear c4
    obtain rfl := Option.some.inj H
    go_enter Try.func15, Try.ntmps15
    go_wp2_with (first | ((with_reducible refine gate_dst (N := 2) rfl ?_); refine box_event ?hg (N := 2) ?hd (cs := #[.int .i64 a0_0, .slice A0_1 l0_1.length c0_1]) (t := 24) ?hr ?_; (case hd => rfl); (case hg => rfl); (case hr => first | (go_simp; done) | (go_simp; rfl)); intro gb105 hg w5 hbox hb; have n0_ := Aside0.mk (below_step (by repeat (first | (with_reducible first | exact HB.out | apply below_alloc | apply pw_below_drewN | apply below_drew1) | exact HB.out)) hb); have n1_ := Aside0.mk (hbox); have n2_ := Aside0.mk ((by rw [hg]; exact (below_size (by repeat (first | (with_reducible first | exact HB.out | apply below_alloc | apply pw_below_drewN | apply below_drew1) | exact HB.out))) : w.heap.size ≤ gb105)); have n3_ := Aside0.mk ((by rw [hg]; exact (below_size (by repeat (first | (with_reducible first | exact HB.out | apply below_alloc | apply pw_below_drewN | apply below_drew1) | exact HB.out))) : w.heap.size ≤ gb105)); clear HB; have HB := n0_; have BK105 := n1_; have GW105 := n2_; have GE105 := n3_; clear n0_ n1_ n2_ n3_; clear hb hbox hg; have hcz6_0 : w5.cell? ⟨gb105, 0, none⟩ = some (.int .i64 a0_0) := (blk_cell BK105.out 0).trans rfl; have hcz6_1 : w5.cell? ⟨gb105, 1, none⟩ = some (.slice A0_1 l0_1.length c0_1) := (blk_cell BK105.out 1).trans rfl; have hfz6_0 := blk_frozen BK105.out 0; have hfz6_1 := blk_frozen BK105.out 1) | ((with_reducible refine gate_callee (f := 55) rfl ?_); refine goesL_ (some 8) rfl rfl Try.func55 (by kernel_rfl) rfl #[.slice A0_1 l0_1.length c0_1, .int .i64 a1] rfl (by (try simp only [List.map_toArray, List.map_cons, List.map_nil]); first | done | rfl | (simp only [List.length_drop, List.length_take]; rfl)) ?_; (with_reducible refine (laws_szOpS.calls k _ _ l0_1 a1 t106 _ ?side1 ?side2 A3.out).mono ?_); (case side1 => repeat (first | exact (Kd.C_below HR0_1.out HB.out) | (with_reducible refine Kd.C_alloc ?_ _) | (with_reducible refine Kd.C_drewN ?_ _) | (with_reducible refine Kd.C_drew ?_))); (case side2 => exact HC0_1.out); rintro e w7 ⟨rfl, hb⟩; refine ⟨_, rfl, ?_⟩; have n0_ := Aside0.mk (blk_below (g := gb105) (o := .cells #[.int .i64 a0_0, .slice A0_1 l0_1.length c0_1] 24 (0, 0)) (by (with_reducible repeat (first | refine blk_drewN ?_ _ | refine blk_drew ?_ | refine blk_alloc ?_ _)); exact BK105.out) hb); have n1_ := Aside0.mk (below_step (by repeat (first | (with_reducible first | exact HB.out | apply below_alloc | apply pw_below_drewN | apply below_drew1 | refine below_set ?_ GE105.out) | exact HB.out)) hb); clear BK105; clear HB; have BK105 := n0_; have HB := n1_; clear n0_ n1_; (try clear hb); (try clear hb2); (try clear hk); (try clear hi)))
    go_ret
    exact ⟨by first | rfl | (simp [errW_none, errW_some] <;> rfl) | (simp [*, errW_none, errW_some] <;> rfl), by repeat (first | (with_reducible first | exact HB.out | apply below_alloc | apply pw_below_drewN | apply below_drew1 | refine below_set ?_ GE105.out) | exact HB.out)⟩
  · rw [if_neg c4] at H
    have c4b0 : decide (t106 < 0) = false := decide_eq_false c4
    clear c4
    obtain rfl := Option.some.inj H
    go_enter Try.func15, Try.ntmps15
    go_wp2_with (first | ((with_reducible refine gate_dst (N := 2) rfl ?_); refine box_event ?hg (N := 2) ?hd (cs := #[.int .i64 a0_0, .slice A0_1 l0_1.length c0_1]) (t := 24) ?hr ?_; (case hd => rfl); (case hg => rfl); (case hr => first | (go_simp; done) | (go_simp; rfl)); intro gb105 hg w8 hbox hb; have n0_ := Aside0.mk (below_step (by repeat (first | (with_reducible first | exact HB.out | apply below_alloc | apply pw_below_drewN | apply below_drew1) | exact HB.out)) hb); have n1_ := Aside0.mk (hbox); have n2_ := Aside0.mk ((by rw [hg]; exact (below_size (by repeat (first | (with_reducible first | exact HB.out | apply below_alloc | apply pw_below_drewN | apply below_drew1) | exact HB.out))) : w.heap.size ≤ gb105)); have n3_ := Aside0.mk ((by rw [hg]; exact (below_size (by repeat (first | (with_reducible first | exact HB.out | apply below_alloc | apply pw_below_drewN | apply below_drew1) | exact HB.out))) : w.heap.size ≤ gb105)); clear HB; have HB := n0_; have BK105 := n1_; have GW105 := n2_; have GE105 := n3_; clear n0_ n1_ n2_ n3_; clear hb hbox hg; have hcz9_0 : w8.cell? ⟨gb105, 0, none⟩ = some (.int .i64 a0_0) := (blk_cell BK105.out 0).trans rfl; have hcz9_1 : w8.cell? ⟨gb105, 1, none⟩ = some (.slice A0_1 l0_1.length c0_1) := (blk_cell BK105.out 1).trans rfl; have hfz9_0 := blk_frozen BK105.out 0; have hfz9_1 := blk_frozen BK105.out 1) | ((with_reducible refine gate_callee (f := 55) rfl ?_); refine goesL_ (some 8) rfl rfl Try.func55 (by kernel_rfl) rfl #[.slice A0_1 l0_1.length c0_1, .int .i64 a1] rfl (by (try simp only [List.map_toArray, List.map_cons, List.map_nil]); first | done | rfl | (simp only [List.length_drop, List.length_take]; rfl)) ?_; (with_reducible refine (laws_szOpS.calls k _ _ l0_1 a1 t106 _ ?side1 ?side2 A3.out).mono ?_); (case side1 => repeat (first | exact (Kd.C_below HR0_1.out HB.out) | (with_reducible refine Kd.C_alloc ?_ _) | (with_reducible refine Kd.C_drewN ?_ _) | (with_reducible refine Kd.C_drew ?_))); (case side2 => exact HC0_1.out); rintro e w10 ⟨rfl, hb⟩; refine ⟨_, rfl, ?_⟩; have n0_ := Aside0.mk (blk_below (g := gb105) (o := .cells #[.int .i64 a0_0, .slice A0_1 l0_1.length c0_1] 24 (0, 0)) (by (with_reducible repeat (first | refine blk_drewN ?_ _ | refine blk_drew ?_ | refine blk_alloc ?_ _)); exact BK105.out) hb); have n1_ := Aside0.mk (below_step (by repeat (first | (with_reducible first | exact HB.out | apply below_alloc | apply pw_below_drewN | apply below_drew1 | refine below_set ?_ GE105.out) | exact HB.out)) hb); clear BK105; clear HB; have BK105 := n0_; have HB := n1_; clear n0_ n1_; (try clear hb); (try clear hb2); (try clear hk); (try clear hi)))
    go_ret
    exact ⟨by first | rfl | (simp [errW_none, errW_some] <;> rfl) | (simp [*, errW_none, errW_some] <;> rfl), by repeat (first | (with_reducible first | exact HB.out | apply below_alloc | apply pw_below_drewN | apply below_drew1 | refine below_set ?_ GE105.out) | exact HB.out)⟩
end Go.Proofs.Ytijnfpfijgmopaa.Q

namespace Go.Proofs.Ytijnfpfijgmopaa.Live
open Go.RowKit Go.Proofs.YtijnfpfijgmopaaW.PrintWords Go.Proofs.YtijnfpfijgmopaaW.PrintLast
set_option linter.unusedVariables false
structure Part where
  lo : Nat
  hi : Nat
  P : World → Prop
def Seg (w : World) (x : Part) : Prop := ∀ w' : World, (∀ k, x.lo ≤ k → k < x.hi → w'.heap[k]? = w.heap[k]?) → x.P w'
def Live (w : World) (L : List Part) : Prop := (∀ x ∈ L, x.lo ≤ x.hi ∧ x.hi ≤ w.heap.size ∧ Seg w x) ∧ L.Pairwise (fun new old => old.hi ≤ new.lo)
theorem Live.nil (w : World) : Live w [] := ⟨fun x hx => by simp at hx, List.Pairwise.nil⟩
theorem Live.get {w : World} {L : List Part} (h : Live w L) (i : Nat) {x : Part} (hi : L[i]? = some x) : x.P w :=
  (h.1 x (List.mem_of_getElem? hi)).2.2 w (fun _ _ _ => rfl)
theorem Seg.kept {w w' : World} {x : Part} {S : Nat → Prop} (h : Seg w x) (hk : Kept w w' S) (hh : x.hi ≤ w.heap.size) (hs : ∀ k, x.lo ≤ k → k < x.hi → ¬ S k) : Seg w' x :=
  fun w2 h2 => h w2 (fun k h3 h4 => (h2 k h3 h4).trans (hk.2 k (by omega) (hs k h3 h4)))
theorem Live.kept {w w' : World} {L : List Part} {S : Nat → Prop} (h : Live w L) (hk : Kept w w' S) (hs : ∀ x ∈ L, ∀ k, x.lo ≤ k → k < x.hi → ¬ S k) : Live w' L :=
  ⟨fun x hx => ⟨(h.1 x hx).1, Nat.le_trans (h.1 x hx).2.1 hk.1, (h.1 x hx).2.2.kept hk (h.1 x hx).2.1 (hs x hx)⟩, h.2⟩
theorem Live.below {w w' : World} {L : List Part} (h : Live w L) (hb : Below w.heap.size w w') : Live w' L :=
  h.kept (Kept.of_below hb (fun _ => False)) (fun _ _ _ _ _ hf => hf)
theorem Live.drew {w : World} {L : List Part} (h : Live w L) : Live w.drew L := h
theorem Live.make {w w' : World} {L : List Part} (h : Live w L) (hb : Below w.heap.size w w') {P : World → Prop} (hP : Seg w' ⟨w.heap.size, w'.heap.size, P⟩) : Live w' (⟨w.heap.size, w'.heap.size, P⟩ :: L) := by
  have h1 := h.below hb
  refine ⟨fun x hx => ?_, List.Pairwise.cons (fun x hx => (h.1 x hx).2.1) h1.2⟩
  rcases List.mem_cons.1 hx with rfl | hx
  · exact ⟨hb.size, Nat.le_refl _, hP⟩
  · exact h1.1 x hx
theorem pairwise_set {L : List Part} (h : L.Pairwise (fun new old => old.hi ≤ new.lo)) (i : Nat) {x y : Part} (hi : L[i]? = some x) (h1 : y.lo = x.lo) (h2 : y.hi = x.hi) : (L.set i y).Pairwise (fun new old => old.hi ≤ new.lo) := by
  rw [List.pairwise_iff_getElem] at h ⊢
  obtain ⟨hil, hx⟩ := List.getElem?_eq_some_iff.1 hi
  have key : ∀ (j : Nat) (hj : j < (L.set i y).length), ((L.set i y)[j]).lo = (L[j]'(by simpa using hj)).lo ∧ ((L.set i y)[j]).hi = (L[j]'(by simpa using hj)).hi := by
    intro j hj
    rw [List.getElem_set]
    split
    · rename_i e
      subst e
      rw [h1, h2, ← hx]
      exact ⟨rfl, rfl⟩
    · exact ⟨rfl, rfl⟩
  intro a b ha hb hab
  rw [(key a ha).1, (key b hb).2]
  exact h a b (by simpa using ha) (by simpa using hb) hab
theorem Live.mark {w w' : World} {L : List Part} (h : Live w L) (i : Nat) {x : Part} (hi : L[i]? = some x) (hk : Kept w w' (fun k => x.lo ≤ k ∧ k < x.hi)) {P' : World → Prop} (hP : Seg w' ⟨x.lo, x.hi, P'⟩) : Live w' (L.set i ⟨x.lo, x.hi, P'⟩) := by
  have hp := h.2
  rw [List.pairwise_iff_getElem] at hp
  obtain ⟨hil, hx⟩ := List.getElem?_eq_some_iff.1 hi
  refine ⟨fun y hy => ?_, pairwise_set h.2 i hi rfl rfl⟩
  obtain ⟨j, hj⟩ := List.getElem?_of_mem hy
  rw [List.getElem?_set] at hj
  by_cases e : i = j
  · subst e
    rw [if_pos rfl, if_pos hil] at hj
    injection hj with hj
    subst hj
    have hm := h.1 x (List.mem_of_getElem? hi)
    exact ⟨hm.1, Nat.le_trans hm.2.1 hk.1, hP⟩
  · rw [if_neg e] at hj
    obtain ⟨hjl, hjx⟩ := List.getElem?_eq_some_iff.1 hj
    have hm := h.1 y (List.mem_of_getElem? hj)
    refine ⟨hm.1, Nat.le_trans hm.2.1 hk.1, hm.2.2.kept hk hm.2.1 (fun k h3 h4 h5 => ?_)⟩
    rcases Nat.lt_or_ge i j with h6 | h6
    · have := hp i j hil hjl h6
      rw [hx, hjx] at this
      omega
    · have := hp j i hjl hil (by omega)
      rw [hx, hjx] at this
      omega
theorem Live.make_box {w : World} {L : List Part} (h : Live w L) (o : Obj) (g : Nat) (hg : g = w.heap.size) : ∃ lo hi, Live (w.alloc o) (⟨lo, hi, fun w => w.heap[g]? = some o ∧ lo ≤ g ∧ g < hi⟩ :: L) :=
  ⟨w.heap.size, (w.alloc o).heap.size, h.make (below_alloc (Below.refl _ _) o) (fun w' hw => by subst hg; exact ⟨(hw _ (Nat.le_refl _) (by simp)).trans (heap_alloc_new w o), Nat.le_refl _, by simp⟩)⟩
theorem Live.make_S {α : Type} {d : Kd α} {e base : Nat} {ok : Nat → Prop} {v : Value} {xs : List α} {w w' : World} {L : List Part} (h : Live w L) (hb : Below w.heap.size w w') (ho : Kd.S d e w' w.heap.size ok v xs) (hbase : base ≤ w.heap.size) :
    ∃ lo hi, Live w' (⟨lo, hi, fun w => Kd.S d e w base (fun k => lo ≤ k ∧ k < hi) v xs⟩ :: L) :=
  ⟨_, _, h.make hb (fun w2 hw => Kd.S_lower (Kd.S_move (Kd.S_mono (Kd.S_bound ho) (fun k hk => ⟨hk.2.1, hk.2.2.1⟩)) (fun k hk => hw k hk.1 hk.2)) hbase)⟩
section
variable {α : Type} {d : Kd α} {e base lo hi : Nat} {w : World} {ok : Nat → Prop} {v : Value} {xs : List α}
theorem seg_S {base' : Nat} (h : Kd.S d e w base ok v xs) (hok : ∀ k, ok k → base ≤ k → k < w.heap.size → lo ≤ k ∧ k < hi) (hb : base' ≤ base) : Seg w ⟨lo, hi, fun w => Kd.S d e w base' (fun k => lo ≤ k ∧ k < hi) v xs⟩ := fun w' hw =>
  Kd.S_lower (Kd.S_move (Kd.S_mono (Kd.S_bound h) (fun k hk => hok k hk.1 hk.2.1 hk.2.2.1)) (fun k hk => hw k hk.1 hk.2)) hb
end
end Go.Proofs.Ytijnfpfijgmopaa.Live

namespace Go.Proofs.Ytijnfpfijgmopaa
open Go.RowKit Go.Proofs.YtijnfpfijgmopaaW.PrintWords Go.Proofs.YtijnfpfijgmopaaW.PrintLast Go.Proofs.YtijnfpfijgmopaaW.PrintMore Go.Proofs.Ytijnfpfijgmopaa.Live Go.Proofs.Ytijnfpfijgmopaa.Q
def Stmt.FnExactPowerOf : Prop := ∀ (a0 : Int) (l0 : List (Q.S109)) (a1 : Int), (Lit.int .i64 a0).wf = true → l0.length ≤ maxLen → (∀ x ∈ l0, (Lit.int .i64 x.f0).wf = true ∧ x.f1.length ≤ maxLen ∧ ∀ y_x ∈ x.f1, (Lit.int .i64 y_x).wf = true) → (Lit.int .i64 a1).wf = true → ∃ k : Nat, ∃ t0 : Int, laws_szAlgebra.f k a0 l0 1048576 = some t0 ∧ (0 ≤ t0 → ∃ (X0 : Int) (X1 : List (S87)) (X2 : Int) (X3 : List (S87)) (X4 : Bool), laws_toAlgebra.f k a0 l0 = some (X0, X1) ∧ spec_PowerOf.f k X0 X1 a1 = some (X2, X3, X4) ∧ impl_PowerOf.f k X0 X1 a1 = some (X2, X3, X4) ∧ laws_eqAlgebra.f k X2 X3 X2 X3 = some true ∧ laws_eqAlgebra.f k X0 X1 X0 X1 = some true ∧ laws_heldAlgebra.f k X2 (mkOps X3 1) 1 = some (1 + (totO X3 : Int)) ∧ (1 + (totO X1 : Int)) ≤ 4611686018427387904 ∧ (1 + (totO X3 : Int)) ≤ 4611686018427387904)
end Go.Proofs.Ytijnfpfijgmopaa

namespace Go.Proofs.Ytijnfpfijgmopaa
open Go.ChangeShapes Go.WideShapes
end Go.Proofs.Ytijnfpfijgmopaa
namespace Go.Proofs.Ytijnfpfijgmopaa.Pure
open Go.RowKit Go.Proofs.Ytijnfpfijgmopaa.Q Go.Proofs.YtijnfpfijgmopaaW.PrintWords Go.Proofs.YtijnfpfijgmopaaW.PrintLast
set_option linter.unusedVariables false
set_option linter.unusedSimpArgs false
theorem Ev.pos {α : Type} {c : Prop} [Decidable c] {f g : Nat → Option α} {r : α} (h : c) (hf : Ev f r) : Ev (fun k => if c then f k else g k) r := by
  simpa only [if_pos h] using hf
theorem Ev.neg {α : Type} {c : Prop} [Decidable c] {f g : Nat → Option α} {r : α} (h : ¬ c) (hg : Ev g r) : Ev (fun k => if c then f k else g k) r := by
  simpa only [if_neg h] using hg
theorem Ev.ite {α : Type} {c : Prop} [Decidable c] {f g : Nat → Option α} {r : α} (h : c → Ev f r) (h' : ¬ c → Ev g r) : Ev (fun k => if c then f k else g k) r := by
  by_cases hc : c
  · exact Ev.pos hc (h hc)
  · exact Ev.neg hc (h' hc)
theorem Ev.bind1 {α β : Type} {x : α} {f : Nat → α → Option β} {r : β} (k : Ev (fun n => f n x) r) : Ev (fun n => (some x).bind (f n)) r := k
theorem _root_.Go.Proofs.YtijnfpfijgmopaaW.PrintWords.Ev.to {α : Type} {g : Nat → Option α} {r s : α} (h : Ev g r) (e : r = s) : Ev g s := e ▸ h
theorem w64 {x : Int} (h1 : -9223372036854775808 ≤ x) (h2 : x ≤ 9223372036854775807) : wrap64 x = x := by unfold wrap64; omega
theorem w64s {i n : Nat} (h : i < n) (hn : n ≤ 9223372036854775807) : wrap64 ((i : Int) + 1) = ((i + 1 : Nat) : Int) := by unfold wrap64; omega
def gd (l : List Int) (i : Nat) : Int := l.getD i 0
theorem rdn (xs : List Int) (i : Nat) : rd xs (i : Int) = gd xs i := by simp [rd, gd]
theorem gd_lt {xs : List Int} {i : Nat} (h : i < xs.length) : gd xs i = xs[i] := by simp [gd, List.getD, h]
theorem take_snoc (l : List Int) {i : Nat} (h : i < l.length) : l.take i ++ [gd l i] = l.take (i + 1) := by
  rw [gd_lt h, List.take_append_getElem]
theorem _root_.Go.Proofs.YtijnfpfijgmopaaW.PrintWords.Ev.and {α β : Type} {g : Nat → Option α} {f : Nat → Option β} {r : α} {s : β} (h : Ev g r) (h' : Ev f s) : ∃ K, ∀ k, K ≤ k → g k = some r ∧ f k = some s := by
  obtain ⟨K, h⟩ := h
  obtain ⟨K', h'⟩ := h'
  exact ⟨max K K', fun k hk => ⟨h k (by omega), h' k (by omega)⟩⟩
def Evs (P : Nat → Prop) : Prop := ∃ K, ∀ k, K ≤ k → P k
theorem Evs.of {α : Type} {g : Nat → Option α} {r : α} (h : Ev g r) : Evs (fun k => g k = some r) := h
theorem Evs.and {P Q : Nat → Prop} (h : Evs P) (h' : Evs Q) : Evs (fun k => P k ∧ Q k) := by
  obtain ⟨K, h⟩ := h
  obtain ⟨K', h'⟩ := h'
  exact ⟨max K K', fun k hk => ⟨h k (by omega), h' k (by omega)⟩⟩
theorem Evs.true {P : Prop} (h : P) : Evs (fun _ => P) := ⟨0, fun _ _ => h⟩
theorem Evs.ex {P : Nat → Prop} (h : Evs P) : ∃ k, P k := by
  obtain ⟨K, h⟩ := h
  exact ⟨K, h K (Nat.le_refl _)⟩
theorem drop_cons {α : Type} (l : List α) (z : α) {i : Nat} (h : i < l.length) : l.drop i = l.getD i z :: l.drop (i + 1) := by
  rw [List.drop_eq_getElem_cons h]
  simp [List.getD, h]
theorem all_loop {α : Type} (l : List α) (z : α) (p : α → Bool) (L : Nat → Int → Option Bool) (hend : Ev (fun k => L k (l.length : Int)) true)
    (hT : ∀ (i : Nat) (r : Bool), i < l.length → p (l.getD i z) = true → Ev (fun k => L k ((i + 1 : Nat) : Int)) r → Ev (fun k => L k (i : Int)) r)
    (hF : ∀ i : Nat, i < l.length → p (l.getD i z) = false → Ev (fun k => L k (i : Int)) false) : ∀ (d i : Nat), i + d = l.length → Ev (fun k => L k (i : Int)) ((l.drop i).all p) := by
  intro d
  induction d with
  | zero =>
    intro i hi
    have : i = l.length := by omega
    subst this
    simpa using hend
  | succ d ih =>
    intro i hi
    rw [drop_cons l z (by omega), List.all_cons]
    cases hp : p (l.getD i z) with
    | true => simpa using hT i _ (by omega) hp (ih (i + 1) (by omega))
    | false => simpa using hF i (by omega) hp
theorem map_loop {α β γ : Type} (l : List α) (z : α) (f : α → β) (L : Nat → List β → Int → Option γ) (fin : γ) (hend : Ev (fun k => L k (l.map f) (l.length : Int)) fin)
    (hstep : ∀ (i : Nat) (out : List β), i < l.length → out.length = i → Ev (fun k => L k (out ++ [f (l.getD i z)]) ((i + 1 : Nat) : Int)) fin → Ev (fun k => L k out (i : Int)) fin) :
    ∀ (d i : Nat), i + d = l.length → Ev (fun k => L k ((l.take i).map f) (i : Int)) fin := by
  intro d
  induction d with
  | zero =>
    intro i hi
    have : i = l.length := by omega
    subst this
    simpa using hend
  | succ d ih =>
    intro i hi
    refine hstep i _ (by omega) (by simp; omega) ?_
    have := ih (i + 1) (by omega)
    rw [List.take_succ_eq_append_getElem (by omega), List.map_append] at this
    simpa [List.getD, show i < l.length by omega] using this
theorem set_loop {α β γ : Type} (l : List α) (z : α) (f : α → β) (L : Nat → List β → Int → Option γ) (fin : γ) (hend : Ev (fun k => L k (l.map f) (l.length : Int)) fin)
    (hstep : ∀ (i : Nat) (out : List β), i < l.length → out.length = l.length → Ev (fun k => L k (out.set i (f (l.getD i z))) ((i + 1 : Nat) : Int)) fin → Ev (fun k => L k out (i : Int)) fin) :
    ∀ (d i : Nat) (out : List β), i + d = l.length → out.length = l.length → (∀ j, j < i → out[j]? = (l.map f)[j]?) → Ev (fun k => L k out (i : Int)) fin := by
  intro d
  induction d with
  | zero =>
    intro i out hi ho h
    have : i = l.length := by omega
    subst this
    have : out = l.map f := by
      apply List.ext_getElem?
      intro j
      rcases Nat.lt_or_ge j l.length with h1 | h1
      · exact h j h1
      · rw [List.getElem?_eq_none (by omega), List.getElem?_eq_none (by simpa using h1)]
    rw [this]
    exact hend
  | succ d ih =>
    intro i out hi ho h
    refine hstep i out (by omega) ho (ih (i + 1) _ (by omega) (by simpa using ho) (fun j hj => ?_))
    rw [List.getElem?_set]
    by_cases e : i = j
    · subst e
      rw [if_pos rfl, if_pos (by omega)]
      simp [List.getD, show i < l.length by omega]
    · rw [if_neg e]
      exact h j (by omega)
def sizeB (n : Int) : Bool := decide (1 ≤ n ∧ n ≤ 8)
theorem spec_l1In_eq (a b c : Int) : spec_l1In.f a b c = some (decide (b ≤ a ∧ a ≤ c)) := by
  unfold spec_l1In.f
  split
  · congr 1; simp; omega
  · congr 1; simp; omega
theorem asc_at {n i : Nat} (a : Int) (h : i < n) : gd (asc n a) i = a + i := by simp [asc, gd, List.getD, h]
theorem toIntS_loop (l : List Int) (hl : l.length ≤ 35184372088832) : ∀ (d i : Nat) (x : List Int), i + d = l.length → x.length = l.length → (∀ j, j < i → gd x j = gd l j) → Ev (fun k => laws_toIntS.l0 k l x (i : Int)) l := by
  intro d
  induction d with
  | zero =>
    intro i x hi hx h
    refine Ev.step (fun _ => laws_toIntS.l0.eq_2 ..) ?_
    refine Ev.neg (by omega) ?_
    have : x = l := by
      apply List.ext_getElem hx
      intro j h1 h2
      have := h j (by omega)
      simpa [gd, List.getD, h1, h2] using this
    subst this
    exact Ev.now _
  | succ d ih =>
    intro i x hi hx h
    refine Ev.step (fun _ => laws_toIntS.l0.eq_2 ..) ?_
    refine Ev.pos (by omega) ?_
    refine Ev.pos (by omega) ?_
    refine Ev.pos (by omega) ?_
    rw [w64s (n := l.length) (by omega) (by omega), rdn, Int.toNat_natCast]
    refine ih (i + 1) _ (by omega) (by simpa using hx) ?_
    intro j hj
    by_cases e : j = i
    · subst e
      simp [gd, List.getD, show j < x.length by omega]
    · have := h j (by omega)
      simp only [gd, List.getD] at this ⊢
      rw [List.getElem?_set_ne (by omega)]
      exact this
theorem toIntS_ev (l : List Int) (hl : l.length ≤ 35184372088832) : Ev (fun k => laws_toIntS.f k l) l := by
  unfold laws_toIntS.f
  refine Ev.pos (by omega) ?_
  refine Ev.pos (by omega) ?_
  exact toIntS_loop l hl l.length 0 _ (by omega) (by simp) (fun j hj => by omega)
theorem eqIntS_loop (a b : List Int) (hb : b.length = a.length) (hl : a.length ≤ 35184372088832) : ∀ (d i : Nat), i + d = a.length → Ev (fun k => laws_eqIntS.l0 k a b (i : Int)) (decide (a.drop i = b.drop i)) := by
  intro d
  induction d with
  | zero =>
    intro i hi
    refine Ev.step (fun _ => laws_eqIntS.l0.eq_2 ..) ?_
    refine Ev.neg (by omega) ?_
    refine (Ev.now _).to ?_
    rw [List.drop_of_length_le (by omega), List.drop_of_length_le (by omega)]
    simp
  | succ d ih =>
    intro i hi
    refine Ev.step (fun _ => laws_eqIntS.l0.eq_2 ..) ?_
    refine Ev.pos (by omega) ?_
    refine Ev.pos (by omega) ?_
    refine Ev.pos (by omega) ?_
    rw [w64s (n := a.length) (by omega) (by omega), rdn, rdn]
    have e1 : a.drop i = gd a i :: a.drop (i + 1) := by rw [gd_lt (by omega)]; exact List.drop_eq_getElem_cons (by omega)
    have e2 : b.drop i = gd b i :: b.drop (i + 1) := by rw [gd_lt (by omega)]; exact List.drop_eq_getElem_cons (by omega)
    refine Ev.ite (fun h => ?_) (fun h => ?_)
    · refine (ih (i + 1) (by omega)).to ?_
      rw [e1, e2, h]
      simp
    · refine (Ev.now _).to ?_
      rw [e1, e2]
      simp [h]
theorem eqIntS_ev (a b : List Int) (hl : a.length ≤ 35184372088832) : Ev (fun k => laws_eqIntS.f k a b) (decide (a = b)) := by
  unfold laws_eqIntS.f
  refine Ev.ite (fun h => ?_) (fun h => ?_)
  · exact eqIntS_loop a b (by omega) hl a.length 0 (by omega)
  · refine (Ev.now _).to ?_
    have : a ≠ b := fun e => h (by rw [e])
    simp [this]
theorem eqIntS_same (a : List Int) (hl : a.length ≤ 35184372088832) : Ev (fun k => laws_eqIntS.f k a a) true := (eqIntS_ev a a hl).to (by simp)
abbrev IOp := S87
abbrev LOp := S109
theorem rdO_n (xs : List IOp) (i : Nat) : rd_T87 xs (i : Int) = xs.getD i z87 := by simp [rd_T87]
theorem rdL_n (xs : List LOp) (i : Nat) : rd_T109 xs (i : Int) = xs.getD i z109 := by simp [rd_T109]
def inB (n x : Int) : Bool := decide (0 ≤ x ∧ x < n)
def powI (n k : Int) : Int := n ^ k.toNat
def opB (n a : Int) (l : List Int) : Bool := decide (0 ≤ a ∧ a ≤ 3) && (decide ((l.length : Int) = powI n a) && l.all (inB n))
def algB (n : Int) (ops : List IOp) : Bool := sizeB n && (decide (ops.length ≤ 4) && ops.all fun x => opB n x.f0 x.f1)
theorem impl_power_ev (n k : Int) (hn : 1 ≤ n ∧ n ≤ 8) (hk : 0 ≤ k ∧ k ≤ 3) : Ev (fun f => impl_power.f f n k) (powI n k) := by
  have h1 : n = 1 ∨ n = 2 ∨ n = 3 ∨ n = 4 ∨ n = 5 ∨ n = 6 ∨ n = 7 ∨ n = 8 := by omega
  have h2 : k = 0 ∨ k = 1 ∨ k = 2 ∨ k = 3 := by omega
  refine Ev.of (fun f => impl_power.mono n k f) (k := 5) ?_
  rcases h1 with rfl | rfl | rfl | rfl | rfl | rfl | rfl | rfl <;> rcases h2 with rfl | rfl | rfl | rfl <;> decide +kernel
theorem spec_l2Pow_ev (n k : Int) (hn : 1 ≤ n ∧ n ≤ 8) (hk : 0 ≤ k ∧ k ≤ 3) : Ev (fun f => spec_l2Pow.f f n k) (powI n k) := by
  have h1 : n = 1 ∨ n = 2 ∨ n = 3 ∨ n = 4 ∨ n = 5 ∨ n = 6 ∨ n = 7 ∨ n = 8 := by omega
  have h2 : k = 0 ∨ k = 1 ∨ k = 2 ∨ k = 3 := by omega
  refine Ev.of (fun f => spec_l2Pow.mono n k f) (k := 5) ?_
  rcases h1 with rfl | rfl | rfl | rfl | rfl | rfl | rfl | rfl <;> rcases h2 with rfl | rfl | rfl | rfl <;> decide +kernel
theorem impl_inSize_ev (l : List Int) (n : Int) (hl : l.length ≤ 35184372088832) : Ev (fun k => impl_inSize.f k l n) (l.all (inB n)) := by
  unfold impl_inSize.f
  refine all_loop l 0 (inB n) (fun k i => impl_inSize.l0 k n l (l.length : Int) i) ?_ ?_ ?_ l.length 0 (by omega)
  · exact Ev.step (fun _ => impl_inSize.l0.eq_2 ..) (Ev.neg (by omega) (Ev.now _))
  · intro i r hi hp h
    have hp' := of_decide_eq_true hp
    refine Ev.step (fun _ => impl_inSize.l0.eq_2 ..) ?_
    rw [w64s (n := l.length) (by omega) (by omega), rdn]
    change 0 ≤ gd l i ∧ gd l i < n at hp'
    exact Ev.pos (by omega) (Ev.pos (by omega) (Ev.pos (by omega) (Ev.neg (by omega) (Ev.neg (by omega) h))))
  · intro i hi hp
    have hp' := of_decide_eq_false hp
    change ¬ (0 ≤ gd l i ∧ gd l i < n) at hp'
    refine Ev.step (fun _ => impl_inSize.l0.eq_2 ..) ?_
    rw [rdn]
    refine Ev.pos (by omega) (Ev.pos (by omega) (Ev.pos (by omega) (Ev.ite (fun _ => Ev.now _) (fun h1 => Ev.pos (by omega) (Ev.now _)))))
theorem impl_isOp_ev (n a : Int) (l : List Int) (hn : sizeB n = true) (hl : l.length ≤ 35184372088832) : Ev (fun k => impl_isOp.f k a l n) (opB n a l) := by
  have hn' := of_decide_eq_true hn
  unfold impl_isOp.f opB
  refine Ev.ite (fun h1 => Ev.ite (fun h2 => ?_) (fun h2 => (Ev.now _).to ?_)) (fun h1 => (Ev.now _).to ?_)
  · refine (impl_power_ev n a hn' ⟨by omega, by omega⟩).bind (Ev.ite (fun h3 => ?_) (fun h3 => (Ev.now _).to ?_))
    · refine (impl_inSize_ev l n hl).bind ((Ev.now _).to ?_)
      rw [decide_eq_true (show 0 ≤ a ∧ a ≤ 3 by omega), decide_eq_true h3]
      simp
    · rw [decide_eq_false h3]
      simp
  · rw [decide_eq_false (show ¬ (0 ≤ a ∧ a ≤ 3) by omega)]
    simp
  · rw [decide_eq_false (show ¬ (0 ≤ a ∧ a ≤ 3) by omega)]
    simp
theorem spec_l2Op_ev (n a : Int) (l : List Int) (hn : sizeB n = true) (hl : l.length ≤ 35184372088832) : Ev (fun k => spec_l2Op.f k n a l) (opB n a l) := by
  have hn' := of_decide_eq_true hn
  have loop : Ev (fun k => spec_l2Op.l0 k n 0 a l) (l.all (inB n)) := by
    refine all_loop l 0 (inB n) (fun k i => spec_l2Op.l0 k n i a l) ?_ ?_ ?_ l.length 0 (by omega)
    · exact Ev.step (fun _ => spec_l2Op.l0.eq_2 ..) (Ev.neg (by omega) (Ev.now _))
    · intro i r hi hp h
      have hp' := of_decide_eq_true hp
      change 0 ≤ gd l i ∧ gd l i < n at hp'
      refine Ev.step (fun _ => spec_l2Op.l0.eq_2 ..) ?_
      rw [w64s (n := l.length) (by omega) (by omega), rdn, spec_l1In_eq, w64 (by omega) (by omega)]
      refine Ev.pos (by omega) (Ev.pos (by omega) (Ev.bind1 (Ev.pos (decide_eq_true (by omega)) h)))
    · intro i hi hp
      have hp' := of_decide_eq_false hp
      change ¬ (0 ≤ gd l i ∧ gd l i < n) at hp'
      refine Ev.step (fun _ => spec_l2Op.l0.eq_2 ..) ?_
      rw [rdn, spec_l1In_eq, w64 (by omega) (by omega)]
      refine Ev.pos (by omega) (Ev.pos (by omega) (Ev.bind1 (Ev.neg (by rw [decide_eq_true_eq]; omega) (Ev.now _))))
  unfold spec_l2Op.f opB
  rw [spec_l1In_eq]
  refine Ev.bind1 (Ev.ite (fun h1 => ?_) (fun h1 => ?_))
  · have h1' := of_decide_eq_true h1
    refine (spec_l2Pow_ev n a hn' h1').bind ?_
    refine Ev.step (fun _ => spec_l2Op.j0.eq_2 ..) (Ev.ite (fun h2 => (Ev.now _).to ?_) (fun h2 => loop.to ?_))
    · have : ¬ ((l.length : Int) = powI n a) := by simpa using h2
      simp [this]
    · have : (l.length : Int) = powI n a := by simpa using h2
      rw [decide_eq_true h1', decide_eq_true this]
      simp
  · refine Ev.step (fun _ => spec_l2Op.j0.eq_2 ..) (Ev.pos rfl ((Ev.now _).to ?_))
    simp at h1 ⊢
    omega
def fitO (ops : List IOp) : Prop := ops.length ≤ 8796093022208 ∧ ∀ x ∈ ops, x.f1.length ≤ 1048576
theorem fitO_at {ops : List IOp} (h : fitO ops) {i : Nat} (hi : i < ops.length) : (ops.getD i z87).f1.length ≤ 1048576 := by
  refine h.2 _ ?_
  rw [List.getD_eq_getElem?_getD, List.getElem?_eq_getElem hi]
  exact List.getElem_mem hi
theorem impl_IsAlgebra_ev (n : Int) (ops : List IOp) (hf : fitO ops) : Ev (fun k => impl_IsAlgebra.f k n ops) (algB n ops) := by
  have hl := hf.1
  have loop : sizeB n = true → Ev (fun k => impl_IsAlgebra.l0 k ops (ops.length : Int) 0 n ops) (ops.all fun x => opB n x.f0 x.f1) := by
    intro hn
    refine all_loop ops z87 (fun x => opB n x.f0 x.f1) (fun k i => impl_IsAlgebra.l0 k ops (ops.length : Int) i n ops) ?_ ?_ ?_ ops.length 0 (by omega)
    · exact Ev.step (fun _ => impl_IsAlgebra.l0.eq_2 ..) (Ev.neg (by omega) (Ev.now _))
    · intro i r hi hp h
      refine Ev.step (fun _ => impl_IsAlgebra.l0.eq_2 ..) ?_
      rw [w64s (n := ops.length) (by omega) (by omega), rdO_n]
      have he := impl_isOp_ev n (ops.getD i z87).f0 (ops.getD i z87).f1 hn (by have := fitO_at hf hi; omega)
      rw [hp] at he
      exact Ev.pos (by omega) (Ev.pos (by omega) (Ev.pos (by omega) (he.bind (Ev.pos rfl h))))
    · intro i hi hp
      refine Ev.step (fun _ => impl_IsAlgebra.l0.eq_2 ..) ?_
      rw [rdO_n]
      have he := impl_isOp_ev n (ops.getD i z87).f0 (ops.getD i z87).f1 hn (by have := fitO_at hf hi; omega)
      rw [hp] at he
      exact Ev.pos (by omega) (Ev.pos (by omega) (Ev.pos (by omega) (he.bind (Ev.neg (by decide) (Ev.now _)))))
  unfold impl_IsAlgebra.f
  have no : sizeB n = false → algB n ops = false := fun h => by simp [algB, h]
  refine Ev.ite (fun h => ?_) (fun h => Ev.ite (fun h' => ?_) (fun h' => ?_))
  · exact Ev.step (fun _ => impl_IsAlgebra.j0.eq_2 ..) (Ev.pos rfl ((Ev.now _).to (no (decide_eq_false (by omega))).symm))
  · exact Ev.step (fun _ => impl_IsAlgebra.j0.eq_2 ..) (Ev.pos rfl ((Ev.now _).to (no (decide_eq_false (by omega))).symm))
  · have hn : sizeB n = true := decide_eq_true (by omega)
    refine Ev.step (fun _ => impl_IsAlgebra.j0.eq_2 ..) (Ev.ite (fun h2 => (Ev.now _).to ?_) (fun h2 => (loop hn).to ?_))
    · have := of_decide_eq_true h2
      simp [algB, show ¬ ops.length ≤ 4 by omega]
    · have : ops.length ≤ 4 := by simp at h2; omega
      simp [algB, hn, this]
theorem spec_l2Good_ev (n : Int) (ops : List IOp) (hf : fitO ops) : Ev (fun k => spec_l2Good.f k n ops) (algB n ops) := by
  have hl := hf.1
  have loop : sizeB n = true → Ev (fun k => spec_l2Good.l0 k 0 n ops) (ops.all fun x => opB n x.f0 x.f1) := by
    intro hn
    refine all_loop ops z87 (fun x => opB n x.f0 x.f1) (fun k i => spec_l2Good.l0 k i n ops) ?_ ?_ ?_ ops.length 0 (by omega)
    · exact Ev.step (fun _ => spec_l2Good.l0.eq_2 ..) (Ev.neg (by omega) (Ev.now _))
    · intro i r hi hp h
      refine Ev.step (fun _ => spec_l2Good.l0.eq_2 ..) ?_
      rw [w64s (n := ops.length) (by omega) (by omega), rdO_n]
      have he := spec_l2Op_ev n (ops.getD i z87).f0 (ops.getD i z87).f1 hn (by have := fitO_at hf hi; omega)
      rw [hp] at he
      exact Ev.pos (by omega) (Ev.pos (by omega) (he.bind (Ev.pos rfl h)))
    · intro i hi hp
      refine Ev.step (fun _ => spec_l2Good.l0.eq_2 ..) ?_
      rw [rdO_n]
      have he := spec_l2Op_ev n (ops.getD i z87).f0 (ops.getD i z87).f1 hn (by have := fitO_at hf hi; omega)
      rw [hp] at he
      exact Ev.pos (by omega) (Ev.pos (by omega) (he.bind (Ev.neg (by decide) (Ev.now _))))
  unfold spec_l2Good.f
  rw [spec_l1In_eq]
  refine Ev.bind1 (Ev.ite (fun h => ?_) (fun h => ?_))
  · refine Ev.step (fun _ => spec_l2Good.j0.eq_2 ..) (Ev.ite (fun h2 => (Ev.now _).to ?_) (fun h2 => (loop h).to ?_))
    · have := of_decide_eq_true h2
      simp [algB, show ¬ ops.length ≤ 4 by omega]
    · have : ops.length ≤ 4 := by simp at h2; omega
      have h' : sizeB n = true := h
      simp [algB, h', this]
  · refine Ev.step (fun _ => spec_l2Good.j0.eq_2 ..) (Ev.pos rfl ((Ev.now _).to ?_))
    have h' : sizeB n = false := by simpa [sizeB] using h
    simp [algB, h']
def argsM (n : Int) : Nat → Int → List Int
  | 0, _ => []
  | k + 1, i => argsM n k (i / n) ++ [i % n]
def valM (n : Int) (l : List Int) : Int := l.foldl (fun at_ x => at_ * n + x) 0
theorem argsM_length (n : Int) : ∀ (k : Nat) (i : Int), (argsM n k i).length = k := by
  intro k
  induction k with
  | zero => intro i; rfl
  | succ k ih => intro i; simp [argsM, ih]
theorem argsM_in {n : Int} (hn : 1 ≤ n) : ∀ (k : Nat) (i : Int), 0 ≤ i → ∀ x ∈ argsM n k i, 0 ≤ x ∧ x < n := by
  intro k
  induction k with
  | zero => intro i _ x hx; simp [argsM] at hx
  | succ k ih =>
    intro i hi x hx
    simp only [argsM, List.mem_append, List.mem_singleton] at hx
    rcases hx with hx | rfl
    · exact ih _ (Int.ediv_nonneg hi (by omega)) x hx
    · exact ⟨Int.emod_nonneg _ (by omega), Int.emod_lt_of_pos _ (by omega)⟩
theorem valM_snoc (n : Int) (l : List Int) (x : Int) : valM n (l ++ [x]) = valM n l * n + x := by simp [valM]
theorem rev_ind {α : Type} {P : List α → Prop} (h0 : P []) (h1 : ∀ l x, P l → P (l ++ [x])) (l : List α) : P l := by
  have key : ∀ (n : Nat) (l : List α), l.length = n → P l := by
    intro n
    induction n with
    | zero =>
      intro l hl
      have : l = [] := List.eq_nil_of_length_eq_zero hl
      subst this
      exact h0
    | succ n ih =>
      intro l hl
      have hne : l ≠ [] := fun h => by subst h; simp at hl
      rw [← List.dropLast_concat_getLast hne]
      exact h1 _ _ (ih _ (by simp [hl]))
  exact key l.length l rfl
theorem valM_in {n : Int} (hn : 1 ≤ n) (l : List Int) : (∀ x ∈ l, 0 ≤ x ∧ x < n) → 0 ≤ valM n l ∧ valM n l < n ^ l.length := by
  induction l using rev_ind with
  | h0 => intro _; simp [valM]
  | h1 l x ih =>
    intro h
    obtain ⟨h1, h2⟩ := ih (fun y hy => h y (by simp [hy]))
    obtain ⟨h3, h4⟩ := h x (by simp)
    rw [valM_snoc, List.length_append, List.length_singleton, Int.pow_succ]
    have h5 : 0 ≤ valM n l * n := Int.mul_nonneg h1 (by omega)
    have h6 : (valM n l + 1) * n ≤ n ^ l.length * n := Int.mul_le_mul_of_nonneg_right (by omega) (by omega)
    rw [Int.add_mul] at h6
    omega
theorem div_in {i n : Int} (h0 : 0 ≤ i) (hi : i ≤ 1152921504606846976) (hn : 1 ≤ n) : wrap64 (Int.tdiv i n) = i / n ∧ 0 ≤ i / n ∧ i / n ≤ i := by
  have h1 : Int.tdiv i n = i / n := Int.tdiv_eq_ediv_of_nonneg h0
  have h2 : 0 ≤ i / n := Int.ediv_nonneg h0 (by omega)
  have h3 : i / n ≤ i := Int.ediv_le_self n h0
  exact ⟨by rw [h1, w64 (by omega) (by omega)], h2, h3⟩
theorem impl_argsAt_loop (n : Int) (hn : 1 ≤ n) (k : Nat) (hk : k ≤ 8796093022208) : ∀ (j : Nat) (i : Int) (x : List Int), j ≤ k → x.length = k → 0 ≤ i → i ≤ 1152921504606846976 → Ev (fun f => impl_argsAt.l0 f i n x ((j : Int) - 1)) (argsM n j i ++ x.drop j) := by
  intro j
  induction j with
  | zero =>
    intro i x _ _ _ _
    exact Ev.step (fun _ => impl_argsAt.l0.eq_2 ..) (Ev.neg (by omega) (Ev.now _))
  | succ j ih =>
    intro i x hj hx h0 hi
    obtain ⟨e1, e2, e3⟩ := div_in h0 hi hn
    refine Ev.step (fun _ => impl_argsAt.l0.eq_2 ..) (Ev.pos (by omega) (Ev.neg (by omega) (Ev.pos (by omega) (Ev.pos (by omega) ?_))))
    rw [e1, Int.tmod_eq_emod_of_nonneg h0, show (((j + 1 : Nat) : Int) - 1).toNat = j by omega, w64 (x := ((j + 1 : Nat) : Int) - 1 - 1) (by omega) (by omega), show (((j + 1 : Nat) : Int) - 1 - 1) = (j : Int) - 1 by omega]
    refine (ih (i / n) (x.set j (i % n)) (by omega) (by simpa using hx) e2 (by omega)).to ?_
    rw [argsM, List.append_assoc]
    congr 1
    rw [List.drop_eq_getElem_cons (by simp; omega), List.drop_set_of_lt (by omega)]
    simp
theorem impl_argsAt_ev (n : Int) (k : Nat) (i : Int) (hn : 1 ≤ n) (hk : k ≤ 3) (h0 : 0 ≤ i) (hi : i ≤ 1152921504606846976) : Ev (fun f => impl_argsAt.f f i (k : Int) n) (argsM n k i) := by
  unfold impl_argsAt.f
  refine Ev.pos (by omega) (Ev.pos (by omega) ?_)
  rw [w64 (by omega) (by omega)]
  exact (impl_argsAt_loop n hn k (by omega) k i _ (Nat.le_refl _) (by simp) h0 hi).to (by simp)
theorem spec_l2Args_loop (n : Int) (hn : 1 ≤ n) (k : Nat) (hk : k ≤ 8796093022208) : ∀ (j : Nat) (i : Int) (x : List Int), j ≤ k → x.length = k → 0 ≤ i → i ≤ 1152921504606846976 → Ev (fun f => spec_l2Args.l0 f n i x ((j : Int) - 1)) (argsM n j i ++ x.drop j) := by
  intro j
  induction j with
  | zero =>
    intro i x _ _ _ _
    exact Ev.step (fun _ => spec_l2Args.l0.eq_2 ..) (Ev.neg (by omega) (Ev.now _))
  | succ j ih =>
    intro i x hj hx h0 hi
    obtain ⟨e1, e2, e3⟩ := div_in h0 hi hn
    refine Ev.step (fun _ => spec_l2Args.l0.eq_2 ..) (Ev.pos (by omega) (Ev.neg (by omega) (Ev.pos (by omega) (Ev.pos (by omega) ?_))))
    rw [e1, Int.tmod_eq_emod_of_nonneg h0, show (((j + 1 : Nat) : Int) - 1).toNat = j by omega, w64 (x := ((j + 1 : Nat) : Int) - 1 - 1) (by omega) (by omega), show (((j + 1 : Nat) : Int) - 1 - 1) = (j : Int) - 1 by omega]
    refine (ih (i / n) (x.set j (i % n)) (by omega) (by simpa using hx) e2 (by omega)).to ?_
    rw [argsM, List.append_assoc]
    congr 1
    rw [List.drop_eq_getElem_cons (by simp; omega), List.drop_set_of_lt (by omega)]
    simp
theorem spec_l2Args_ev (n : Int) (k : Nat) (i : Int) (hn : 1 ≤ n) (hk : k ≤ 3) (h0 : 0 ≤ i) (hi : i ≤ 1152921504606846976) : Ev (fun f => spec_l2Args.f f n (k : Int) i) (argsM n k i) := by
  unfold spec_l2Args.f
  refine Ev.pos (by omega) (Ev.pos (by omega) ?_)
  rw [w64 (by omega) (by omega)]
  exact (spec_l2Args_loop n hn k (by omega) k i _ (Nat.le_refl _) (by simp) h0 hi).to (by simp)
theorem grow_in {n a x : Int} (hn : 1 ≤ n ∧ n ≤ 8) (ha : 0 ≤ a ∧ a ≤ 1048576) (hx : 0 ≤ x ∧ x < n) : wrap64 (wrap64 (a * n) + x) = a * n + x := by
  have h1 : 0 ≤ a * n := Int.mul_nonneg ha.1 (by omega)
  have h2 : a * n ≤ 1048576 * 8 := Int.mul_le_mul ha.2 hn.2 (by omega) (by omega)
  rw [w64 (x := a * n) (by omega) (by omega), w64 (by omega) (by omega)]
theorem pow_le3 {n : Int} (hn : 1 ≤ n ∧ n ≤ 8) {k : Nat} (hk : k ≤ 3) : n ^ k ≤ 512 := by
  have h1 : n = 1 ∨ n = 2 ∨ n = 3 ∨ n = 4 ∨ n = 5 ∨ n = 6 ∨ n = 7 ∨ n = 8 := by omega
  have h2 : k = 0 ∨ k = 1 ∨ k = 2 ∨ k = 3 := by omega
  rcases h1 with rfl | rfl | rfl | rfl | rfl | rfl | rfl | rfl <;> rcases h2 with rfl | rfl | rfl | rfl <;> decide
theorem spec_l2Value_loop (n : Int) (ops : List IOp) (op : Nat) (args : List Int) (hn : 1 ≤ n ∧ n ≤ 8) (hop : op < ops.length) (ha : ∀ x ∈ args, 0 ≤ x ∧ x < n) (hl : args.length ≤ 3) (ht : n ^ args.length ≤ ((ops.getD op z87).f1.length : Int)) :
    ∀ (d i : Nat), i + d = args.length → Ev (fun k => spec_l2Value.l0 k (op : Int) args (valM n (args.take i)) (i : Int) n ops) (gd (ops.getD op z87).f1 (valM n args).toNat) := by
  have hv := valM_in hn.1 args ha
  intro d
  induction d with
  | zero =>
    intro i hi
    refine Ev.step (fun _ => spec_l2Value.l0.eq_2 ..) (Ev.neg (by omega) ?_)
    rw [List.take_of_length_le (by omega), rdO_n]
    exact Ev.pos (by omega) (Ev.pos (by omega) (Ev.pos hv.1 (Ev.pos (by omega) (Ev.now _))))
  | succ d ih =>
    intro i hi
    have hx := ha (gd args i) (by rw [gd_lt (by omega)]; exact List.getElem_mem _)
    have hvi := valM_in hn.1 (args.take i) (fun x h => ha x (List.mem_of_mem_take h))
    have h512 := pow_le3 hn (k := (args.take i).length) (by simp; omega)
    refine Ev.step (fun _ => spec_l2Value.l0.eq_2 ..) (Ev.pos (by omega) (Ev.pos (by omega) ?_))
    rw [rdn, grow_in hn ⟨hvi.1, by omega⟩ hx, w64s (n := args.length) (by omega) (by omega), ← valM_snoc, take_snoc _ (by omega)]
    exact ih (i + 1) (by omega)
theorem spec_l2Value_ev (n : Int) (ops : List IOp) (op : Nat) (args : List Int) (hn : 1 ≤ n ∧ n ≤ 8) (hop : op < ops.length) (ha : ∀ x ∈ args, 0 ≤ x ∧ x < n) (hl : args.length ≤ 3) (ht : n ^ args.length ≤ ((ops.getD op z87).f1.length : Int)) :
    Ev (fun k => spec_l2Value.f k n ops (op : Int) args) (gd (ops.getD op z87).f1 (valM n args).toNat) := by
  unfold spec_l2Value.f
  exact spec_l2Value_loop n ops op args hn hop ha hl ht args.length 0 (by omega)
theorem algB_size {n : Int} {ops : List IOp} (h : algB n ops = true) : 1 ≤ n ∧ n ≤ 8 := by
  simp [algB] at h
  exact of_decide_eq_true h.1
theorem algB_few {n : Int} {ops : List IOp} (h : algB n ops = true) : ops.length ≤ 4 := by
  simp [algB] at h
  exact h.2.1
theorem algB_op {n : Int} {ops : List IOp} (h : algB n ops = true) {i : Nat} (hi : i < ops.length) : opB n (ops.getD i z87).f0 (ops.getD i z87).f1 = true := by
  simp [algB] at h
  have := h.2.2 (ops.getD i z87) (by rw [List.getD_eq_getElem?_getD, List.getElem?_eq_getElem hi]; exact List.getElem_mem hi)
  exact this
theorem opB_of {n a : Int} {l : List Int} (h : opB n a l = true) : ∃ k : Nat, a = k ∧ k ≤ 3 ∧ (l.length : Int) = n ^ k ∧ ∀ x ∈ l, 0 ≤ x ∧ x < n := by
  simp only [opB, Bool.and_eq_true, decide_eq_true_eq, List.all_eq_true, inB] at h
  refine ⟨a.toNat, by omega, by omega, h.2.1, h.2.2⟩
def conv (l : List LOp) : List IOp := l.map fun x => ⟨x.f0, x.f1⟩
theorem conv_length (l : List LOp) : (conv l).length = l.length := by simp [conv]
theorem laws_szIntS_eq (l : List Int) (t : Int) (hl : l.length ≤ maxLen) (ht : 0 ≤ t ∧ t ≤ 1048576) : ∃ r, laws_szIntS.f l t = some r ∧ -1 ≤ r ∧ (0 ≤ r → r = t - l.length) ∧ (r < 0 → t < (l.length : Int)) := by
  unfold maxLen at hl
  unfold laws_szIntS.f
  rw [w64 (by omega) (by omega)]
  split
  · exact ⟨-1, rfl, by omega, by omega, by omega⟩
  · exact ⟨_, rfl, by omega, by omega, by omega⟩
theorem laws_szOp_eq (a : Int) (l : List Int) (t : Int) (hl : l.length ≤ maxLen) (ht : 0 ≤ t ∧ t ≤ 1048576) : ∃ r, laws_szOp.f a l t = some r ∧ -1 ≤ r ∧ (0 ≤ r → r = t - l.length) ∧ (r < 0 → t < (l.length : Int)) := by
  obtain ⟨r, hr, h1, h2, h3⟩ := laws_szIntS_eq l t hl ht
  unfold laws_szOp.f
  rw [hr]
  simp only [Option.bind_some]
  split
  · exact ⟨-1, rfl, by omega, by omega, fun _ => h3 (by omega)⟩
  · exact ⟨r, rfl, h1, h2, h3⟩
theorem laws_szOpS_loop (l : List LOp) (hl : l.length ≤ 1048576) (hg : ∀ x ∈ l, x.f1.length ≤ maxLen) : ∀ (d i : Nat) (t : Int), i + d = l.length → 0 ≤ t ∧ t ≤ 1048576 →
    ∃ r, Ev (fun k => laws_szOpS.l0 k l t (i : Int)) r ∧ -1 ≤ r ∧ r ≤ t ∧ (0 ≤ r → ∀ x ∈ l.drop i, (x.f1.length : Int) ≤ t) := by
  intro d
  induction d with
  | zero =>
    intro i t hi ht
    refine ⟨t, Ev.step (fun _ => laws_szOpS.l0.eq_2 ..) (Ev.neg (by omega) (Ev.now _)), by omega, by omega, fun _ x hx => ?_⟩
    rw [List.drop_of_length_le (by omega)] at hx
    simp at hx
  | succ d ih =>
    intro i t hi ht
    have hm : l.getD i z109 ∈ l := by
      rw [List.getD_eq_getElem?_getD, List.getElem?_eq_getElem (by omega)]
      exact List.getElem_mem _
    obtain ⟨r, hr, h1, h2, h3⟩ := laws_szOp_eq (l.getD i z109).f0 (l.getD i z109).f1 t (hg _ hm) ht
    by_cases hn : r < 0
    · refine ⟨-1, Ev.step (fun _ => laws_szOpS.l0.eq_2 ..) ?_, by omega, by omega, by omega⟩
      rw [rdL_n, hr]
      exact Ev.pos (by omega) (Ev.pos (by omega) (Ev.bind1 (Ev.pos hn (Ev.now _))))
    · have he := h2 (by omega)
      obtain ⟨q, hq, h4, h5, h6⟩ := ih (i + 1) r (by omega) (by omega)
      refine ⟨q, Ev.step (fun _ => laws_szOpS.l0.eq_2 ..) ?_, h4, by omega, fun h0 x hx => ?_⟩
      · rw [rdL_n, hr, w64s (n := l.length) (by omega) (by omega)]
        exact Ev.pos (by omega) (Ev.pos (by omega) (Ev.bind1 (Ev.neg hn hq)))
      · rw [drop_cons l z109 (by omega), List.mem_cons] at hx
        rcases hx with rfl | hx
        · omega
        · have := h6 h0 x hx
          omega
theorem laws_szOpS_ev (l : List LOp) (t : Int) (hl : l.length ≤ maxLen) (hg : ∀ x ∈ l, x.f1.length ≤ maxLen) (ht : 0 ≤ t ∧ t ≤ 1048576) :
    ∃ r, Ev (fun k => laws_szOpS.f k l t) r ∧ -1 ≤ r ∧ r ≤ t ∧ (0 ≤ r → (l.length : Int) ≤ t ∧ ∀ x ∈ l, (x.f1.length : Int) ≤ t) := by
  unfold maxLen at hl
  by_cases h : t - (l.length : Int) < 0
  · refine ⟨-1, ?_, by omega, by omega, by omega⟩
    unfold laws_szOpS.f
    rw [w64 (by omega) (by omega)]
    exact Ev.pos h (Ev.now _)
  · obtain ⟨r, h1, h2, h3, h4⟩ := laws_szOpS_loop l (by omega) hg l.length 0 (t - l.length) (by omega) (by omega)
    refine ⟨r, ?_, h2, by omega, fun h0 => ⟨by omega, fun x hx => ?_⟩⟩
    · unfold laws_szOpS.f
      rw [w64 (by omega) (by omega)]
      exact Ev.neg h h1
    · have := h4 h0 x (by simpa using hx)
      omega
theorem laws_szAlgebra_ev (s : Int) (l : List LOp) (t : Int) (hl : l.length ≤ maxLen) (hg : ∀ x ∈ l, x.f1.length ≤ maxLen) (ht : 0 ≤ t ∧ t ≤ 1048576) :
    ∃ r, Ev (fun k => laws_szAlgebra.f k s l t) r ∧ -1 ≤ r ∧ r ≤ t ∧ (0 ≤ r → (l.length : Int) ≤ t ∧ ∀ x ∈ l, (x.f1.length : Int) ≤ t) := by
  obtain ⟨r, h1, h2, h3, h4⟩ := laws_szOpS_ev l t hl hg ht
  unfold laws_szAlgebra.f
  by_cases h : r < 0
  · exact ⟨-1, h1.bind (Ev.pos h (Ev.now _)), by omega, by omega, by omega⟩
  · exact ⟨r, h1.bind (Ev.neg h (Ev.now _)), h2, h3, h4⟩
theorem laws_toOp_ev (a : Int) (l : List Int) (hl : l.length ≤ 35184372088832) : Ev (fun k => laws_toOp.f k a l) (a, l) := by
  unfold laws_toOp.f
  exact (toIntS_ev l hl).bind (Ev.now _)
theorem laws_toOpS_ev (l : List LOp) (hl : l.length ≤ 8796093022208) (hg : ∀ x ∈ l, x.f1.length ≤ 35184372088832) : Ev (fun k => laws_toOpS.f k l) (conv l) := by
  unfold laws_toOpS.f
  refine Ev.pos (by omega) (Ev.pos (by omega) ?_)
  refine set_loop l z109 (fun x : LOp => (⟨x.f0, x.f1⟩ : IOp)) (fun k out i => laws_toOpS.l0 k l out i) (conv l) ?_ ?_ l.length 0 _ (by omega) (by simp) (fun j hj => by omega)
  · exact Ev.step (fun _ => laws_toOpS.l0.eq_2 ..) (Ev.neg (by omega) (Ev.now _))
  · intro i out hi ho h
    have hm : l.getD i z109 ∈ l := by
      rw [List.getD_eq_getElem?_getD, List.getElem?_eq_getElem (by omega)]
      exact List.getElem_mem _
    refine Ev.step (fun _ => laws_toOpS.l0.eq_2 ..) ?_
    rw [rdL_n, w64s (n := l.length) (by omega) (by omega), Int.toNat_natCast]
    exact Ev.pos (by omega) (Ev.pos (by omega) ((laws_toOp_ev _ _ (hg _ hm)).bind (Ev.pos (by omega) h)))
theorem laws_toAlgebra_ev (s : Int) (l : List LOp) (hl : l.length ≤ 8796093022208) (hg : ∀ x ∈ l, x.f1.length ≤ 35184372088832) : Ev (fun k => laws_toAlgebra.f k s l) (s, conv l) := by
  unfold laws_toAlgebra.f
  exact (laws_toOpS_ev l hl hg).bind (Ev.now _)
theorem laws_eqOp_same (a : Int) (l : List Int) (hl : l.length ≤ 35184372088832) : Ev (fun k => laws_eqOp.f k a l a l) true := by
  unfold laws_eqOp.f
  exact Ev.pos rfl ((eqIntS_same l hl).bind (Ev.pos rfl (Ev.now _)))
theorem laws_eqOpS_same (l : List IOp) (hf : fitO l) : Ev (fun k => laws_eqOpS.f k l l) true := by
  have hl := hf.1
  unfold laws_eqOpS.f
  refine Ev.pos rfl ?_
  have : Ev (fun k => laws_eqOpS.l0 k l l ((0 : Nat) : Int)) ((l.drop 0).all fun _ => true) := by
    refine all_loop l z87 (fun _ => true) (fun k i => laws_eqOpS.l0 k l l i) ?_ ?_ ?_ l.length 0 (by omega)
    · exact Ev.step (fun _ => laws_eqOpS.l0.eq_2 ..) (Ev.neg (by omega) (Ev.now _))
    · intro i r hi _ h
      refine Ev.step (fun _ => laws_eqOpS.l0.eq_2 ..) ?_
      rw [rdO_n, w64s (n := l.length) (by omega) (by omega)]
      exact Ev.pos (by omega) (Ev.pos (by omega) (Ev.pos (by omega) ((laws_eqOp_same _ _ (by have := fitO_at hf hi; omega)).bind (Ev.pos rfl h))))
    · intro i hi hp
      simp at hp
  exact this.to (by rw [List.all_eq_true]; intro x _; rfl)
theorem laws_eqAlgebra_same (s : Int) (l : List IOp) (hf : fitO l) : Ev (fun k => laws_eqAlgebra.f k s l s l) true := by
  unfold laws_eqAlgebra.f
  exact Ev.pos rfl ((laws_eqOpS_same l hf).bind (Ev.pos rfl (Ev.now _)))
theorem conv_fit (l : List LOp) (hl : l.length ≤ 8796093022208) (hg : ∀ x ∈ l, x.f1.length ≤ 1048576) : fitO (conv l) := by
  refine ⟨by rw [conv_length]; exact hl, fun x hx => ?_⟩
  obtain ⟨y, hy, rfl⟩ := List.mem_map.1 hx
  exact hg y hy
theorem range_at {N i : Nat} (h : i < N) : (List.range N).getD i 0 = i := by simp [List.getD, h]
theorem powI_nat (n : Int) (k : Nat) : powI n (k : Int) = n ^ k := by simp [powI]
theorem rdi (l : List Int) {i : Int} (h : 0 ≤ i) : rd l i = gd l i.toNat := by
  obtain ⟨j, rfl⟩ : ∃ j : Nat, i = (j : Int) := ⟨i.toNat, by omega⟩
  rw [rdn, Int.toNat_natCast]
def typ (ops : List IOp) : List Int := ops.map fun x => x.f0
def twoB (n : Int) (A : List IOp) (m : Int) (B : List IOp) : Bool := algB n A && (algB m B && decide (typ A = typ B))
theorem typ_at {A B : List IOp} (h : typ A = typ B) : A.length = B.length ∧ ∀ k, k < A.length → (B.getD k z87).f0 = (A.getD k z87).f0 := by
  have hl : A.length = B.length := by have := congrArg List.length h; simpa [typ] using this
  refine ⟨hl, fun k hk => ?_⟩
  have := congrArg (fun l => l[k]?) h
  simp only [typ, List.getElem?_map, List.getElem?_eq_getElem hk, List.getElem?_eq_getElem (show k < B.length by omega), Option.map_some, Option.some.injEq] at this
  simp [List.getD, hk, show k < B.length by omega, this]
theorem two_of {n m : Int} {A B : List IOp} (h : twoB n A m B = true) : algB n A = true ∧ algB m B = true ∧ A.length = B.length ∧ ∀ k, k < A.length → (B.getD k z87).f0 = (A.getD k z87).f0 := by
  simp only [twoB, Bool.and_eq_true, decide_eq_true_eq] at h
  exact ⟨h.1, h.2.1, typ_at h.2.2⟩
theorem heldIntS_loop (n : Nat) (a : Int) (ha : 0 ≤ a) (hb : a + n ≤ 4611686018427387904) : ∀ (d i : Nat), i + d = n → Ev (fun k => laws_heldIntS.l0 k (asc n a) (a + i) (i : Int)) (a + n) := by
  intro d
  induction d with
  | zero =>
    intro i hi
    refine Ev.step (fun _ => laws_heldIntS.l0.eq_2 ..) ?_
    refine Ev.neg (by rw [asc_length]; omega) ?_
    have : i = n := by omega
    subst this
    exact Ev.now _
  | succ d ih =>
    intro i hi
    refine Ev.step (fun _ => laws_heldIntS.l0.eq_2 ..) ?_
    refine Ev.pos (by rw [asc_length]; omega) ?_
    refine Ev.pos (by omega) ?_
    refine Ev.pos (by rw [rdn, asc_at a (by omega)]) ?_
    rw [w64s (n := n) (by omega) (by omega), w64 (by omega) (by omega), show a + (i : Int) + 1 = a + ((i + 1 : Nat) : Int) by omega]
    exact ih (i + 1) (by omega)
theorem heldIntS_ev (n : Nat) (a : Int) (ha : 0 ≤ a) (hb : a + n ≤ 4611686018427387904) : Ev (fun k => laws_heldIntS.f k (asc n a) a) (a + n) := by
  unfold laws_heldIntS.f
  have := heldIntS_loop n a ha hb n 0 (by omega)
  simpa using this
theorem laws_heldOpS_loop (xs : List IOp) (a : Int) (ha : 0 ≤ a) (hb : a + totO xs ≤ 4611686018427387904) (hl : xs.length ≤ 35184372088832) : ∀ (d i : Nat), i + d = xs.length → Ev (fun k => laws_heldOpS.l0 k (mkOps xs a) (a + (totO (xs.take i) : Int)) (i : Int)) (a + totO xs) := by
  intro d
  induction d with
  | zero =>
    intro i hi
    refine Ev.step (fun _ => laws_heldOpS.l0.eq_2 ..) (Ev.neg (by rw [mkOps_length]; omega) ((Ev.now _).to ?_))
    rw [List.take_of_length_le (by omega)]
  | succ d ih =>
    intro i hi
    have h1 := totO_take (xs := xs) (i := i) (by omega)
    have h2 := totO_le xs (i + 1)
    refine Ev.step (fun _ => laws_heldOpS.l0.eq_2 ..) ?_
    rw [rdO_n, mkOps_at a (by omega), w64s (n := xs.length) (by omega) (by omega), w64 (by omega) (by omega)]
    refine Ev.pos (by rw [mkOps_length]; omega) (Ev.pos (by omega) (Ev.pos rfl ((heldIntS_ev _ _ (by omega) (by omega)).bind (Ev.neg (by omega) ?_))))
    have := ih (i + 1) (by omega)
    rw [h1] at this
    rw [show a + (totO (xs.take i) : Int) + 1 + ((xs.getD i z87).f1.length : Int) = a + ((totO (xs.take i) + ((xs.getD i z87).f1.length + 1) : Nat) : Int) by omega]
    exact this
theorem laws_heldOpS_ev (xs : List IOp) (a : Int) (ha : 0 ≤ a) (hb : a + totO xs ≤ 4611686018427387904) (hl : xs.length ≤ 35184372088832) : Ev (fun k => laws_heldOpS.f k (mkOps xs a) a) (a + totO xs) := by
  unfold laws_heldOpS.f
  have := laws_heldOpS_loop xs a ha hb hl xs.length 0 (by omega)
  simpa [totO] using this
theorem laws_heldAlgebra_ev (s : Int) (xs : List IOp) (a : Int) (ha : 0 ≤ a) (hb : a + totO xs ≤ 4611686018427387904) (hl : xs.length ≤ 35184372088832) : Ev (fun k => laws_heldAlgebra.f k s (mkOps xs a) a) (a + totO xs) := by
  unfold laws_heldAlgebra.f
  exact (laws_heldOpS_ev xs a ha hb hl).bind (Ev.neg (by omega) (Ev.now _))
theorem totO_bound (xs : List IOp) (n m : Nat) (h : xs.length ≤ n) (h' : ∀ x ∈ xs, x.f1.length ≤ m) : totO xs ≤ n * (m + 1) := by
  have key : ∀ xs : List IOp, (∀ x ∈ xs, x.f1.length ≤ m) → totO xs ≤ xs.length * (m + 1) := by
    intro xs
    induction xs with
    | nil => intro _; simp [totO]
    | cons x xs ih =>
      intro h
      have h1 := h x (by simp)
      have h2 := ih (fun y hy => h y (by simp [hy]))
      simp only [totO, List.map_cons, List.sum_cons, List.length_cons, Nat.succ_mul] at h2 ⊢
      omega
  exact Nat.le_trans (key xs h') (Nat.mul_le_mul_right (m + 1) h)
theorem size_gives {l : List LOp} {t : Int} (h : 0 ≤ t → (l.length : Int) ≤ 1048576 ∧ ∀ x ∈ l, (x.f1.length : Int) ≤ 1048576) (ht : 0 ≤ t) :
    l.length ≤ 8796093022208 ∧ (∀ x ∈ l, x.f1.length ≤ 35184372088832) ∧ fitO (conv l) ∧ 1 + (totO (conv l) : Int) ≤ 4611686018427387904 := by
  have h1 := h ht
  have hl : l.length ≤ 1048576 := by omega
  have hx : ∀ x ∈ l, x.f1.length ≤ 1048576 := fun x hx => by have := h1.2 x hx; omega
  have hf := conv_fit l (by omega) hx
  have := totO_bound (conv l) 1048576 1048576 (by rw [conv_length]; exact hl) hf.2
  exact ⟨by omega, fun x h => by have := hx x h; omega, hf, by omega⟩
def divs (m : Int) (l : List Int) : List Int := l.map fun x => x / m
def mods (m : Int) (l : List Int) : List Int := l.map fun x => x % m
def prodT (n m : Int) (ar : Nat) (ta tb : List Int) : List Int :=
  (List.range ((n * m) ^ ar).toNat).map fun i : Nat => gd ta (valM n (divs m (argsM (n * m) ar (i : Int)))).toNat * m + gd tb (valM m (mods m (argsM (n * m) ar (i : Int)))).toNat
def prodO (n : Int) (A : List IOp) (m : Int) (B : List IOp) : List IOp :=
  (List.range A.length).map fun k => ⟨(A.getD k z87).f0, prodT n m (A.getD k z87).f0.toNat (A.getD k z87).f1 (B.getD k z87).f1⟩
theorem divs_length (m : Int) (l : List Int) : (divs m l).length = l.length := by simp [divs]
theorem mods_length (m : Int) (l : List Int) : (mods m l).length = l.length := by simp [mods]
theorem div_lt {n m x : Int} (hm : 1 ≤ m) (h : x < n * m) : x / m < n := Int.ediv_lt_of_lt_mul (by omega) h
theorem divs_in {n m : Int} (hm : 1 ≤ m) {l : List Int} (h : ∀ x ∈ l, 0 ≤ x ∧ x < n * m) : ∀ x ∈ divs m l, 0 ≤ x ∧ x < n := by
  intro x hx
  obtain ⟨y, hy, rfl⟩ := List.mem_map.1 hx
  exact ⟨Int.ediv_nonneg (h y hy).1 (by omega), div_lt hm (h y hy).2⟩
theorem mods_in {m : Int} (hm : 1 ≤ m) (l : List Int) : ∀ x ∈ mods m l, 0 ≤ x ∧ x < m := by
  intro x hx
  obtain ⟨y, hy, rfl⟩ := List.mem_map.1 hx
  exact ⟨Int.emod_nonneg _ (by omega), Int.emod_lt_of_pos _ (by omega)⟩
structure ProdOp (n m : Int) (A B : List IOp) (k ar : Nat) : Prop where
  a0 : (A.getD k z87).f0 = ar
  le : ar ≤ 3
  la : n ^ ar = ((A.getD k z87).f1.length : Int)
  lb : m ^ ar = ((B.getD k z87).f1.length : Int)
  ina : ∀ x ∈ (A.getD k z87).f1, 0 ≤ x ∧ x < n
  inb : ∀ x ∈ (B.getD k z87).f1, 0 ≤ x ∧ x < m
theorem prod_op {n m : Int} {A B : List IOp} (h2 : twoB n A m B = true) {k : Nat} (hk : k < A.length) : ∃ ar, ProdOp n m A B k ar := by
  obtain ⟨ha, hb, hl, ht⟩ := two_of h2
  obtain ⟨ar, e1, e2, e3, e4⟩ := opB_of (algB_op ha hk)
  obtain ⟨br, g1, g2, g3, g4⟩ := opB_of (algB_op hb (i := k) (by omega))
  have : br = ar := by have := ht k hk; omega
  subst this
  exact ⟨br, e1, e2, e3.symm, g3.symm, e4, g4⟩
theorem prodT_length (n m : Int) (ar : Nat) (ta tb : List Int) : (prodT n m ar ta tb).length = ((n * m) ^ ar).toNat := by simp [prodT]
theorem prodO_length (n m : Int) (A B : List IOp) : (prodO n A m B).length = A.length := by simp [prodO]
structure ProdSize (n m : Int) : Prop where
  n1 : 1 ≤ n
  n8 : n ≤ 8
  m1 : 1 ≤ m
  m8 : m ≤ 8
  p1 : 1 ≤ n * m
  p8 : n * m ≤ 8
theorem prod_size {n m : Int} (hn : 1 ≤ n ∧ n ≤ 8) (hm : 1 ≤ m ∧ m ≤ 8) (h : n * m ≤ 8) : ProdSize n m :=
  ⟨hn.1, hn.2, hm.1, hm.2, Int.mul_pos (by omega) (by omega), h⟩
structure ProdAt (n m : Int) (A B : List IOp) (k ar i : Nat) : Prop where
  d1 : ∀ x ∈ divs m (argsM (n * m) ar (i : Int)), 0 ≤ x ∧ x < n
  d2 : ∀ x ∈ mods m (argsM (n * m) ar (i : Int)), 0 ≤ x ∧ x < m
  d3 : ∀ x ∈ argsM (n * m) ar (i : Int), 0 ≤ x ∧ x < n * m
  v1 : 0 ≤ valM n (divs m (argsM (n * m) ar (i : Int)))
  v2 : valM n (divs m (argsM (n * m) ar (i : Int))) < ((A.getD k z87).f1.length : Int)
  v3 : 0 ≤ valM m (mods m (argsM (n * m) ar (i : Int)))
  v4 : valM m (mods m (argsM (n * m) ar (i : Int))) < ((B.getD k z87).f1.length : Int)
  t1 : 0 ≤ gd (A.getD k z87).f1 (valM n (divs m (argsM (n * m) ar (i : Int)))).toNat ∧ gd (A.getD k z87).f1 (valM n (divs m (argsM (n * m) ar (i : Int)))).toNat < n
  t2 : 0 ≤ gd (B.getD k z87).f1 (valM m (mods m (argsM (n * m) ar (i : Int)))).toNat ∧ gd (B.getD k z87).f1 (valM m (mods m (argsM (n * m) ar (i : Int)))).toNat < m
theorem prod_at {n m : Int} {A B : List IOp} {k ar : Nat} (hs : ProdSize n m) (h : ProdOp n m A B k ar) (i : Nat) : ProdAt n m A B k ar i := by
  have a3 := argsM_in (n := n * m) hs.p1 ar (i : Int) (by omega)
  have a1 := divs_in (n := n) hs.m1 a3
  have a2 := mods_in hs.m1 (argsM (n * m) ar (i : Int))
  have b1 := valM_in hs.n1 _ a1
  have b2 := valM_in hs.m1 _ a2
  rw [divs_length, argsM_length, h.la] at b1
  rw [mods_length, argsM_length, h.lb] at b2
  refine ⟨a1, a2, a3, b1.1, b1.2, b2.1, b2.2, ?_, ?_⟩
  · refine h.ina _ ?_
    rw [gd_lt (by omega)]
    exact List.getElem_mem _
  · refine h.inb _ ?_
    rw [gd_lt (by omega)]
    exact List.getElem_mem _
theorem prod_val {n m a b : Int} (hs : ProdSize n m) (ha : 0 ≤ a ∧ a < n) (hb : 0 ≤ b ∧ b < m) : wrap64 (wrap64 (a * m) + b) = a * m + b ∧ 0 ≤ a * m + b ∧ a * m + b < n * m := by
  obtain ⟨n1, n8, m1, m8, p1, p8⟩ := hs
  have h1 : 0 ≤ a * m := Int.mul_nonneg ha.1 (by omega)
  have h2 : (a + 1) * m ≤ n * m := Int.mul_le_mul_of_nonneg_right (by omega) (by omega)
  rw [Int.add_mul] at h2
  rw [w64 (x := a * m) (by omega) (by omega), w64 (by omega) (by omega)]
  omega
theorem prodT_in {n m : Int} {A B : List IOp} {k ar : Nat} (hs : ProdSize n m) (h : ProdOp n m A B k ar) : ∀ x ∈ prodT n m ar (A.getD k z87).f1 (B.getD k z87).f1, 0 ≤ x ∧ x < n * m := by
  intro x hx
  obtain ⟨i, _, rfl⟩ := List.mem_map.1 hx
  have hp := prod_at hs h i
  exact (prod_val hs hp.t1 hp.t2).2
theorem prodO_at {n m : Int} {A B : List IOp} {k : Nat} (hk : k < A.length) : (prodO n A m B).getD k z87 = ⟨(A.getD k z87).f0, prodT n m (A.getD k z87).f0.toNat (A.getD k z87).f1 (B.getD k z87).f1⟩ := by
  simp [prodO, List.getD, hk]
theorem mem_at {ops : List IOp} {x : IOp} (h : x ∈ ops) : ∃ k, k < ops.length ∧ ops.getD k z87 = x := by
  obtain ⟨k, hk, rfl⟩ := List.getElem_of_mem h
  exact ⟨k, hk, by simp [List.getD, hk]⟩
theorem prodO_op {n m : Int} {A B : List IOp} (hs : ProdSize n m) (h2 : twoB n A m B = true) : ∀ x ∈ prodO n A m B, opB (n * m) x.f0 x.f1 = true := by
  intro x hx
  obtain ⟨k, hk, rfl⟩ := mem_at hx
  rw [prodO_length] at hk
  obtain ⟨ar, h⟩ := prod_op h2 hk
  have hN : 0 < (n * m) ^ ar := Int.pow_pos (by have := hs.p1; omega)
  rw [prodO_at hk]
  simp only [opB, Bool.and_eq_true, decide_eq_true_eq, List.all_eq_true, inB, h.a0, Int.toNat_natCast]
  refine ⟨by have := h.le; omega, ?_, prodT_in hs h⟩
  rw [prodT_length, powI_nat]
  omega
theorem prodO_typ (n m : Int) (A B : List IOp) : typ (prodO n A m B) = typ A := by
  unfold typ prodO
  rw [List.map_map]
  apply List.ext_getElem (by simp)
  intro i h1 h2
  have : i < A.length := by simpa using h2
  simp [List.getD, this]
theorem prodO_alg {n m : Int} {A B : List IOp} (hs : ProdSize n m) (h2 : twoB n A m B = true) : algB (n * m) (prodO n A m B) = true := by
  have := algB_few (two_of h2).1
  simp only [algB, sizeB, Bool.and_eq_true, decide_eq_true_eq, List.all_eq_true, prodO_length]
  exact ⟨⟨hs.p1, hs.p8⟩, this, prodO_op hs h2⟩
theorem algB_small {n : Int} {A : List IOp} (h : algB n A = true) : A.length ≤ 4 ∧ ∀ x ∈ A, x.f1.length ≤ 512 := by
  have hn := algB_size h
  refine ⟨algB_few h, fun x hx => ?_⟩
  obtain ⟨k, hk, rfl⟩ := mem_at hx
  obtain ⟨ar, _, e2, e3, _⟩ := opB_of (algB_op h hk)
  have := pow_le3 hn e2
  omega
theorem gd_divs {m : Int} {l : List Int} {i : Nat} (h : i < l.length) : gd (divs m l) i = gd l i / m := by
  rw [gd_lt h, gd_lt (by rw [divs_length]; exact h)]
  simp [divs]
theorem gd_mods {m : Int} {l : List Int} {i : Nat} (h : i < l.length) : gd (mods m l) i = gd l i % m := by
  rw [gd_lt h, gd_lt (by rw [mods_length]; exact h)]
  simp [mods]
theorem impl_product_ev (n m : Int) (A B : List IOp) (h2 : twoB n A m B = true) (h8 : n * m ≤ 8) : Ev (fun g => impl_product.f g n A m B) (n * m, prodO n A m B) := by
  obtain ⟨ha, hb, hl, ht⟩ := two_of h2
  have hs := prod_size (algB_size ha) (algB_size hb) h8
  have hfew := algB_few ha
  obtain ⟨n1, n8, m1, m8, p1, p8⟩ := hs
  have hs : ProdSize n m := ⟨n1, n8, m1, m8, p1, p8⟩
  unfold impl_product.f
  rw [w64 (x := n * m) (by omega) (by omega)]
  refine map_loop (List.range A.length) 0 (fun k => (⟨(A.getD k z87).f0, prodT n m (A.getD k z87).f0.toNat (A.getD k z87).f1 (B.getD k z87).f1⟩ : IOp)) (fun g out k => impl_product.l0 g A (A.length : Int) k n A m B (n * m) out) (n * m, prodO n A m B) ?_ ?_ A.length 0 (by simp)
  · rw [List.length_range]
    exact Ev.step (fun _ => impl_product.l0.eq_2 ..) (Ev.neg (by omega) (Ev.now _))
  · intro k out hk ho hh
    rw [List.length_range] at hk
    rw [range_at hk] at hh
    obtain ⟨ar, hp⟩ := prod_op h2 hk
    rw [hp.a0, Int.toNat_natCast] at hh
    have h512 := pow_le3 (n := n * m) ⟨p1, p8⟩ hp.le
    have hN : 0 < (n * m) ^ ar := Int.pow_pos (by omega)
    have har := hp.le
    refine Ev.step (fun _ => impl_product.l0.eq_2 ..) (Ev.pos (by omega) (Ev.pos (by omega) (Ev.pos (by omega) ?_)))
    rw [rdO_n, hp.a0]
    refine map_loop (List.range ((n * m) ^ ar).toNat) 0 (fun i : Nat => gd (A.getD k z87).f1 (valM n (divs m (argsM (n * m) ar (i : Int)))).toNat * m + gd (B.getD k z87).f1 (valM m (mods m (argsM (n * m) ar (i : Int)))).toNat)
      (fun g tb i => impl_product.l1 g (k : Int) i A (A.length : Int) (k : Int) n A m B (n * m) out (ar : Int) (A.getD k z87).f1 (ar : Int) tb) _ ?_ ?_ ((n * m) ^ ar).toNat 0 (by simp)
    · rw [List.length_range]
      refine Ev.step (fun _ => impl_product.l1.eq_2 ..) ((impl_power_ev (n * m) ar ⟨p1, p8⟩ ⟨by omega, by omega⟩).bind ?_)
      rw [powI_nat, w64s (i := k) (n := A.length) (by omega) (by omega)]
      exact Ev.neg (by omega) (Ev.pos (by omega) hh)
    · intro i tb hi hto hh2
      rw [List.length_range] at hi
      rw [range_at hi] at hh2
      have hq := prod_at hs hp i
      refine Ev.step (fun _ => impl_product.l1.eq_2 ..) ((impl_power_ev (n * m) ar ⟨p1, p8⟩ ⟨by omega, by omega⟩).bind ?_)
      rw [powI_nat]
      refine Ev.pos (by omega) ((impl_argsAt_ev (n * m) ar i p1 hp.le (by omega) (by omega)).bind ?_)
      rw [argsM_length]
      have inner : ∀ (d j : Nat), j + d = ar → Ev (fun g => impl_product.l2 g (k : Int) (i : Int) (valM n ((divs m (argsM (n * m) ar (i : Int))).take j)) (valM m ((mods m (argsM (n * m) ar (i : Int))).take j)) A (A.length : Int) (k : Int) (argsM (n * m) ar (i : Int)) (ar : Int) (j : Int) n A m B (n * m) out (ar : Int) (A.getD k z87).f1 (ar : Int) tb) (n * m, prodO n A m B) := by
        intro d
        induction d with
        | zero =>
          intro j hj
          refine Ev.step (fun _ => impl_product.l2.eq_2 ..) (Ev.neg (by omega) ?_)
          rw [List.take_of_length_le (by rw [divs_length, argsM_length]; omega), List.take_of_length_le (by rw [mods_length, argsM_length]; omega), rdO_n, rdi _ hq.v1, rdi _ hq.v3, (prod_val hs hq.t1 hq.t2).1, w64s (i := i) (n := 1000) (by omega) (by omega)]
          exact Ev.pos hq.v1 (Ev.pos hq.v2 (Ev.pos (by omega) (Ev.pos (by omega) (Ev.pos hq.v3 (Ev.pos hq.v4 (Ev.pos (by omega) hh2))))))
        | succ d ih =>
          intro j hj
          have hx := hq.d3 (gd (argsM (n * m) ar (i : Int)) j) (by rw [gd_lt (by rw [argsM_length]; omega)]; exact List.getElem_mem _)
          have hv1 := valM_in n1 ((divs m (argsM (n * m) ar (i : Int))).take j) (fun x h => hq.d1 x (List.mem_of_mem_take h))
          have hv2 := valM_in m1 ((mods m (argsM (n * m) ar (i : Int))).take j) (fun x h => hq.d2 x (List.mem_of_mem_take h))
          have w1 := pow_le3 ⟨n1, n8⟩ (k := ((divs m (argsM (n * m) ar (i : Int))).take j).length) (by simp [divs, argsM_length]; omega)
          have w2 := pow_le3 ⟨m1, m8⟩ (k := ((mods m (argsM (n * m) ar (i : Int))).take j).length) (by simp [mods, argsM_length]; omega)
          obtain ⟨e1, e2, e3⟩ := div_in (i := gd (argsM (n * m) ar (i : Int)) j) (n := m) hx.1 (by omega) m1
          refine Ev.step (fun _ => impl_product.l2.eq_2 ..) (Ev.pos (by omega) (Ev.pos (by omega) (Ev.pos (by rw [argsM_length]; omega) (Ev.neg (by omega) ?_))))
          rw [rdn, e1, Int.tmod_eq_emod_of_nonneg hx.1, grow_in ⟨n1, n8⟩ ⟨hv1.1, by omega⟩ ⟨e2, div_lt m1 hx.2⟩, grow_in ⟨m1, m8⟩ ⟨hv2.1, by omega⟩ ⟨Int.emod_nonneg _ (by omega), Int.emod_lt_of_pos _ (by omega)⟩, w64s (i := j) (n := 1000) (by omega) (by omega),
            ← valM_snoc, ← valM_snoc, ← gd_divs (by rw [argsM_length]; omega), ← gd_mods (by rw [argsM_length]; omega), take_snoc _ (by rw [divs_length, argsM_length]; omega), take_snoc _ (by rw [mods_length, argsM_length]; omega)]
          exact ih (j + 1) (by omega)
      exact inner ar 0 (by omega)
theorem spec_l8Product_ev (n m : Int) (A B : List IOp) (h2 : twoB n A m B = true) (h8 : n * m ≤ 8) : Ev (fun g => spec_l8Product.f g n A m B) (n * m, prodO n A m B) := by
  obtain ⟨ha, hb, hl, ht⟩ := two_of h2
  have hs := prod_size (algB_size ha) (algB_size hb) h8
  have hfew := algB_few ha
  obtain ⟨n1, n8, m1, m8, p1, p8⟩ := hs
  have hs : ProdSize n m := ⟨n1, n8, m1, m8, p1, p8⟩
  unfold spec_l8Product.f
  rw [w64 (x := n * m) (by omega) (by omega)]
  refine map_loop (List.range A.length) 0 (fun k => (⟨(A.getD k z87).f0, prodT n m (A.getD k z87).f0.toNat (A.getD k z87).f1 (B.getD k z87).f1⟩ : IOp)) (fun g out k => spec_l8Product.l0 g k n A m B (n * m) out) (n * m, prodO n A m B) ?_ ?_ A.length 0 (by simp)
  · rw [List.length_range]
    exact Ev.step (fun _ => spec_l8Product.l0.eq_2 ..) (Ev.neg (by omega) (Ev.now _))
  · intro k out hk ho hh
    rw [List.length_range] at hk
    rw [range_at hk] at hh
    obtain ⟨ar, hp⟩ := prod_op h2 hk
    rw [hp.a0, Int.toNat_natCast] at hh
    have h512 := pow_le3 (n := n * m) ⟨p1, p8⟩ hp.le
    have hN : 0 < (n * m) ^ ar := Int.pow_pos (by omega)
    have har := hp.le
    refine Ev.step (fun _ => spec_l8Product.l0.eq_2 ..) (Ev.pos (by omega) (Ev.pos (by omega) ?_))
    rw [rdO_n, hp.a0]
    refine map_loop (List.range ((n * m) ^ ar).toNat) 0 (fun i : Nat => gd (A.getD k z87).f1 (valM n (divs m (argsM (n * m) ar (i : Int)))).toNat * m + gd (B.getD k z87).f1 (valM m (mods m (argsM (n * m) ar (i : Int)))).toNat)
      (fun g tb i => spec_l8Product.l1 g (k : Int) i n A m B (n * m) out (ar : Int) tb) _ ?_ ?_ ((n * m) ^ ar).toNat 0 (by simp)
    · rw [List.length_range]
      refine Ev.step (fun _ => spec_l8Product.l1.eq_2 ..) ((spec_l2Pow_ev (n * m) ar ⟨p1, p8⟩ ⟨by omega, by omega⟩).bind ?_)
      rw [powI_nat, w64s (i := k) (n := A.length) (by omega) (by omega)]
      exact Ev.neg (by omega) (Ev.pos (by omega) hh)
    · intro i tb hi hto hh2
      rw [List.length_range] at hi
      rw [range_at hi] at hh2
      have hq := prod_at hs hp i
      refine Ev.step (fun _ => spec_l8Product.l1.eq_2 ..) ((spec_l2Pow_ev (n * m) ar ⟨p1, p8⟩ ⟨by omega, by omega⟩).bind ?_)
      rw [powI_nat]
      refine Ev.pos (by omega) ((spec_l2Args_ev (n * m) ar i p1 hp.le (by omega) (by omega)).bind ?_)
      have inner : ∀ (d j : Nat), j + d = ar → Ev (fun g => spec_l8Product.l2 g (k : Int) (i : Int) (argsM (n * m) ar (i : Int)) ((divs m (argsM (n * m) ar (i : Int))).take j) ((mods m (argsM (n * m) ar (i : Int))).take j) (j : Int) n A m B (n * m) out (ar : Int) tb) (n * m, prodO n A m B) := by
        intro d
        induction d with
        | zero =>
          intro j hj
          refine Ev.step (fun _ => spec_l8Product.l2.eq_2 ..) (Ev.neg (by rw [argsM_length]; omega) ?_)
          rw [List.take_of_length_le (by rw [divs_length, argsM_length]; omega), List.take_of_length_le (by rw [mods_length, argsM_length]; omega)]
          refine (spec_l2Value_ev n A k _ ⟨n1, n8⟩ hk hq.d1 (by rw [divs_length, argsM_length]; omega) (by rw [divs_length, argsM_length, hp.la]; omega)).bind ?_
          refine (spec_l2Value_ev m B k _ ⟨m1, m8⟩ (by omega) hq.d2 (by rw [mods_length, argsM_length]; omega) (by rw [mods_length, argsM_length, hp.lb]; omega)).bind ?_
          rw [(prod_val hs hq.t1 hq.t2).1, w64s (i := i) (n := 1000) (by omega) (by omega)]
          exact Ev.pos (by omega) hh2
        | succ d ih =>
          intro j hj
          have hx := hq.d3 (gd (argsM (n * m) ar (i : Int)) j) (by rw [gd_lt (by rw [argsM_length]; omega)]; exact List.getElem_mem _)
          obtain ⟨e1, e2, e3⟩ := div_in (i := gd (argsM (n * m) ar (i : Int)) j) (n := m) hx.1 (by omega) m1
          refine Ev.step (fun _ => spec_l8Product.l2.eq_2 ..) (Ev.pos (by rw [argsM_length]; omega) (Ev.pos (by omega) (Ev.neg (by omega) (Ev.pos (by simp [divs, argsM_length]; omega) (Ev.pos (by simp [mods, argsM_length]; omega) ?_)))))
          rw [rdn, e1, Int.tmod_eq_emod_of_nonneg hx.1, w64s (i := j) (n := 1000) (by omega) (by omega),
            ← gd_divs (by rw [argsM_length]; omega), ← gd_mods (by rw [argsM_length]; omega), take_snoc _ (by rw [divs_length, argsM_length]; omega), take_snoc _ (by rw [mods_length, argsM_length]; omega)]
          exact ih (j + 1) (by omega)
      exact inner ar 0 (by omega)
def oneO (A : List IOp) : List IOp := A.map fun x => ⟨x.f0, [0]⟩
theorem impl_trivialLike_ev (n : Int) (A : List IOp) (hl : A.length ≤ 1048576) : Ev (fun k => impl_trivialLike.f k n A) (1, oneO A) := by
  unfold impl_trivialLike.f
  refine map_loop A z87 (fun x : IOp => (⟨x.f0, [0]⟩ : IOp)) (fun k out i => impl_trivialLike.l0 k A (A.length : Int) i 1 out) (1, oneO A) ?_ ?_ A.length 0 (by omega)
  · exact Ev.step (fun _ => impl_trivialLike.l0.eq_2 ..) (Ev.neg (by omega) (Ev.now _))
  · intro i out hi ho h
    refine Ev.step (fun _ => impl_trivialLike.l0.eq_2 ..) ?_
    rw [rdO_n, w64s (n := A.length) (by omega) (by omega)]
    exact Ev.pos (by omega) (Ev.pos (by omega) (Ev.pos (by omega) (Ev.pos (by omega) h)))
theorem spec_l8One_ev (n : Int) (A : List IOp) (hl : A.length ≤ 1048576) : Ev (fun k => spec_l8One.f k n A) (1, oneO A) := by
  unfold spec_l8One.f
  refine map_loop A z87 (fun x : IOp => (⟨x.f0, [0]⟩ : IOp)) (fun k out i => spec_l8One.l0 k i n A 1 out) (1, oneO A) ?_ ?_ A.length 0 (by omega)
  · exact Ev.step (fun _ => spec_l8One.l0.eq_2 ..) (Ev.neg (by omega) (Ev.now _))
  · intro i out hi ho h
    refine Ev.step (fun _ => spec_l8One.l0.eq_2 ..) ?_
    rw [rdO_n, w64s (n := A.length) (by omega) (by omega)]
    exact Ev.pos (by omega) (Ev.pos (by omega) (Ev.pos (by omega) h))
theorem oneO_alg {n : Int} {A : List IOp} (h : algB n A = true) : algB 1 (oneO A) = true := by
  have hf := algB_few h
  simp only [algB, sizeB, Bool.and_eq_true, decide_eq_true_eq, List.all_eq_true]
  refine ⟨by omega, by simpa [oneO] using hf, fun x hx => ?_⟩
  obtain ⟨y, hy, rfl⟩ := List.mem_map.1 hx
  obtain ⟨k, hk, rfl⟩ := mem_at hy
  obtain ⟨ar, e1, e2, e3, e4⟩ := opB_of (algB_op h hk)
  simp only [opB, Bool.and_eq_true, decide_eq_true_eq, List.all_eq_true, inB, e1]
  refine ⟨by omega, by rw [powI_nat, Int.one_pow]; rfl, fun x hx => ?_⟩
  simp at hx
  omega
theorem oneO_typ (A : List IOp) : typ (oneO A) = typ A := by simp [typ, oneO]
def powO (n : Int) (A : List IOp) : Nat → List IOp
  | 0 => oneO A
  | j + 1 => prodO (n ^ j) (powO n A j) n A
theorem pow_mono {n : Int} (hn : 1 ≤ n) {i j : Nat} (h : i ≤ j) : n ^ i ≤ n ^ j := by
  obtain ⟨d, rfl⟩ : ∃ d, j = i + d := ⟨j - i, by omega⟩
  have h1 : 0 < n ^ i := Int.pow_pos (by omega)
  have h2 : 0 < n ^ d := Int.pow_pos (by omega)
  rw [Int.pow_add]
  have : n ^ i * 1 ≤ n ^ i * n ^ d := Int.mul_le_mul_of_nonneg_left (by omega) (by omega)
  omega
theorem powO_two {n : Int} {A : List IOp} (h : algB n A = true) : ∀ j, n ^ j ≤ 8 → algB (n ^ j) (powO n A j) = true ∧ typ (powO n A j) = typ A := by
  have hn := algB_size h
  intro j
  induction j with
  | zero => intro _; exact ⟨by simpa [powO] using oneO_alg h, oneO_typ A⟩
  | succ j ih =>
    intro h8
    have h7 := pow_mono hn.1 (show j ≤ j + 1 by omega)
    obtain ⟨i1, i2⟩ := ih (by omega)
    have two : twoB (n ^ j) (powO n A j) n A = true := by simp [twoB, i1, i2, h]
    rw [Int.pow_succ] at h8 ⊢
    have hs := prod_size (algB_size i1) hn h8
    exact ⟨prodO_alg hs two, by rw [powO, prodO_typ, i2]⟩
def powM (n : Int) (A : List IOp) (a : Int) : Int × List IOp × Bool :=
  if algB n A = true ∧ 0 ≤ a ∧ a ≤ 3 ∧ n ^ a.toNat ≤ 8 then (n ^ a.toNat, powO n A a.toNat, true) else (0, [], false)
theorem impl_PowerOf_ev (n : Int) (A : List IOp) (a : Int) (hf : fitO A) : Ev (fun k => impl_PowerOf.f k n A a) (powM n A a) := by
  unfold impl_PowerOf.f powM
  have no : ∀ b, b = true → ¬ (algB n A = true ∧ 0 ≤ a ∧ a ≤ 3 ∧ n ^ a.toNat ≤ 8) → Ev (fun k => impl_PowerOf.j0 k a b n A) (if algB n A = true ∧ 0 ≤ a ∧ a ≤ 3 ∧ n ^ a.toNat ≤ 8 then (n ^ a.toNat, powO n A a.toNat, true) else (0, [], false)) := fun b hb h => by
    rw [if_neg h]
    exact Ev.step (fun _ => impl_PowerOf.j0.eq_2 ..) (Ev.pos hb (Ev.now _))
  refine (impl_IsAlgebra_ev n A hf).bind (Ev.ite (fun h => ?_) (fun h => no _ rfl (fun h' => h h'.1)))
  refine Ev.ite (fun h1 => no _ rfl (fun h' => by omega)) (fun h1 => Ev.ite (fun h2 => no _ rfl (fun h' => by omega)) (fun h2 => ?_))
  have hn := algB_size h
  refine (impl_power_ev n a hn ⟨by omega, by omega⟩).bind ?_
  unfold powI
  by_cases h8 : n ^ a.toNat ≤ 8
  · rw [if_pos ⟨h, by omega, by omega, h8⟩, decide_eq_false (by omega)]
    refine Ev.step (fun _ => impl_PowerOf.j0.eq_2 ..) (Ev.neg (by simp) ((impl_trivialLike_ev n A (by have := algB_few h; omega)).bind ?_))
    have key : ∀ (d j : Nat), j + d = a.toNat → Ev (fun k => impl_PowerOf.l0 k (d : Int) n A (n ^ j) (powO n A j)) (n ^ a.toNat, powO n A a.toNat, true) := by
      intro d
      induction d with
      | zero =>
        intro j hj
        have : j = a.toNat := by omega
        rw [this]
        exact Ev.step (fun _ => impl_PowerOf.l0.eq_2 ..) (Ev.neg (by omega) (Ev.now _))
      | succ d ih =>
        intro j hj
        have h7 := pow_mono hn.1 (show j ≤ a.toNat by omega)
        have h6 := pow_mono hn.1 (show j + 1 ≤ a.toNat by omega)
        obtain ⟨i1, i2⟩ := powO_two h j (by omega)
        have two : twoB (n ^ j) (powO n A j) n A = true := by simp [twoB, i1, i2, h]
        have hp := impl_product_ev (n ^ j) n (powO n A j) A two (by have e : n ^ (j + 1) = n ^ j * n := Int.pow_succ n j; omega)
        rw [← Int.pow_succ] at hp
        refine Ev.step (fun _ => impl_PowerOf.l0.eq_2 ..) (Ev.pos (by omega) (hp.bind ?_))
        rw [w64 (by omega) (by omega), show ((d + 1 : Nat) : Int) - 1 = (d : Int) by omega]
        exact ih (j + 1) (by omega)
    have := key a.toNat 0 (by omega)
    rw [show ((a.toNat : Nat) : Int) = a by omega, Int.pow_zero] at this
    exact this
  · exact no _ (decide_eq_true (by omega)) (fun h' => h8 h'.2.2.2)
theorem spec_PowerOf_ev (n : Int) (A : List IOp) (a : Int) (hf : fitO A) : Ev (fun k => spec_PowerOf.f k n A a) (powM n A a) := by
  unfold spec_PowerOf.f powM
  have no : ∀ b, b = true → ¬ (algB n A = true ∧ 0 ≤ a ∧ a ≤ 3 ∧ n ^ a.toNat ≤ 8) → Ev (fun k => spec_PowerOf.j0 k a b n A) (if algB n A = true ∧ 0 ≤ a ∧ a ≤ 3 ∧ n ^ a.toNat ≤ 8 then (n ^ a.toNat, powO n A a.toNat, true) else (0, [], false)) := fun b hb h => by
    rw [if_neg h]
    exact Ev.step (fun _ => spec_PowerOf.j0.eq_2 ..) (Ev.pos hb (Ev.now _))
  refine (spec_l2Good_ev n A hf).bind (Ev.ite (fun h => ?_) (fun h => no _ rfl (fun h' => h h'.1)))
  rw [spec_l1In_eq]
  refine Ev.bind1 (Ev.ite (fun h1 => ?_) (fun h1 => no _ rfl (fun h' => h1 (decide_eq_true (by omega)))))
  have h1' := of_decide_eq_true h1
  have hn := algB_size h
  refine (spec_l2Pow_ev n a hn ⟨by omega, by omega⟩).bind ?_
  unfold powI
  by_cases h8 : n ^ a.toNat ≤ 8
  · rw [if_pos ⟨h, by omega, by omega, h8⟩, decide_eq_false (by omega)]
    refine Ev.step (fun _ => spec_PowerOf.j0.eq_2 ..) (Ev.neg (by simp) ((spec_l8One_ev n A (by have := algB_few h; omega)).bind ?_))
    have key : ∀ (d j : Nat), j + d = a.toNat → Ev (fun k => spec_PowerOf.l0 k (d : Int) n A (n ^ j) (powO n A j)) (n ^ a.toNat, powO n A a.toNat, true) := by
      intro d
      induction d with
      | zero =>
        intro j hj
        have : j = a.toNat := by omega
        rw [this]
        exact Ev.step (fun _ => spec_PowerOf.l0.eq_2 ..) (Ev.neg (by omega) (Ev.now _))
      | succ d ih =>
        intro j hj
        have h7 := pow_mono hn.1 (show j ≤ a.toNat by omega)
        have h6 := pow_mono hn.1 (show j + 1 ≤ a.toNat by omega)
        obtain ⟨i1, i2⟩ := powO_two h j (by omega)
        have two : twoB (n ^ j) (powO n A j) n A = true := by simp [twoB, i1, i2, h]
        have hp := spec_l8Product_ev (n ^ j) n (powO n A j) A two (by have e : n ^ (j + 1) = n ^ j * n := Int.pow_succ n j; omega)
        rw [← Int.pow_succ] at hp
        refine Ev.step (fun _ => spec_PowerOf.l0.eq_2 ..) (Ev.pos (by omega) (hp.bind ?_))
        rw [w64 (by omega) (by omega), show ((d + 1 : Nat) : Int) - 1 = (d : Int) by omega]
        exact ih (j + 1) (by omega)
    have := key a.toNat 0 (by omega)
    rw [show ((a.toNat : Nat) : Int) = a by omega, Int.pow_zero] at this
    exact this
  · exact no _ (decide_eq_true (by omega)) (fun h' => h8 h'.2.2.2)
theorem powM_small (n : Int) (A : List IOp) (a : Int) : (powM n A a).2.1.length ≤ 4 ∧ ∀ x ∈ (powM n A a).2.1, x.f1.length ≤ 512 := by
  unfold powM
  split
  · rename_i h
    exact algB_small (powO_two h.1 a.toNat h.2.2.2).1
  · exact ⟨by simp, fun x hx => by simp at hx⟩
theorem FnExactPowerOf : Stmt.FnExactPowerOf := by
  intro n A a _ hA gA _
  obtain ⟨t, h1, h2, h3, h4⟩ := laws_szAlgebra_ev n A 1048576 hA (fun x hx => (gA x hx).2.1) (by omega)
  by_cases ht : 0 ≤ t
  · obtain ⟨g1, g2, g3, g4⟩ := size_gives h4 ht
    have hd := powM_small n (conv A) a
    have hT := totO_bound _ 4 512 hd.1 hd.2
    have hfit : fitO (powM n (conv A) a).2.1 := ⟨by omega, fun x hx => by have := hd.2 x hx; omega⟩
    obtain ⟨k, e1, e2, e3, e4, e5, e6, e7⟩ := ((Evs.of h1).and ((Evs.of (laws_toAlgebra_ev n A g1 g2)).and ((Evs.of (spec_PowerOf_ev n (conv A) a g3)).and ((Evs.of (impl_PowerOf_ev n (conv A) a g3)).and
      ((Evs.of (laws_eqAlgebra_same (powM n (conv A) a).1 (powM n (conv A) a).2.1 hfit)).and ((Evs.of (laws_eqAlgebra_same n (conv A) g3)).and
      (Evs.of (laws_heldAlgebra_ev (powM n (conv A) a).1 (powM n (conv A) a).2.1 1 (by omega) (by omega) (by omega))))))))).ex
    exact ⟨k, t, e1, fun _ => ⟨n, conv A, (powM n (conv A) a).1, (powM n (conv A) a).2.1, (powM n (conv A) a).2.2, e2, e3, e4, e5, e6, e7, g4, by omega⟩⟩
  · obtain ⟨k, hk⟩ := h1.rounds
    exact ⟨k, t, hk, fun h => absurd h ht⟩
end Go.Proofs.Ytijnfpfijgmopaa.Pure

namespace Go.Proofs.Ytijnfpfijgmopaa
open Go.RowKit Go.Proofs.YtijnfpfijgmopaaW.PrintWords Go.Proofs.YtijnfpfijgmopaaW.PrintLast Go.Proofs.YtijnfpfijgmopaaW.PrintMore Go.Proofs.Ytijnfpfijgmopaa.Live Go.Proofs.Ytijnfpfijgmopaa.Q
set_option linter.unusedVariables false
set_option linter.unusedSimpArgs false
set_option maxRecDepth 100000
set_option maxHeartbeats 8000000 in
theorem Walk.FnExactPowerOf (a0 : Int) (A0 : Option Addr) (c0 : Nat) (l0 : List (Q.S109)) (a1 : Int) (W : World) (hr0 : Kd.C k109 W A0 l0.length l0) (hc0 : l0.length ≤ c0) (g0 : (Lit.int .i64 a0).wf = true) (hm0 : l0.length ≤ maxLen) (hg0 : ∀ x ∈ l0, (Lit.int .i64 x.f0).wf = true ∧ x.f1.length ≤ maxLen ∧ ∀ y_x ∈ x.f1, (Lit.int .i64 y_x).wf = true) (g1 : (Lit.int .i64 a1).wf = true) :
    Calls Try.prog 8 #[.agg #[.int .i64 a0, .slice A0 l0.length c0], .int .i64 a1] W fun e w' => e = .returned (.bool true) ∧ Below W.heap.size W w' := by
  have P := fun (_ : True) => Pure.FnExactPowerOf a0 l0 a1 g0 hm0 hg0 g1
  have hu24 := Try.underlying24
  have hu30 := Try.underlying30
  have HR0 := Aside0.mk hr0
  have HC0 := Aside0.mk hc0
  have hm0_ : l0.length ≤ 9223372036854775807 := by unfold maxLen at hm0; omega
  clear hr0 hc0 g0 hm0 hg0 g1
  obtain ⟨k, P⟩ := P trivial
  obtain ⟨t0, hF0, P⟩ := P
  have F0 := Aside0.mk hF0
  clear hF0
  have HP2 := Aside0.mk P
  clear P
  by_cases d2 : t0 < 0
  · have q2 : decide (t0 < 0) = true := decide_eq_true d2
    go_enter Try.func8, Try.ntmps8
    obtain ⟨lox1, hix1, HLx1⟩ := Live.make_box (Live.nil W) (.cells #[.int .i64 a0, .slice A0 l0.length c0] 24) (W.heap.size) (by simp)
    go_wp2_with fail
    (with_reducible refine (laws_szAlgebra.calls k a0 _ _ l0 1048576 t0 _ (Kd.C_below HR0.out (below_alloc (Below.refl _ _) _)) HC0.out F0.out).mono ?_)
    rintro e w2 ⟨rfl, hbw2⟩
    have HLw2 := Aside0.mk (HLx1.below hbw2)
    have HBw2 := Aside0.mk (below_step (below_alloc (Below.refl _ _) _) (hbw2))
    clear hbw2
    have hxb2_0_w2 : w2.cell? ⟨W.heap.size, 0, none⟩ = some (.int .i64 a0) := (blk_cell (HLw2.out.get 0 rfl).1 0).trans rfl
    have hxb2_1_w2 : w2.cell? ⟨W.heap.size, 1, none⟩ = some (.slice A0 l0.length c0) := (blk_cell (HLw2.out.get 0 rfl).1 1).trans rfl
    go_wp2
    go_ret
    exact ⟨rfl, HBw2.out⟩
  have q2 : decide (t0 < 0) = false := decide_eq_false d2
  have P := HP2.out (by omega)
  clear HP2
  obtain ⟨X0, X1, X2, X3, X4, hF1, hF2, hF3, hF4, hF5, hF6, hB0, hB1⟩ := P
  have F1 := Aside0.mk hF1
  have F2 := Aside0.mk hF2
  have F3 := Aside0.mk hF3
  have F4 := Aside0.mk hF4
  have F5 := Aside0.mk hF5
  have F6 := Aside0.mk hF6
  have HBD := Aside0.mk (show (1 + (totO X1 : Int)) ≤ 4611686018427387904 ∧ (1 + (totO X3 : Int)) ≤ 4611686018427387904 from ⟨hB0, hB1⟩)
  clear hF1 hF2 hF3 hF4 hF5 hF6 hB0 hB1
  have hneX0 : (X0 != X0) = false := bne_self_eq_false X0
  have hneX2 : (X2 != X2) = false := bne_self_eq_false X2
  have hneX4 : (X4 != X4) = false := bne_self_eq_false X4
  go_enter Try.func8, Try.ntmps8
  obtain ⟨lox1, hix1, HLx1⟩ := Live.make_box (Live.nil W) (.cells #[.int .i64 a0, .slice A0 l0.length c0] 24) (W.heap.size) (by simp)
  go_wp2_with fail
  (with_reducible refine (laws_szAlgebra.calls k a0 _ _ l0 1048576 t0 _ (Kd.C_below HR0.out (below_alloc (Below.refl _ _) _)) HC0.out F0.out).mono ?_)
  rintro e w2 ⟨rfl, hbw2⟩
  have HLw2 := Aside0.mk (HLx1.below hbw2)
  have HBw2 := Aside0.mk (below_step (below_alloc (Below.refl _ _) _) (hbw2))
  clear hbw2
  have hxb2_0_w2 : w2.cell? ⟨W.heap.size, 0, none⟩ = some (.int .i64 a0) := (blk_cell (HLw2.out.get 0 rfl).1 0).trans rfl
  have hxb2_1_w2 : w2.cell? ⟨W.heap.size, 1, none⟩ = some (.slice A0 l0.length c0) := (blk_cell (HLw2.out.get 0 rfl).1 1).trans rfl
  go_wp2_with fail
  (with_reducible refine (laws_toAlgebra.calls k a0 _ _ l0 X0 X1 _ (Kd.C_below HR0.out (HBw2.out)) HC0.out F1.out).mono ?_)
  rintro e w3 ⟨vw3_0, rfl, how3_0, hbw3⟩
  obtain ⟨Aw3, cw3, rfl⟩ := Kd.S_slice how3_0
  obtain ⟨low3, hiw3, hlw3⟩ := Live.make_S HLw2.out hbw3 how3_0 (below_size (HBw2.out))
  have HLw3 := Aside0.mk hlw3
  clear hlw3 how3_0
  have HBw3 := Aside0.mk (below_step (HBw2.out) (hbw3))
  clear hbw3
  have hxb2_0_w3 : w3.cell? ⟨W.heap.size, 0, none⟩ = some (.int .i64 a0) := (blk_cell (HLw3.out.get 1 rfl).1 0).trans rfl
  have hxb2_1_w3 : w3.cell? ⟨W.heap.size, 1, none⟩ = some (.slice A0 l0.length c0) := (blk_cell (HLw3.out.get 1 rfl).1 1).trans rfl
  go_wp2_with fail
  (with_reducible refine (spec_PowerOf.calls k X0 _ _ X1 a1 X2 X3 X4 _ (Kd.S_reads' (HLw3.out.get 0 rfl)).2.2 (Kd.S_reads' (HLw3.out.get 0 rfl)).2.1 F2.out).mono ?_)
  rintro e w4 ⟨vw4_0, rfl, how4_0, hbw4⟩
  obtain ⟨Aw4, cw4, rfl⟩ := Kd.S_slice how4_0
  obtain ⟨low4, hiw4, hlw4⟩ := Live.make_S HLw3.out hbw4 how4_0 (below_size (HBw3.out))
  have HLw4 := Aside0.mk hlw4
  clear hlw4 how4_0
  have HBw4 := Aside0.mk (below_step (HBw3.out) (hbw4))
  clear hbw4
  have hxb2_0_w4 : w4.cell? ⟨W.heap.size, 0, none⟩ = some (.int .i64 a0) := (blk_cell (HLw4.out.get 2 rfl).1 0).trans rfl
  have hxb2_1_w4 : w4.cell? ⟨W.heap.size, 1, none⟩ = some (.slice A0 l0.length c0) := (blk_cell (HLw4.out.get 2 rfl).1 1).trans rfl
  obtain ⟨lox5, hix5, HLx5⟩ := Live.make_box HLw4.out (.cells #[.int .i64 X2, .slice Aw4 X3.length cw4] 30) (w4.heap.size) (by simp)
  have hxb2_0_w4allocce : (w4.alloc (.cells #[.int .i64 X2, .slice Aw4 X3.length cw4] 30)).cell? ⟨W.heap.size, 0, none⟩ = some (.int .i64 a0) := (blk_cell (HLx5.get 3 rfl).1 0).trans rfl
  have hxb2_1_w4allocce : (w4.alloc (.cells #[.int .i64 X2, .slice Aw4 X3.length cw4] 30)).cell? ⟨W.heap.size, 1, none⟩ = some (.slice A0 l0.length c0) := (blk_cell (HLx5.get 3 rfl).1 1).trans rfl
  go_wp2_with fail
  (with_reducible refine (laws_toAlgebra.calls k a0 _ _ l0 X0 X1 _ (Kd.C_below HR0.out (below_alloc (HBw4.out) _)) HC0.out F1.out).mono ?_)
  rintro e w6 ⟨vw6_0, rfl, how6_0, hbw6⟩
  obtain ⟨Aw6, cw6, rfl⟩ := Kd.S_slice how6_0
  obtain ⟨low6, hiw6, hlw6⟩ := Live.make_S HLx5 hbw6 how6_0 (below_size (below_alloc (HBw4.out) _))
  have HLw6 := Aside0.mk hlw6
  clear hlw6 how6_0
  have HBw6 := Aside0.mk (below_step (below_alloc (HBw4.out) _) (hbw6))
  clear hbw6
  have hxb2_0_w6 : w6.cell? ⟨W.heap.size, 0, none⟩ = some (.int .i64 a0) := (blk_cell (HLw6.out.get 4 rfl).1 0).trans rfl
  have hxb2_1_w6 : w6.cell? ⟨W.heap.size, 1, none⟩ = some (.slice A0 l0.length c0) := (blk_cell (HLw6.out.get 4 rfl).1 1).trans rfl
  have hxb6_0_w6 : w6.cell? ⟨w4.heap.size, 0, none⟩ = some (.int .i64 X2) := (blk_cell (HLw6.out.get 1 rfl).1 0).trans rfl
  have hxb6_1_w6 : w6.cell? ⟨w4.heap.size, 1, none⟩ = some (.slice Aw4 X3.length cw4) := (blk_cell (HLw6.out.get 1 rfl).1 1).trans rfl
  obtain ⟨lox7, hix7, HLx7⟩ := Live.make_box HLw6.out (.cells #[.int .i64 X0, .slice Aw6 X1.length cw6] 30) (w6.heap.size) (by simp)
  have hxb2_0_w6allocce : (w6.alloc (.cells #[.int .i64 X0, .slice Aw6 X1.length cw6] 30)).cell? ⟨W.heap.size, 0, none⟩ = some (.int .i64 a0) := (blk_cell (HLx7.get 5 rfl).1 0).trans rfl
  have hxb2_1_w6allocce : (w6.alloc (.cells #[.int .i64 X0, .slice Aw6 X1.length cw6] 30)).cell? ⟨W.heap.size, 1, none⟩ = some (.slice A0 l0.length c0) := (blk_cell (HLx7.get 5 rfl).1 1).trans rfl
  have hxb6_0_w6allocce : (w6.alloc (.cells #[.int .i64 X0, .slice Aw6 X1.length cw6] 30)).cell? ⟨w4.heap.size, 0, none⟩ = some (.int .i64 X2) := (blk_cell (HLx7.get 2 rfl).1 0).trans rfl
  have hxb6_1_w6allocce : (w6.alloc (.cells #[.int .i64 X0, .slice Aw6 X1.length cw6] 30)).cell? ⟨w4.heap.size, 1, none⟩ = some (.slice Aw4 X3.length cw4) := (blk_cell (HLx7.get 2 rfl).1 1).trans rfl
  go_wp2_with fail
  (with_reducible refine (impl_PowerOf.calls k X0 _ _ X1 a1 X2 X3 X4 _ (Kd.S_reads' (HLx7.get 1 rfl)).2.2 (Kd.S_reads' (HLx7.get 1 rfl)).2.1 F3.out).mono ?_)
  rintro e w8 ⟨vw8_0, rfl, how8_0, hbw8⟩
  obtain ⟨Aw8, cw8, rfl⟩ := Kd.S_slice how8_0
  obtain ⟨low8, hiw8, hlw8⟩ := Live.make_S HLx7 hbw8 how8_0 (below_size (below_alloc (HBw6.out) _))
  have HLw8 := Aside0.mk hlw8
  clear hlw8 how8_0
  have HBw8 := Aside0.mk (below_step (below_alloc (HBw6.out) _) (hbw8))
  clear hbw8
  have hxb2_0_w8 : w8.cell? ⟨W.heap.size, 0, none⟩ = some (.int .i64 a0) := (blk_cell (HLw8.out.get 6 rfl).1 0).trans rfl
  have hxb2_1_w8 : w8.cell? ⟨W.heap.size, 1, none⟩ = some (.slice A0 l0.length c0) := (blk_cell (HLw8.out.get 6 rfl).1 1).trans rfl
  have hxb6_0_w8 : w8.cell? ⟨w4.heap.size, 0, none⟩ = some (.int .i64 X2) := (blk_cell (HLw8.out.get 3 rfl).1 0).trans rfl
  have hxb6_1_w8 : w8.cell? ⟨w4.heap.size, 1, none⟩ = some (.slice Aw4 X3.length cw4) := (blk_cell (HLw8.out.get 3 rfl).1 1).trans rfl
  have hxb8_0_w8 : w8.cell? ⟨w6.heap.size, 0, none⟩ = some (.int .i64 X0) := (blk_cell (HLw8.out.get 1 rfl).1 0).trans rfl
  have hxb8_1_w8 : w8.cell? ⟨w6.heap.size, 1, none⟩ = some (.slice Aw6 X1.length cw6) := (blk_cell (HLw8.out.get 1 rfl).1 1).trans rfl
  obtain ⟨lox9, hix9, HLx9⟩ := Live.make_box HLw8.out (.cells #[.int .i64 X2, .slice Aw8 X3.length cw8] 30) (w8.heap.size) (by simp)
  have hxb2_0_w8allocce : (w8.alloc (.cells #[.int .i64 X2, .slice Aw8 X3.length cw8] 30)).cell? ⟨W.heap.size, 0, none⟩ = some (.int .i64 a0) := (blk_cell (HLx9.get 7 rfl).1 0).trans rfl
  have hxb2_1_w8allocce : (w8.alloc (.cells #[.int .i64 X2, .slice Aw8 X3.length cw8] 30)).cell? ⟨W.heap.size, 1, none⟩ = some (.slice A0 l0.length c0) := (blk_cell (HLx9.get 7 rfl).1 1).trans rfl
  have hxb6_0_w8allocce : (w8.alloc (.cells #[.int .i64 X2, .slice Aw8 X3.length cw8] 30)).cell? ⟨w4.heap.size, 0, none⟩ = some (.int .i64 X2) := (blk_cell (HLx9.get 4 rfl).1 0).trans rfl
  have hxb6_1_w8allocce : (w8.alloc (.cells #[.int .i64 X2, .slice Aw8 X3.length cw8] 30)).cell? ⟨w4.heap.size, 1, none⟩ = some (.slice Aw4 X3.length cw4) := (blk_cell (HLx9.get 4 rfl).1 1).trans rfl
  have hxb8_0_w8allocce : (w8.alloc (.cells #[.int .i64 X2, .slice Aw8 X3.length cw8] 30)).cell? ⟨w6.heap.size, 0, none⟩ = some (.int .i64 X0) := (blk_cell (HLx9.get 2 rfl).1 0).trans rfl
  have hxb8_1_w8allocce : (w8.alloc (.cells #[.int .i64 X2, .slice Aw8 X3.length cw8] 30)).cell? ⟨w6.heap.size, 1, none⟩ = some (.slice Aw6 X1.length cw6) := (blk_cell (HLx9.get 2 rfl).1 1).trans rfl
  go_wp2_with fail
  (with_reducible refine (laws_eqAlgebra.calls k X2 _ _ X3 X2 _ _ X3 true _ (Kd.S_reads' (HLx9.get 1 rfl)).2.2 (Kd.S_reads' (HLx9.get 1 rfl)).2.1 (Kd.S_reads' (HLx9.get 5 rfl)).2.2 (Kd.S_reads' (HLx9.get 5 rfl)).2.1 F4.out).mono ?_)
  rintro e w10 ⟨rfl, hbw10⟩
  have HLw10 := Aside0.mk (HLx9.below hbw10)
  have HBw10 := Aside0.mk (below_step (below_alloc (HBw8.out) _) (hbw10))
  clear hbw10
  have hxb2_0_w10 : w10.cell? ⟨W.heap.size, 0, none⟩ = some (.int .i64 a0) := (blk_cell (HLw10.out.get 7 rfl).1 0).trans rfl
  have hxb2_1_w10 : w10.cell? ⟨W.heap.size, 1, none⟩ = some (.slice A0 l0.length c0) := (blk_cell (HLw10.out.get 7 rfl).1 1).trans rfl
  have hxb6_0_w10 : w10.cell? ⟨w4.heap.size, 0, none⟩ = some (.int .i64 X2) := (blk_cell (HLw10.out.get 4 rfl).1 0).trans rfl
  have hxb6_1_w10 : w10.cell? ⟨w4.heap.size, 1, none⟩ = some (.slice Aw4 X3.length cw4) := (blk_cell (HLw10.out.get 4 rfl).1 1).trans rfl
  have hxb8_0_w10 : w10.cell? ⟨w6.heap.size, 0, none⟩ = some (.int .i64 X0) := (blk_cell (HLw10.out.get 2 rfl).1 0).trans rfl
  have hxb8_1_w10 : w10.cell? ⟨w6.heap.size, 1, none⟩ = some (.slice Aw6 X1.length cw6) := (blk_cell (HLw10.out.get 2 rfl).1 1).trans rfl
  have hxb9_0_w10 : w10.cell? ⟨w8.heap.size, 0, none⟩ = some (.int .i64 X2) := (blk_cell (HLw10.out.get 0 rfl).1 0).trans rfl
  have hxb9_1_w10 : w10.cell? ⟨w8.heap.size, 1, none⟩ = some (.slice Aw8 X3.length cw8) := (blk_cell (HLw10.out.get 0 rfl).1 1).trans rfl
  go_wp2_with fail
  go_region_held3 (fun w' => w'.cell? ⟨W.heap.size, 0, none⟩ = some (.int .i64 a0) ∧ w'.cell? ⟨W.heap.size, 1, none⟩ = some (.slice A0 l0.length c0) ∧ w'.cell? ⟨w4.heap.size, 0, none⟩ = some (.int .i64 X2) ∧ w'.cell? ⟨w4.heap.size, 1, none⟩ = some (.slice Aw4 X3.length cw4) ∧ w'.cell? ⟨w6.heap.size, 0, none⟩ = some (.int .i64 X0) ∧ w'.cell? ⟨w6.heap.size, 1, none⟩ = some (.slice Aw6 X1.length cw6) ∧ w'.cell? ⟨w8.heap.size, 0, none⟩ = some (.int .i64 X2) ∧ w'.cell? ⟨w8.heap.size, 1, none⟩ = some (.slice Aw8 X3.length cw8)) (first | (simp [*]; done) | go_keep) (first | (go_at_call 17; (with_reducible refine (laws_toAlgebra.calls k a0 _ _ l0 X0 X1 _ (Kd.C_below HR0.out (below_drew1 (HBw10.out))) HC0.out F1.out).mono ?_); rintro e w11 ⟨vw11_0, rfl, how11_0, hbw11⟩; obtain ⟨Aw11, cw11, rfl⟩ := Kd.S_slice how11_0; obtain ⟨low11, hiw11, hlw11⟩ := Live.make_S (Live.drew HLw10.out) hbw11 how11_0 (below_size (below_drew1 (HBw10.out))); have HLw11 := Aside0.mk hlw11; clear hlw11 how11_0; have HBw11 := Aside0.mk (below_step (below_drew1 (HBw10.out)) (hbw11)); clear hbw11; have hxb2_0_w11 : w11.cell? ⟨W.heap.size, 0, none⟩ = some (.int .i64 a0) := (blk_cell (HLw11.out.get 8 rfl).1 0).trans rfl; have hxb2_1_w11 : w11.cell? ⟨W.heap.size, 1, none⟩ = some (.slice A0 l0.length c0) := (blk_cell (HLw11.out.get 8 rfl).1 1).trans rfl; have hxb6_0_w11 : w11.cell? ⟨w4.heap.size, 0, none⟩ = some (.int .i64 X2) := (blk_cell (HLw11.out.get 5 rfl).1 0).trans rfl; have hxb6_1_w11 : w11.cell? ⟨w4.heap.size, 1, none⟩ = some (.slice Aw4 X3.length cw4) := (blk_cell (HLw11.out.get 5 rfl).1 1).trans rfl; have hxb8_0_w11 : w11.cell? ⟨w6.heap.size, 0, none⟩ = some (.int .i64 X0) := (blk_cell (HLw11.out.get 3 rfl).1 0).trans rfl; have hxb8_1_w11 : w11.cell? ⟨w6.heap.size, 1, none⟩ = some (.slice Aw6 X1.length cw6) := (blk_cell (HLw11.out.get 3 rfl).1 1).trans rfl; have hxb9_0_w11 : w11.cell? ⟨w8.heap.size, 0, none⟩ = some (.int .i64 X2) := (blk_cell (HLw11.out.get 1 rfl).1 0).trans rfl; have hxb9_1_w11 : w11.cell? ⟨w8.heap.size, 1, none⟩ = some (.slice Aw8 X3.length cw8) := (blk_cell (HLw11.out.get 1 rfl).1 1).trans rfl) | (go_at_call 19; (with_reducible refine (laws_eqAlgebra.calls k X0 _ _ X1 X0 _ _ X1 true _ (Kd.S_reads' (HLw11.out.get 4 rfl)).2.2 (Kd.S_reads' (HLw11.out.get 4 rfl)).2.1 (Kd.S_reads' (HLw11.out.get 0 rfl)).2.2 (Kd.S_reads' (HLw11.out.get 0 rfl)).2.1 F5.out).mono ?_); rintro e w12 ⟨rfl, hbw12⟩; have HLw12 := Aside0.mk (HLw11.out.below hbw12); have HBw12 := Aside0.mk (below_step (HBw11.out) (hbw12)); clear hbw12; have hxb2_0_w12 : w12.cell? ⟨W.heap.size, 0, none⟩ = some (.int .i64 a0) := (blk_cell (HLw12.out.get 8 rfl).1 0).trans rfl; have hxb2_1_w12 : w12.cell? ⟨W.heap.size, 1, none⟩ = some (.slice A0 l0.length c0) := (blk_cell (HLw12.out.get 8 rfl).1 1).trans rfl; have hxb6_0_w12 : w12.cell? ⟨w4.heap.size, 0, none⟩ = some (.int .i64 X2) := (blk_cell (HLw12.out.get 5 rfl).1 0).trans rfl; have hxb6_1_w12 : w12.cell? ⟨w4.heap.size, 1, none⟩ = some (.slice Aw4 X3.length cw4) := (blk_cell (HLw12.out.get 5 rfl).1 1).trans rfl; have hxb8_0_w12 : w12.cell? ⟨w6.heap.size, 0, none⟩ = some (.int .i64 X0) := (blk_cell (HLw12.out.get 3 rfl).1 0).trans rfl; have hxb8_1_w12 : w12.cell? ⟨w6.heap.size, 1, none⟩ = some (.slice Aw6 X1.length cw6) := (blk_cell (HLw12.out.get 3 rfl).1 1).trans rfl; have hxb9_0_w12 : w12.cell? ⟨w8.heap.size, 0, none⟩ = some (.int .i64 X2) := (blk_cell (HLw12.out.get 1 rfl).1 0).trans rfl; have hxb9_1_w12 : w12.cell? ⟨w8.heap.size, 1, none⟩ = some (.slice Aw8 X3.length cw8) := (blk_cell (HLw12.out.get 1 rfl).1 1).trans rfl))
  go_wp2_with fail
  (with_reducible refine (laws_markAlgebra.marks X0 (fun k => low6 ≤ k ∧ k < hiw6) _ X1 1 W _ (HBw12.out) (HLw12.out.get 4 rfl) (by have := HBD.out; omega) (by have := HBD.out; omega)).mono ?_)
  rintro e w13 ⟨rfl, hm1, hm2, hm3⟩
  have HLw13 := Aside0.mk (Live.mark HLw12.out 4 rfl hm3 (seg_S hm1 (fun k hk _ _ => hk) (Nat.le_refl _)))
  have HBw13 := Aside0.mk hm2
  clear hm1 hm2 hm3
  have hxb2_0_w13 : w13.cell? ⟨W.heap.size, 0, none⟩ = some (.int .i64 a0) := (blk_cell (HLw13.out.get 8 rfl).1 0).trans rfl
  have hxb2_1_w13 : w13.cell? ⟨W.heap.size, 1, none⟩ = some (.slice A0 l0.length c0) := (blk_cell (HLw13.out.get 8 rfl).1 1).trans rfl
  have hxb6_0_w13 : w13.cell? ⟨w4.heap.size, 0, none⟩ = some (.int .i64 X2) := (blk_cell (HLw13.out.get 5 rfl).1 0).trans rfl
  have hxb6_1_w13 : w13.cell? ⟨w4.heap.size, 1, none⟩ = some (.slice Aw4 X3.length cw4) := (blk_cell (HLw13.out.get 5 rfl).1 1).trans rfl
  have hxb8_0_w13 : w13.cell? ⟨w6.heap.size, 0, none⟩ = some (.int .i64 X0) := (blk_cell (HLw13.out.get 3 rfl).1 0).trans rfl
  have hxb8_1_w13 : w13.cell? ⟨w6.heap.size, 1, none⟩ = some (.slice Aw6 X1.length cw6) := (blk_cell (HLw13.out.get 3 rfl).1 1).trans rfl
  have hxb9_0_w13 : w13.cell? ⟨w8.heap.size, 0, none⟩ = some (.int .i64 X2) := (blk_cell (HLw13.out.get 1 rfl).1 0).trans rfl
  have hxb9_1_w13 : w13.cell? ⟨w8.heap.size, 1, none⟩ = some (.slice Aw8 X3.length cw8) := (blk_cell (HLw13.out.get 1 rfl).1 1).trans rfl
  go_wp2_with fail
  (with_reducible refine (laws_eqAlgebra.calls k X2 _ _ X3 X2 _ _ X3 true _ (Kd.S_reads' (HLw13.out.get 2 rfl)).2.2 (Kd.S_reads' (HLw13.out.get 2 rfl)).2.1 (Kd.S_reads' (HLw13.out.get 6 rfl)).2.2 (Kd.S_reads' (HLw13.out.get 6 rfl)).2.1 F4.out).mono ?_)
  rintro e w14 ⟨rfl, hbw14⟩
  have HLw14 := Aside0.mk (HLw13.out.below hbw14)
  have HBw14 := Aside0.mk (below_step (HBw13.out) (hbw14))
  clear hbw14
  have hxb2_0_w14 : w14.cell? ⟨W.heap.size, 0, none⟩ = some (.int .i64 a0) := (blk_cell (HLw14.out.get 8 rfl).1 0).trans rfl
  have hxb2_1_w14 : w14.cell? ⟨W.heap.size, 1, none⟩ = some (.slice A0 l0.length c0) := (blk_cell (HLw14.out.get 8 rfl).1 1).trans rfl
  have hxb6_0_w14 : w14.cell? ⟨w4.heap.size, 0, none⟩ = some (.int .i64 X2) := (blk_cell (HLw14.out.get 5 rfl).1 0).trans rfl
  have hxb6_1_w14 : w14.cell? ⟨w4.heap.size, 1, none⟩ = some (.slice Aw4 X3.length cw4) := (blk_cell (HLw14.out.get 5 rfl).1 1).trans rfl
  have hxb8_0_w14 : w14.cell? ⟨w6.heap.size, 0, none⟩ = some (.int .i64 X0) := (blk_cell (HLw14.out.get 3 rfl).1 0).trans rfl
  have hxb8_1_w14 : w14.cell? ⟨w6.heap.size, 1, none⟩ = some (.slice Aw6 X1.length cw6) := (blk_cell (HLw14.out.get 3 rfl).1 1).trans rfl
  have hxb9_0_w14 : w14.cell? ⟨w8.heap.size, 0, none⟩ = some (.int .i64 X2) := (blk_cell (HLw14.out.get 1 rfl).1 0).trans rfl
  have hxb9_1_w14 : w14.cell? ⟨w8.heap.size, 1, none⟩ = some (.slice Aw8 X3.length cw8) := (blk_cell (HLw14.out.get 1 rfl).1 1).trans rfl
  go_wp2_with fail
  (with_reducible refine (laws_markAlgebra.marks X2 (fun k => low8 ≤ k ∧ k < hiw8) _ X3 1 W _ (HBw14.out) (HLw14.out.get 2 rfl) (by have := HBD.out; omega) (by have := HBD.out; omega)).mono ?_)
  rintro e w15 ⟨rfl, hm1, hm2, hm3⟩
  have HLw15 := Aside0.mk (Live.mark HLw14.out 2 rfl hm3 (seg_S hm1 (fun k hk _ _ => hk) (Nat.le_refl _)))
  have HBw15 := Aside0.mk hm2
  clear hm1 hm2 hm3
  have hxb2_0_w15 : w15.cell? ⟨W.heap.size, 0, none⟩ = some (.int .i64 a0) := (blk_cell (HLw15.out.get 8 rfl).1 0).trans rfl
  have hxb2_1_w15 : w15.cell? ⟨W.heap.size, 1, none⟩ = some (.slice A0 l0.length c0) := (blk_cell (HLw15.out.get 8 rfl).1 1).trans rfl
  have hxb6_0_w15 : w15.cell? ⟨w4.heap.size, 0, none⟩ = some (.int .i64 X2) := (blk_cell (HLw15.out.get 5 rfl).1 0).trans rfl
  have hxb6_1_w15 : w15.cell? ⟨w4.heap.size, 1, none⟩ = some (.slice Aw4 X3.length cw4) := (blk_cell (HLw15.out.get 5 rfl).1 1).trans rfl
  have hxb8_0_w15 : w15.cell? ⟨w6.heap.size, 0, none⟩ = some (.int .i64 X0) := (blk_cell (HLw15.out.get 3 rfl).1 0).trans rfl
  have hxb8_1_w15 : w15.cell? ⟨w6.heap.size, 1, none⟩ = some (.slice Aw6 X1.length cw6) := (blk_cell (HLw15.out.get 3 rfl).1 1).trans rfl
  have hxb9_0_w15 : w15.cell? ⟨w8.heap.size, 0, none⟩ = some (.int .i64 X2) := (blk_cell (HLw15.out.get 1 rfl).1 0).trans rfl
  have hxb9_1_w15 : w15.cell? ⟨w8.heap.size, 1, none⟩ = some (.slice Aw8 X3.length cw8) := (blk_cell (HLw15.out.get 1 rfl).1 1).trans rfl
  go_wp2_with fail
  have r_ := (Kd.S_reads' (HLw15.out.get 2 rfl)).2
  have q_ := laws_heldAlgebra.calls k X2 _ _ (mkOps X3 1) 1 (1 + (totO X3 : Int)) _ (by first | exact r_.2 | (rw [mkOps_length]; exact r_.2)) (by first | exact r_.1 | (rw [mkOps_length]; exact r_.1)) F6.out
  rw [mkOps_length] at q_
  (with_reducible refine q_.mono ?_)
  clear q_ r_
  rintro e w16 ⟨rfl, hbw16⟩
  have HLw16 := Aside0.mk (HLw15.out.below hbw16)
  have HBw16 := Aside0.mk (below_step (HBw15.out) (hbw16))
  clear hbw16
  have hxb2_0_w16 : w16.cell? ⟨W.heap.size, 0, none⟩ = some (.int .i64 a0) := (blk_cell (HLw16.out.get 8 rfl).1 0).trans rfl
  have hxb2_1_w16 : w16.cell? ⟨W.heap.size, 1, none⟩ = some (.slice A0 l0.length c0) := (blk_cell (HLw16.out.get 8 rfl).1 1).trans rfl
  have hxb6_0_w16 : w16.cell? ⟨w4.heap.size, 0, none⟩ = some (.int .i64 X2) := (blk_cell (HLw16.out.get 5 rfl).1 0).trans rfl
  have hxb6_1_w16 : w16.cell? ⟨w4.heap.size, 1, none⟩ = some (.slice Aw4 X3.length cw4) := (blk_cell (HLw16.out.get 5 rfl).1 1).trans rfl
  have hxb8_0_w16 : w16.cell? ⟨w6.heap.size, 0, none⟩ = some (.int .i64 X0) := (blk_cell (HLw16.out.get 3 rfl).1 0).trans rfl
  have hxb8_1_w16 : w16.cell? ⟨w6.heap.size, 1, none⟩ = some (.slice Aw6 X1.length cw6) := (blk_cell (HLw16.out.get 3 rfl).1 1).trans rfl
  have hxb9_0_w16 : w16.cell? ⟨w8.heap.size, 0, none⟩ = some (.int .i64 X2) := (blk_cell (HLw16.out.get 1 rfl).1 0).trans rfl
  have hxb9_1_w16 : w16.cell? ⟨w8.heap.size, 1, none⟩ = some (.slice Aw8 X3.length cw8) := (blk_cell (HLw16.out.get 1 rfl).1 1).trans rfl
  go_wp2_with fail
  (with_reducible refine (laws_toAlgebra.calls k a0 _ _ l0 X0 X1 _ (Kd.C_below HR0.out (HBw16.out)) HC0.out F1.out).mono ?_)
  rintro e w17 ⟨vw17_0, rfl, how17_0, hbw17⟩
  obtain ⟨Aw17, cw17, rfl⟩ := Kd.S_slice how17_0
  obtain ⟨low17, hiw17, hlw17⟩ := Live.make_S HLw16.out hbw17 how17_0 (below_size (HBw16.out))
  have HLw17 := Aside0.mk hlw17
  clear hlw17 how17_0
  have HBw17 := Aside0.mk (below_step (HBw16.out) (hbw17))
  clear hbw17
  have hxb2_0_w17 : w17.cell? ⟨W.heap.size, 0, none⟩ = some (.int .i64 a0) := (blk_cell (HLw17.out.get 9 rfl).1 0).trans rfl
  have hxb2_1_w17 : w17.cell? ⟨W.heap.size, 1, none⟩ = some (.slice A0 l0.length c0) := (blk_cell (HLw17.out.get 9 rfl).1 1).trans rfl
  have hxb6_0_w17 : w17.cell? ⟨w4.heap.size, 0, none⟩ = some (.int .i64 X2) := (blk_cell (HLw17.out.get 6 rfl).1 0).trans rfl
  have hxb6_1_w17 : w17.cell? ⟨w4.heap.size, 1, none⟩ = some (.slice Aw4 X3.length cw4) := (blk_cell (HLw17.out.get 6 rfl).1 1).trans rfl
  have hxb8_0_w17 : w17.cell? ⟨w6.heap.size, 0, none⟩ = some (.int .i64 X0) := (blk_cell (HLw17.out.get 4 rfl).1 0).trans rfl
  have hxb8_1_w17 : w17.cell? ⟨w6.heap.size, 1, none⟩ = some (.slice Aw6 X1.length cw6) := (blk_cell (HLw17.out.get 4 rfl).1 1).trans rfl
  have hxb9_0_w17 : w17.cell? ⟨w8.heap.size, 0, none⟩ = some (.int .i64 X2) := (blk_cell (HLw17.out.get 2 rfl).1 0).trans rfl
  have hxb9_1_w17 : w17.cell? ⟨w8.heap.size, 1, none⟩ = some (.slice Aw8 X3.length cw8) := (blk_cell (HLw17.out.get 2 rfl).1 1).trans rfl
  go_wp2_with fail
  (with_reducible refine (impl_PowerOf.calls k X0 _ _ X1 a1 X2 X3 X4 _ (Kd.S_reads' (HLw17.out.get 0 rfl)).2.2 (Kd.S_reads' (HLw17.out.get 0 rfl)).2.1 F3.out).mono ?_)
  rintro e w18 ⟨vw18_0, rfl, how18_0, hbw18⟩
  obtain ⟨Aw18, cw18, rfl⟩ := Kd.S_slice how18_0
  obtain ⟨low18, hiw18, hlw18⟩ := Live.make_S HLw17.out hbw18 how18_0 (below_size (HBw17.out))
  have HLw18 := Aside0.mk hlw18
  clear hlw18 how18_0
  have HBw18 := Aside0.mk (below_step (HBw17.out) (hbw18))
  clear hbw18
  have hxb2_0_w18 : w18.cell? ⟨W.heap.size, 0, none⟩ = some (.int .i64 a0) := (blk_cell (HLw18.out.get 10 rfl).1 0).trans rfl
  have hxb2_1_w18 : w18.cell? ⟨W.heap.size, 1, none⟩ = some (.slice A0 l0.length c0) := (blk_cell (HLw18.out.get 10 rfl).1 1).trans rfl
  have hxb6_0_w18 : w18.cell? ⟨w4.heap.size, 0, none⟩ = some (.int .i64 X2) := (blk_cell (HLw18.out.get 7 rfl).1 0).trans rfl
  have hxb6_1_w18 : w18.cell? ⟨w4.heap.size, 1, none⟩ = some (.slice Aw4 X3.length cw4) := (blk_cell (HLw18.out.get 7 rfl).1 1).trans rfl
  have hxb8_0_w18 : w18.cell? ⟨w6.heap.size, 0, none⟩ = some (.int .i64 X0) := (blk_cell (HLw18.out.get 5 rfl).1 0).trans rfl
  have hxb8_1_w18 : w18.cell? ⟨w6.heap.size, 1, none⟩ = some (.slice Aw6 X1.length cw6) := (blk_cell (HLw18.out.get 5 rfl).1 1).trans rfl
  have hxb9_0_w18 : w18.cell? ⟨w8.heap.size, 0, none⟩ = some (.int .i64 X2) := (blk_cell (HLw18.out.get 3 rfl).1 0).trans rfl
  have hxb9_1_w18 : w18.cell? ⟨w8.heap.size, 1, none⟩ = some (.slice Aw8 X3.length cw8) := (blk_cell (HLw18.out.get 3 rfl).1 1).trans rfl
  obtain ⟨lox19, hix19, HLx19⟩ := Live.make_box HLw18.out (.cells #[.int .i64 X2, .slice Aw18 X3.length cw18] 30) (w18.heap.size) (by simp)
  have hxb2_0_w18allocc : (w18.alloc (.cells #[.int .i64 X2, .slice Aw18 X3.length cw18] 30)).cell? ⟨W.heap.size, 0, none⟩ = some (.int .i64 a0) := (blk_cell (HLx19.get 11 rfl).1 0).trans rfl
  have hxb2_1_w18allocc : (w18.alloc (.cells #[.int .i64 X2, .slice Aw18 X3.length cw18] 30)).cell? ⟨W.heap.size, 1, none⟩ = some (.slice A0 l0.length c0) := (blk_cell (HLx19.get 11 rfl).1 1).trans rfl
  have hxb6_0_w18allocc : (w18.alloc (.cells #[.int .i64 X2, .slice Aw18 X3.length cw18] 30)).cell? ⟨w4.heap.size, 0, none⟩ = some (.int .i64 X2) := (blk_cell (HLx19.get 8 rfl).1 0).trans rfl
  have hxb6_1_w18allocc : (w18.alloc (.cells #[.int .i64 X2, .slice Aw18 X3.length cw18] 30)).cell? ⟨w4.heap.size, 1, none⟩ = some (.slice Aw4 X3.length cw4) := (blk_cell (HLx19.get 8 rfl).1 1).trans rfl
  have hxb8_0_w18allocc : (w18.alloc (.cells #[.int .i64 X2, .slice Aw18 X3.length cw18] 30)).cell? ⟨w6.heap.size, 0, none⟩ = some (.int .i64 X0) := (blk_cell (HLx19.get 6 rfl).1 0).trans rfl
  have hxb8_1_w18allocc : (w18.alloc (.cells #[.int .i64 X2, .slice Aw18 X3.length cw18] 30)).cell? ⟨w6.heap.size, 1, none⟩ = some (.slice Aw6 X1.length cw6) := (blk_cell (HLx19.get 6 rfl).1 1).trans rfl
  have hxb9_0_w18allocc : (w18.alloc (.cells #[.int .i64 X2, .slice Aw18 X3.length cw18] 30)).cell? ⟨w8.heap.size, 0, none⟩ = some (.int .i64 X2) := (blk_cell (HLx19.get 4 rfl).1 0).trans rfl
  have hxb9_1_w18allocc : (w18.alloc (.cells #[.int .i64 X2, .slice Aw18 X3.length cw18] 30)).cell? ⟨w8.heap.size, 1, none⟩ = some (.slice Aw8 X3.length cw8) := (blk_cell (HLx19.get 4 rfl).1 1).trans rfl
  go_wp2_with fail
  (with_reducible refine (laws_eqAlgebra.calls k X2 _ _ X3 X2 _ _ X3 true _ (Kd.S_reads' (HLx19.get 1 rfl)).2.2 (Kd.S_reads' (HLx19.get 1 rfl)).2.1 (Kd.S_reads' (HLx19.get 9 rfl)).2.2 (Kd.S_reads' (HLx19.get 9 rfl)).2.1 F4.out).mono ?_)
  rintro e w20 ⟨rfl, hbw20⟩
  have HLw20 := Aside0.mk (HLx19.below hbw20)
  have HBw20 := Aside0.mk (below_step (below_alloc (HBw18.out) _) (hbw20))
  clear hbw20
  have hxb2_0_w20 : w20.cell? ⟨W.heap.size, 0, none⟩ = some (.int .i64 a0) := (blk_cell (HLw20.out.get 11 rfl).1 0).trans rfl
  have hxb2_1_w20 : w20.cell? ⟨W.heap.size, 1, none⟩ = some (.slice A0 l0.length c0) := (blk_cell (HLw20.out.get 11 rfl).1 1).trans rfl
  have hxb6_0_w20 : w20.cell? ⟨w4.heap.size, 0, none⟩ = some (.int .i64 X2) := (blk_cell (HLw20.out.get 8 rfl).1 0).trans rfl
  have hxb6_1_w20 : w20.cell? ⟨w4.heap.size, 1, none⟩ = some (.slice Aw4 X3.length cw4) := (blk_cell (HLw20.out.get 8 rfl).1 1).trans rfl
  have hxb8_0_w20 : w20.cell? ⟨w6.heap.size, 0, none⟩ = some (.int .i64 X0) := (blk_cell (HLw20.out.get 6 rfl).1 0).trans rfl
  have hxb8_1_w20 : w20.cell? ⟨w6.heap.size, 1, none⟩ = some (.slice Aw6 X1.length cw6) := (blk_cell (HLw20.out.get 6 rfl).1 1).trans rfl
  have hxb9_0_w20 : w20.cell? ⟨w8.heap.size, 0, none⟩ = some (.int .i64 X2) := (blk_cell (HLw20.out.get 4 rfl).1 0).trans rfl
  have hxb9_1_w20 : w20.cell? ⟨w8.heap.size, 1, none⟩ = some (.slice Aw8 X3.length cw8) := (blk_cell (HLw20.out.get 4 rfl).1 1).trans rfl
  have hxb14_0_w20 : w20.cell? ⟨w18.heap.size, 0, none⟩ = some (.int .i64 X2) := (blk_cell (HLw20.out.get 0 rfl).1 0).trans rfl
  have hxb14_1_w20 : w20.cell? ⟨w18.heap.size, 1, none⟩ = some (.slice Aw18 X3.length cw18) := (blk_cell (HLw20.out.get 0 rfl).1 1).trans rfl
  go_wp2_with fail
  have r_ := (Kd.S_reads' (HLw20.out.get 5 rfl)).2
  have q_ := laws_heldAlgebra.calls k X2 _ _ (mkOps X3 1) 1 (1 + (totO X3 : Int)) _ (by first | exact r_.2 | (rw [mkOps_length]; exact r_.2)) (by first | exact r_.1 | (rw [mkOps_length]; exact r_.1)) F6.out
  rw [mkOps_length] at q_
  (with_reducible refine q_.mono ?_)
  clear q_ r_
  rintro e w21 ⟨rfl, hbw21⟩
  have HLw21 := Aside0.mk (HLw20.out.below hbw21)
  have HBw21 := Aside0.mk (below_step (HBw20.out) (hbw21))
  clear hbw21
  have hxb2_0_w21 : w21.cell? ⟨W.heap.size, 0, none⟩ = some (.int .i64 a0) := (blk_cell (HLw21.out.get 11 rfl).1 0).trans rfl
  have hxb2_1_w21 : w21.cell? ⟨W.heap.size, 1, none⟩ = some (.slice A0 l0.length c0) := (blk_cell (HLw21.out.get 11 rfl).1 1).trans rfl
  have hxb6_0_w21 : w21.cell? ⟨w4.heap.size, 0, none⟩ = some (.int .i64 X2) := (blk_cell (HLw21.out.get 8 rfl).1 0).trans rfl
  have hxb6_1_w21 : w21.cell? ⟨w4.heap.size, 1, none⟩ = some (.slice Aw4 X3.length cw4) := (blk_cell (HLw21.out.get 8 rfl).1 1).trans rfl
  have hxb8_0_w21 : w21.cell? ⟨w6.heap.size, 0, none⟩ = some (.int .i64 X0) := (blk_cell (HLw21.out.get 6 rfl).1 0).trans rfl
  have hxb8_1_w21 : w21.cell? ⟨w6.heap.size, 1, none⟩ = some (.slice Aw6 X1.length cw6) := (blk_cell (HLw21.out.get 6 rfl).1 1).trans rfl
  have hxb9_0_w21 : w21.cell? ⟨w8.heap.size, 0, none⟩ = some (.int .i64 X2) := (blk_cell (HLw21.out.get 4 rfl).1 0).trans rfl
  have hxb9_1_w21 : w21.cell? ⟨w8.heap.size, 1, none⟩ = some (.slice Aw8 X3.length cw8) := (blk_cell (HLw21.out.get 4 rfl).1 1).trans rfl
  have hxb14_0_w21 : w21.cell? ⟨w18.heap.size, 0, none⟩ = some (.int .i64 X2) := (blk_cell (HLw21.out.get 0 rfl).1 0).trans rfl
  have hxb14_1_w21 : w21.cell? ⟨w18.heap.size, 1, none⟩ = some (.slice Aw18 X3.length cw18) := (blk_cell (HLw21.out.get 0 rfl).1 1).trans rfl
  go_wp2
  go_ret
  exact ⟨rfl, HBw21.out⟩
end Go.Proofs.Ytijnfpfijgmopaa
