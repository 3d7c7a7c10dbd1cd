/- Part 2 of the proof of the law FnExactMinorOf: functions and lists that say what the Go code computes, and that it does; no condition beside those that each theorem states. -/
import Derived.Test.YtccjheikjcpgmaaZFnExactMinorOfa
import Derived.Test.YtccjheikjcpgmaaZFnExactMinorOfWMore
import Derived.Test.YtccjheikjcpgmaaZFnExactMinorOfWKept
import Derived.Test.YtccjheikjcpgmaaZFnExactMinorOfWApart
import Derived.Test.YtccjheikjcpgmaaZFnExactMinorOfWFoot
import Derived.Test.YtccjheikjcpgmaaZFnExactMinorOfWSized
import Derived.Deep.RegionHeld3
namespace Go.Proofs.Ytccjheikjcpgmaa.Q
open Go.RowKit Go.Proofs.YtccjheikjcpgmaaW.PrintWords Go.Proofs.YtccjheikjcpgmaaW.PrintLast Go.Proofs.YtccjheikjcpgmaaW.PrintMore
attribute [local go_sem] max2_int min2_int max_two min_two max_three min_three max_four min_four
set_option linter.unusedVariables false
set_option linter.unusedSimpArgs false
def impl_power.l0 : Nat → Int → Int → Int → Option (Int)
 | 0, _, _, _ => none
 | k + 1, x0, x1, x5 => if x1 > 0 then (impl_power.l0 k x0 (wrap64 (x1 - 1)) (wrap64 (x5 * x0))) else (some x5)
def impl_power.f (k : Nat) (a0 : Int) (a1 : Int) : Option (Int) := impl_power.l0 k a0 a1 1
theorem impl_power.mono_l : ∀ k, (∀ y0 y1 y2, LeO (impl_power.l0 k y0 y1 y2) (impl_power.l0 (k + 1) y0 y1 y2))
 | 0 => fun _ _ _ r h => by simp [impl_power.l0] at h
 | k + 1 => by
  have ih0 := impl_power.mono_l k
  ·intro y0 y1 y2
   unfold impl_power.l0
   repeat' first
   | (with_reducible exact ih0 _ _ _)
   | (with_reducible exact LeO.refl _)
   | (with_reducible exact LeO.none _)
   | (with_reducible refine LeO.ite ?_ ?_)
   | (with_reducible refine LeO.bind ?_ (fun _ => ?_))
   | exact ih0 _ _ _
   | exact LeO.none _
   | refine LeO.ite ?_ ?_
   | refine LeO.bind ?_ (fun _ => ?_)
theorem impl_power.mono : ∀ a0 a1 k, LeO (impl_power.f k a0 a1) (impl_power.f (k + 1) a0 a1) := by
 intro a0 a1 k
 have ih0 := impl_power.mono_l k
 unfold impl_power.f
 repeat' first
   | (with_reducible exact ih0 _ _ _)
   | (with_reducible exact LeO.refl _)
   | (with_reducible exact LeO.none _)
   | (with_reducible refine LeO.ite ?_ ?_)
   | (with_reducible refine LeO.bind ?_ (fun _ => ?_))
   | exact ih0 _ _ _
   | exact LeO.none _
   | refine LeO.ite ?_ ?_
   | refine LeO.bind ?_ (fun _ => ?_)
set_option maxHeartbeats 8000000 in
set_option maxRecDepth 100000 in
theorem impl_power.calls (k : Nat) (a0 : Int) (a1 : Int) (r : Int) (w : World) (h : impl_power.f k a0 a1 = some r) :
  Calls Try.prog 42 #[.int .i64 a0, .int .i64 a1] w fun e w' => e = .returned (.int .i64 r) ∧ Drawn0 w w' := by
 have H : (impl_power.l0 k a0 a1 1) = some r := h
 clear h
 have H' := Aside0.mk H
 clear H
 go_enter Try.func42, Try.ntmps42
 go_wp2
 go_loopg [1, 5] k (fun kq v1 v5 w' => ∃ (x1_1 : Int) (x5_1 : Int), v1 = .int .i64 x1_1 ∧ v5 = .int .i64 x5_1 ∧ Aside0 (impl_power.l0 kq a0 x1_1 x5_1 = some r) ∧ Aside0 (kq ≤ k) ∧ Drawn0 w w')
 case atStart => exact ⟨(a1), (1), (by first | rfl | (simp; done) | (simp [*]; done)), (by first | rfl | (simp; done) | (simp [*]; done)), H', ⟨Nat.le_refl _⟩, by repeat (first | exact Drawn0.refl _ | apply Drawn0.step)⟩
 case round =>
  clear H'
  try clear p2
  obtain ⟨x1_1, x5_1, rfl, rfl, HA, HK1, ⟨m1, rfl⟩⟩ := hrel
  cases gk with
  | zero => exact absurd HA.out (by simp [impl_power.l0])
  | succ k1 =>
   have H := HA.out
   clear HA
   simp only [impl_power.l0] at H
   by_cases c3 : x1_1 > 0
   ·rw [if_pos c3] at H
    have c3b0 : decide (0 < x1_1) = true := decide_eq_true c3
    clear c3
    have H' := Aside0.mk H
    clear H
    go_wp2
    go_roundg k1
    case measure => have := HK1.out; omega
    case rel => exact ⟨(wrap64 (x1_1 - 1)), (wrap64 (x5_1 * a0)), (by first | rfl | (simp; done) | (simp [*]; done)), (by first | rfl | (simp; done) | (simp [*]; done)), H', ⟨by have := HK1.out; omega⟩, by repeat (first | exact Drawn0.refl _ | apply Drawn0.step)⟩
   ·rw [if_neg c3] at H
    have c3b0 : decide (0 < x1_1) = false := decide_eq_false c3
    clear c3
    obtain rfl := Option.some.inj H
    go_wp2
    go_ret
    exact ⟨by first | rfl | (simp; done) | (simp [*]; done), by repeat (first | exact Drawn0.refl _ | apply Drawn0.step)⟩
def impl_isOp.f (k : Nat) (a0_0 : Int) (l0_1 : List Int) (a1 : Int) : Option (Bool) := if a0_0 ≥ 0 then (if a0_0 ≤ 3 then ((impl_power.f k a1 a0_0).bind fun t222 => (if (l0_1.length : Int) = t222 then ((impl_inSize.f k l0_1 a1).bind fun t223 => (some t223)) else (some false))) else (some false)) else (some false)
theorem impl_isOp.mono : ∀ a0 a1 a2 k, LeO (impl_isOp.f k a0 a1 a2) (impl_isOp.f (k + 1) a0 a1 a2) := by
 intro a0 a1 a2 k
 unfold impl_isOp.f
 repeat' first
   | (with_reducible exact impl_inSize.mono _ _ _)
   | (with_reducible exact impl_power.mono _ _ _)
   | (with_reducible exact LeO.refl _)
   | (with_reducible exact LeO.none _)
   | (with_reducible refine LeO.ite ?_ ?_)
   | (with_reducible refine LeO.bind ?_ (fun _ => ?_))
   | exact impl_inSize.mono _ _ _
   | exact impl_power.mono _ _ _
   | exact LeO.none _
   | refine LeO.ite ?_ ?_
   | refine LeO.bind ?_ (fun _ => ?_)
set_option maxHeartbeats 8000000 in
set_option maxRecDepth 100000 in
theorem impl_isOp.calls (k : Nat) (a0_0 : Int) (A0_1 : Option Addr) (c0_1 : Nat) (l0_1 : List Int) (a1 : Int) (r : Bool) (w : World) (hr0_1 : Kd.C (Kd.int .i64) w A0_1 l0_1.length l0_1) (hc0_1 : l0_1.length ≤ c0_1) (h : impl_isOp.f k a0_0 l0_1 a1 = some r) :
  Calls Try.prog 41 #[.agg #[.int .i64 a0_0, .slice A0_1 l0_1.length c0_1], .int .i64 a1] w fun e w' => e = .returned (.bool r) ∧ Below w.heap.size w w' := by
 have hu41 := Try.underlying41
 have HR0_1 := Aside0.mk hr0_1
 have HC0_1 := Aside0.mk hc0_1
 clear hr0_1 hc0_1
 have HB := Aside0.mk (Below.refl w.heap.size w)
 have H : (if a0_0 ≥ 0 then (if a0_0 ≤ 3 then ((impl_power.f k a1 a0_0).bind fun t222 => (if (l0_1.length : Int) = t222 then ((impl_inSize.f k l0_1 a1).bind fun t223 => (some t223)) else (some false))) else (some false)) else (some false)) = some r := h
 clear h
 by_cases c3 : a0_0 ≥ 0
 ·rw [if_pos c3] at H
  have c3b0 : decide (0 ≤ a0_0) = true := decide_eq_true c3
  clear c3
  by_cases c4 : a0_0 ≤ 3
  ·rw [if_pos c4] at H
   have c4b0 : decide (a0_0 ≤ 3) = true := decide_eq_true c4
   clear c4
   replace H := Option.bind_eq_some_iff.mp H
   obtain ⟨t222, A50, H⟩ := H
   replace H : (if (l0_1.length : Int) = t222 then ((impl_inSize.f k l0_1 a1).bind fun t223 => (some t223)) else (some false)) = some r := H
   have A5 := Aside0.mk A50
   clear A50
   by_cases c6 : (l0_1.length : Int) = t222
   ·rw [if_pos c6] at H
    have c6b0 : ((l0_1.length : Int) == t222) = true := beq_iff_eq.mpr c6
    have c6b1 : ((l0_1.length : Int) != t222) = false := bne_eq_false_iff_eq.mpr c6
    clear c6
    replace H := Option.bind_eq_some_iff.mp H
    obtain ⟨t223, A70, H⟩ := H
    replace H : (some t223) = some r := H
    have A7 := Aside0.mk A70
    clear A70
    obtain rfl := Option.some.inj H
    go_enter Try.func41, Try.ntmps41
    go_wp2_with (first | ((with_reducible refine gate_dst (N := 2) rfl ?_); (try (refine gate_guard (by rfl) ?_; dsimp only)); refine box_event ?hg (N := 2) ?hd (cs := #[.int .i64 a0_0, .slice A0_1 l0_1.length c0_1]) (t := 41) ?hr ?_; (case hd => rfl); (case hg => rfl); (case hr => first | (go_simp; done) | (go_simp; rfl)); intro gb221 hg w8 hbox hb; have n0_ := Aside0.mk (below_step (by repeat (first | (with_reducible first | exact HB.out | apply below_alloc | apply pw_below_drewN | apply below_drew1) | exact HB.out)) hb); have n1_ := Aside0.mk (hbox); have n2_ := Aside0.mk ((by rw [hg]; exact (below_size (by repeat (first | (with_reducible first | exact HB.out | apply below_alloc | apply pw_below_drewN | apply below_drew1) | exact HB.out))) : w.heap.size ≤ gb221)); have n3_ := Aside0.mk ((by rw [hg]; exact (below_size (by repeat (first | (with_reducible first | exact HB.out | apply below_alloc | apply pw_below_drewN | apply below_drew1) | exact HB.out))) : w.heap.size ≤ gb221)); clear HB; have HB := n0_; have BK221 := n1_; have GW221 := n2_; have GE221 := n3_; clear n0_ n1_ n2_ n3_; clear hb hbox hg; have hcz9_0 : w8.cell? ⟨gb221, 0, none⟩ = some (.int .i64 a0_0) := (blk_cell BK221.out 0).trans rfl; have hcz9_1 : w8.cell? ⟨gb221, 1, none⟩ = some (.slice A0_1 l0_1.length c0_1) := (blk_cell BK221.out 1).trans rfl; have hfz9_0 := blk_frozen BK221.out 0; have hfz9_1 := blk_frozen BK221.out 1) | (go_at_call 42; (with_reducible refine (impl_power.calls k a1 a0_0 t222 _ A5.out).mono ?_); rintro e w' ⟨rfl, ⟨nd, rfl⟩⟩; (try first | exact ⟨rfl, _, World.drewN_drewN _ _ _⟩ | exact ⟨rfl, _, Eq.trans (World.drewN_drewN _ _ _) (congrArg (World.drewN _) (Nat.add_assoc _ _ _))⟩)) | (go_at_call 52; (with_reducible refine (impl_inSize.calls k _ _ l0_1 a1 t223 _ ?side1 ?side2 A7.out).mono ?_); (case side1 => repeat (first | exact (Kd.C_below HR0_1.out (by repeat (first | (with_reducible first | exact HB.out | apply below_alloc | apply pw_below_drewN | apply below_drew1 | refine below_set ?_ GE221.out) | exact HB.out))) | (with_reducible refine Kd.C_alloc ?_ _) | (with_reducible refine Kd.C_drewN ?_ _) | (with_reducible refine Kd.C_drew ?_))); (case side2 => exact HC0_1.out); rintro e w' ⟨rfl, ⟨nd, rfl⟩⟩; (try first | exact ⟨rfl, _, World.drewN_drewN _ _ _⟩ | exact ⟨rfl, _, Eq.trans (World.drewN_drewN _ _ _) (congrArg (World.drewN _) (Nat.add_assoc _ _ _))⟩)))
    repeat (go_quiet (first | ((with_reducible refine gate_dst (N := 2) rfl ?_); (try (refine gate_guard (by rfl) ?_; dsimp only)); refine box_event ?hg (N := 2) ?hd (cs := #[.int .i64 a0_0, .slice A0_1 l0_1.length c0_1]) (t := 41) ?hr ?_; (case hd => rfl); (case hg => rfl); (case hr => first | (go_simp; done) | (go_simp; rfl)); intro gb221 hg w8 hbox hb; have n0_ := Aside0.mk (below_step (by repeat (first | (with_reducible first | exact HB.out | apply below_alloc | apply pw_below_drewN | apply below_drew1) | exact HB.out)) hb); have n1_ := Aside0.mk (hbox); have n2_ := Aside0.mk ((by rw [hg]; exact (below_size (by repeat (first | (with_reducible first | exact HB.out | apply below_alloc | apply pw_below_drewN | apply below_drew1) | exact HB.out))) : w.heap.size ≤ gb221)); have n3_ := Aside0.mk ((by rw [hg]; exact (below_size (by repeat (first | (with_reducible first | exact HB.out | apply below_alloc | apply pw_below_drewN | apply below_drew1) | exact HB.out))) : w.heap.size ≤ gb221)); clear HB; have HB := n0_; have BK221 := n1_; have GW221 := n2_; have GE221 := n3_; clear n0_ n1_ n2_ n3_; clear hb hbox hg; have hcz9_0 : w8.cell? ⟨gb221, 0, none⟩ = some (.int .i64 a0_0) := (blk_cell BK221.out 0).trans rfl; have hcz9_1 : w8.cell? ⟨gb221, 1, none⟩ = some (.slice A0_1 l0_1.length c0_1) := (blk_cell BK221.out 1).trans rfl; have hfz9_0 := blk_frozen BK221.out 0; have hfz9_1 := blk_frozen BK221.out 1) | (go_at_call 42; (with_reducible refine (impl_power.calls k a1 a0_0 t222 _ A5.out).mono ?_); rintro e w' ⟨rfl, ⟨nd, rfl⟩⟩; (try first | exact ⟨rfl, _, World.drewN_drewN _ _ _⟩ | exact ⟨rfl, _, Eq.trans (World.drewN_drewN _ _ _) (congrArg (World.drewN _) (Nat.add_assoc _ _ _))⟩)) | (go_at_call 52; (with_reducible refine (impl_inSize.calls k _ _ l0_1 a1 t223 _ ?side1 ?side2 A7.out).mono ?_); (case side1 => repeat (first | exact (Kd.C_below HR0_1.out (by repeat (first | (with_reducible first | exact HB.out | apply below_alloc | apply pw_below_drewN | apply below_drew1 | refine below_set ?_ GE221.out) | exact HB.out))) | (with_reducible refine Kd.C_alloc ?_ _) | (with_reducible refine Kd.C_drewN ?_ _) | (with_reducible refine Kd.C_drew ?_))); (case side2 => exact HC0_1.out); rintro e w' ⟨rfl, ⟨nd, rfl⟩⟩; (try first | exact ⟨rfl, _, World.drewN_drewN _ _ _⟩ | exact ⟨rfl, _, Eq.trans (World.drewN_drewN _ _ _) (congrArg (World.drewN _) (Nat.add_assoc _ _ _))⟩))); try go_wp2_with (first | ((with_reducible refine gate_dst (N := 2) rfl ?_); (try (refine gate_guard (by rfl) ?_; dsimp only)); refine box_event ?hg (N := 2) ?hd (cs := #[.int .i64 a0_0, .slice A0_1 l0_1.length c0_1]) (t := 41) ?hr ?_; (case hd => rfl); (case hg => rfl); (case hr => first | (go_simp; done) | (go_simp; rfl)); intro gb221 hg w8 hbox hb; have n0_ := Aside0.mk (below_step (by repeat (first | (with_reducible first | exact HB.out | apply below_alloc | apply pw_below_drewN | apply below_drew1) | exact HB.out)) hb); have n1_ := Aside0.mk (hbox); have n2_ := Aside0.mk ((by rw [hg]; exact (below_size (by repeat (first | (with_reducible first | exact HB.out | apply below_alloc | apply pw_below_drewN | apply below_drew1) | exact HB.out))) : w.heap.size ≤ gb221)); have n3_ := Aside0.mk ((by rw [hg]; exact (below_size (by repeat (first | (with_reducible first | exact HB.out | apply below_alloc | apply pw_below_drewN | apply below_drew1) | exact HB.out))) : w.heap.size ≤ gb221)); clear HB; have HB := n0_; have BK221 := n1_; have GW221 := n2_; have GE221 := n3_; clear n0_ n1_ n2_ n3_; clear hb hbox hg; have hcz9_0 : w8.cell? ⟨gb221, 0, none⟩ = some (.int .i64 a0_0) := (blk_cell BK221.out 0).trans rfl; have hcz9_1 : w8.cell? ⟨gb221, 1, none⟩ = some (.slice A0_1 l0_1.length c0_1) := (blk_cell BK221.out 1).trans rfl; have hfz9_0 := blk_frozen BK221.out 0; have hfz9_1 := blk_frozen BK221.out 1) | (go_at_call 42; (with_reducible refine (impl_power.calls k a1 a0_0 t222 _ A5.out).mono ?_); rintro e w' ⟨rfl, ⟨nd, rfl⟩⟩; (try first | exact ⟨rfl, _, World.drewN_drewN _ _ _⟩ | exact ⟨rfl, _, Eq.trans (World.drewN_drewN _ _ _) (congrArg (World.drewN _) (Nat.add_assoc _ _ _))⟩)) | (go_at_call 52; (with_reducible refine (impl_inSize.calls k _ _ l0_1 a1 t223 _ ?side1 ?side2 A7.out).mono ?_); (case side1 => repeat (first | exact (Kd.C_below HR0_1.out (by repeat (first | (with_reducible first | exact HB.out | apply below_alloc | apply pw_below_drewN | apply below_drew1 | refine below_set ?_ GE221.out) | exact HB.out))) | (with_reducible refine Kd.C_alloc ?_ _) | (with_reducible refine Kd.C_drewN ?_ _) | (with_reducible refine Kd.C_drew ?_))); (case side2 => exact HC0_1.out); rintro e w' ⟨rfl, ⟨nd, rfl⟩⟩; (try first | exact ⟨rfl, _, World.drewN_drewN _ _ _⟩ | exact ⟨rfl, _, Eq.trans (World.drewN_drewN _ _ _) (congrArg (World.drewN _) (Nat.add_assoc _ _ _))⟩))))
    go_ret
    exact ⟨by first | rfl | (simp [errW_none, errW_some] <;> rfl) | (simp [*, errW_none, errW_some] <;> rfl), by repeat (first | (with_reducible first | exact HB.out | apply below_alloc | apply pw_below_drewN | apply below_drew1 | refine below_set ?_ GE221.out) | exact HB.out)⟩
   ·rw [if_neg c6] at H
    have c6b0 : ((l0_1.length : Int) == t222) = false := beq_eq_false_iff_ne.mpr c6
    have c6b1 : ((l0_1.length : Int) != t222) = true := bne_iff_ne.mpr c6
    obtain rfl := Option.some.inj H
    go_enter Try.func41, Try.ntmps41
    go_wp2_with (first | ((with_reducible refine gate_dst (N := 2) rfl ?_); (try (refine gate_guard (by rfl) ?_; dsimp only)); refine box_event ?hg (N := 2) ?hd (cs := #[.int .i64 a0_0, .slice A0_1 l0_1.length c0_1]) (t := 41) ?hr ?_; (case hd => rfl); (case hg => rfl); (case hr => first | (go_simp; done) | (go_simp; rfl)); intro gb221 hg w10 hbox hb; have n0_ := Aside0.mk (below_step (by repeat (first | (with_reducible first | exact HB.out | apply below_alloc | apply pw_below_drewN | apply below_drew1) | exact HB.out)) hb); have n1_ := Aside0.mk (hbox); have n2_ := Aside0.mk ((by rw [hg]; exact (below_size (by repeat (first | (with_reducible first | exact HB.out | apply below_alloc | apply pw_below_drewN | apply below_drew1) | exact HB.out))) : w.heap.size ≤ gb221)); have n3_ := Aside0.mk ((by rw [hg]; exact (below_size (by repeat (first | (with_reducible first | exact HB.out | apply below_alloc | apply pw_below_drewN | apply below_drew1) | exact HB.out))) : w.heap.size ≤ gb221)); clear HB; have HB := n0_; have BK221 := n1_; have GW221 := n2_; have GE221 := n3_; clear n0_ n1_ n2_ n3_; clear hb hbox hg; have hcz11_0 : w10.cell? ⟨gb221, 0, none⟩ = some (.int .i64 a0_0) := (blk_cell BK221.out 0).trans rfl; have hcz11_1 : w10.cell? ⟨gb221, 1, none⟩ = some (.slice A0_1 l0_1.length c0_1) := (blk_cell BK221.out 1).trans rfl; have hfz11_0 := blk_frozen BK221.out 0; have hfz11_1 := blk_frozen BK221.out 1) | (go_at_call 42; (with_reducible refine (impl_power.calls k a1 a0_0 t222 _ A5.out).mono ?_); rintro e w' ⟨rfl, ⟨nd, rfl⟩⟩; (try first | exact ⟨rfl, _, World.drewN_drewN _ _ _⟩ | exact ⟨rfl, _, Eq.trans (World.drewN_drewN _ _ _) (congrArg (World.drewN _) (Nat.add_assoc _ _ _))⟩)))
    repeat (go_quiet (first | ((with_reducible refine gate_dst (N := 2) rfl ?_); (try (refine gate_guard (by rfl) ?_; dsimp only)); refine box_event ?hg (N := 2) ?hd (cs := #[.int .i64 a0_0, .slice A0_1 l0_1.length c0_1]) (t := 41) ?hr ?_; (case hd => rfl); (case hg => rfl); (case hr => first | (go_simp; done) | (go_simp; rfl)); intro gb221 hg w10 hbox hb; have n0_ := Aside0.mk (below_step (by repeat (first | (with_reducible first | exact HB.out | apply below_alloc | apply pw_below_drewN | apply below_drew1) | exact HB.out)) hb); have n1_ := Aside0.mk (hbox); have n2_ := Aside0.mk ((by rw [hg]; exact (below_size (by repeat (first | (with_reducible first | exact HB.out | apply below_alloc | apply pw_below_drewN | apply below_drew1) | exact HB.out))) : w.heap.size ≤ gb221)); have n3_ := Aside0.mk ((by rw [hg]; exact (below_size (by repeat (first | (with_reducible first | exact HB.out | apply below_alloc | apply pw_below_drewN | apply below_drew1) | exact HB.out))) : w.heap.size ≤ gb221)); clear HB; have HB := n0_; have BK221 := n1_; have GW221 := n2_; have GE221 := n3_; clear n0_ n1_ n2_ n3_; clear hb hbox hg; have hcz11_0 : w10.cell? ⟨gb221, 0, none⟩ = some (.int .i64 a0_0) := (blk_cell BK221.out 0).trans rfl; have hcz11_1 : w10.cell? ⟨gb221, 1, none⟩ = some (.slice A0_1 l0_1.length c0_1) := (blk_cell BK221.out 1).trans rfl; have hfz11_0 := blk_frozen BK221.out 0; have hfz11_1 := blk_frozen BK221.out 1) | (go_at_call 42; (with_reducible refine (impl_power.calls k a1 a0_0 t222 _ A5.out).mono ?_); rintro e w' ⟨rfl, ⟨nd, rfl⟩⟩; (try first | exact ⟨rfl, _, World.drewN_drewN _ _ _⟩ | exact ⟨rfl, _, Eq.trans (World.drewN_drewN _ _ _) (congrArg (World.drewN _) (Nat.add_assoc _ _ _))⟩))); try go_wp2_with (first | ((with_reducible refine gate_dst (N := 2) rfl ?_); (try (refine gate_guard (by rfl) ?_; dsimp only)); refine box_event ?hg (N := 2) ?hd (cs := #[.int .i64 a0_0, .slice A0_1 l0_1.length c0_1]) (t := 41) ?hr ?_; (case hd => rfl); (case hg => rfl); (case hr => first | (go_simp; done) | (go_simp; rfl)); intro gb221 hg w10 hbox hb; have n0_ := Aside0.mk (below_step (by repeat (first | (with_reducible first | exact HB.out | apply below_alloc | apply pw_below_drewN | apply below_drew1) | exact HB.out)) hb); have n1_ := Aside0.mk (hbox); have n2_ := Aside0.mk ((by rw [hg]; exact (below_size (by repeat (first | (with_reducible first | exact HB.out | apply below_alloc | apply pw_below_drewN | apply below_drew1) | exact HB.out))) : w.heap.size ≤ gb221)); have n3_ := Aside0.mk ((by rw [hg]; exact (below_size (by repeat (first | (with_reducible first | exact HB.out | apply below_alloc | apply pw_below_drewN | apply below_drew1) | exact HB.out))) : w.heap.size ≤ gb221)); clear HB; have HB := n0_; have BK221 := n1_; have GW221 := n2_; have GE221 := n3_; clear n0_ n1_ n2_ n3_; clear hb hbox hg; have hcz11_0 : w10.cell? ⟨gb221, 0, none⟩ = some (.int .i64 a0_0) := (blk_cell BK221.out 0).trans rfl; have hcz11_1 : w10.cell? ⟨gb221, 1, none⟩ = some (.slice A0_1 l0_1.length c0_1) := (blk_cell BK221.out 1).trans rfl; have hfz11_0 := blk_frozen BK221.out 0; have hfz11_1 := blk_frozen BK221.out 1) | (go_at_call 42; (with_reducible refine (impl_power.calls k a1 a0_0 t222 _ A5.out).mono ?_); rintro e w' ⟨rfl, ⟨nd, rfl⟩⟩; (try first | exact ⟨rfl, _, World.drewN_drewN _ _ _⟩ | exact ⟨rfl, _, Eq.trans (World.drewN_drewN _ _ _) (congrArg (World.drewN _) (Nat.add_assoc _ _ _))⟩))))
    go_ret
    exact ⟨by first | rfl | (simp [errW_none, errW_some] <;> rfl) | (simp [*, errW_none, errW_some] <;> rfl), by repeat (first | (with_reducible first | exact HB.out | apply below_alloc | apply pw_below_drewN | apply below_drew1 | refine below_set ?_ GE221.out) | exact HB.out)⟩
  ·rw [if_neg c4] at H
   have c4b0 : decide (a0_0 ≤ 3) = false := decide_eq_false c4
   clear c4
   obtain rfl := Option.some.inj H
   go_enter Try.func41, Try.ntmps41
   go_wp2_with (first | ((with_reducible refine gate_dst (N := 2) rfl ?_); (try (refine gate_guard (by rfl) ?_; dsimp only)); refine box_event ?hg (N := 2) ?hd (cs := #[.int .i64 a0_0, .slice A0_1 l0_1.length c0_1]) (t := 41) ?hr ?_; (case hd => rfl); (case hg => rfl); (case hr => first | (go_simp; done) | (go_simp; rfl)); intro gb221 hg w12 hbox hb; have n0_ := Aside0.mk (below_step (by repeat (first | (with_reducible first | exact HB.out | apply below_alloc | apply pw_below_drewN | apply below_drew1) | exact HB.out)) hb); have n1_ := Aside0.mk (hbox); have n2_ := Aside0.mk ((by rw [hg]; exact (below_size (by repeat (first | (with_reducible first | exact HB.out | apply below_alloc | apply pw_below_drewN | apply below_drew1) | exact HB.out))) : w.heap.size ≤ gb221)); have n3_ := Aside0.mk ((by rw [hg]; exact (below_size (by repeat (first | (with_reducible first | exact HB.out | apply below_alloc | apply pw_below_drewN | apply below_drew1) | exact HB.out))) : w.heap.size ≤ gb221)); clear HB; have HB := n0_; have BK221 := n1_; have GW221 := n2_; have GE221 := n3_; clear n0_ n1_ n2_ n3_; clear hb hbox hg; have hcz13_0 : w12.cell? ⟨gb221, 0, none⟩ = some (.int .i64 a0_0) := (blk_cell BK221.out 0).trans rfl; have hcz13_1 : w12.cell? ⟨gb221, 1, none⟩ = some (.slice A0_1 l0_1.length c0_1) := (blk_cell BK221.out 1).trans rfl; have hfz13_0 := blk_frozen BK221.out 0; have hfz13_1 := blk_frozen BK221.out 1))
   repeat (go_quiet (first | ((with_reducible refine gate_dst (N := 2) rfl ?_); (try (refine gate_guard (by rfl) ?_; dsimp only)); refine box_event ?hg (N := 2) ?hd (cs := #[.int .i64 a0_0, .slice A0_1 l0_1.length c0_1]) (t := 41) ?hr ?_; (case hd => rfl); (case hg => rfl); (case hr => first | (go_simp; done) | (go_simp; rfl)); intro gb221 hg w12 hbox hb; have n0_ := Aside0.mk (below_step (by repeat (first | (with_reducible first | exact HB.out | apply below_alloc | apply pw_below_drewN | apply below_drew1) | exact HB.out)) hb); have n1_ := Aside0.mk (hbox); have n2_ := Aside0.mk ((by rw [hg]; exact (below_size (by repeat (first | (with_reducible first | exact HB.out | apply below_alloc | apply pw_below_drewN | apply below_drew1) | exact HB.out))) : w.heap.size ≤ gb221)); have n3_ := Aside0.mk ((by rw [hg]; exact (below_size (by repeat (first | (with_reducible first | exact HB.out | apply below_alloc | apply pw_below_drewN | apply below_drew1) | exact HB.out))) : w.heap.size ≤ gb221)); clear HB; have HB := n0_; have BK221 := n1_; have GW221 := n2_; have GE221 := n3_; clear n0_ n1_ n2_ n3_; clear hb hbox hg; have hcz13_0 : w12.cell? ⟨gb221, 0, none⟩ = some (.int .i64 a0_0) := (blk_cell BK221.out 0).trans rfl; have hcz13_1 : w12.cell? ⟨gb221, 1, none⟩ = some (.slice A0_1 l0_1.length c0_1) := (blk_cell BK221.out 1).trans rfl; have hfz13_0 := blk_frozen BK221.out 0; have hfz13_1 := blk_frozen BK221.out 1)); try go_wp2_with (first | ((with_reducible refine gate_dst (N := 2) rfl ?_); (try (refine gate_guard (by rfl) ?_; dsimp only)); refine box_event ?hg (N := 2) ?hd (cs := #[.int .i64 a0_0, .slice A0_1 l0_1.length c0_1]) (t := 41) ?hr ?_; (case hd => rfl); (case hg => rfl); (case hr => first | (go_simp; done) | (go_simp; rfl)); intro gb221 hg w12 hbox hb; have n0_ := Aside0.mk (below_step (by repeat (first | (with_reducible first | exact HB.out | apply below_alloc | apply pw_below_drewN | apply below_drew1) | exact HB.out)) hb); have n1_ := Aside0.mk (hbox); have n2_ := Aside0.mk ((by rw [hg]; exact (below_size (by repeat (first | (with_reducible first | exact HB.out | apply below_alloc | apply pw_below_drewN | apply below_drew1) | exact HB.out))) : w.heap.size ≤ gb221)); have n3_ := Aside0.mk ((by rw [hg]; exact (below_size (by repeat (first | (with_reducible first | exact HB.out | apply below_alloc | apply pw_below_drewN | apply below_drew1) | exact HB.out))) : w.heap.size ≤ gb221)); clear HB; have HB := n0_; have BK221 := n1_; have GW221 := n2_; have GE221 := n3_; clear n0_ n1_ n2_ n3_; clear hb hbox hg; have hcz13_0 : w12.cell? ⟨gb221, 0, none⟩ = some (.int .i64 a0_0) := (blk_cell BK221.out 0).trans rfl; have hcz13_1 : w12.cell? ⟨gb221, 1, none⟩ = some (.slice A0_1 l0_1.length c0_1) := (blk_cell BK221.out 1).trans rfl; have hfz13_0 := blk_frozen BK221.out 0; have hfz13_1 := blk_frozen BK221.out 1)))
   go_ret
   exact ⟨by first | rfl | (simp [errW_none, errW_some] <;> rfl) | (simp [*, errW_none, errW_some] <;> rfl), by repeat (first | (with_reducible first | exact HB.out | apply below_alloc | apply pw_below_drewN | apply below_drew1 | refine below_set ?_ GE221.out) | exact HB.out)⟩
 ·rw [if_neg c3] at H
  have c3b0 : decide (0 ≤ a0_0) = false := decide_eq_false c3
  clear c3
  obtain rfl := Option.some.inj H
  go_enter Try.func41, Try.ntmps41
  go_wp2_with (first | ((with_reducible refine gate_dst (N := 2) rfl ?_); (try (refine gate_guard (by rfl) ?_; dsimp only)); refine box_event ?hg (N := 2) ?hd (cs := #[.int .i64 a0_0, .slice A0_1 l0_1.length c0_1]) (t := 41) ?hr ?_; (case hd => rfl); (case hg => rfl); (case hr => first | (go_simp; done) | (go_simp; rfl)); intro gb221 hg w14 hbox hb; have n0_ := Aside0.mk (below_step (by repeat (first | (with_reducible first | exact HB.out | apply below_alloc | apply pw_below_drewN | apply below_drew1) | exact HB.out)) hb); have n1_ := Aside0.mk (hbox); have n2_ := Aside0.mk ((by rw [hg]; exact (below_size (by repeat (first | (with_reducible first | exact HB.out | apply below_alloc | apply pw_below_drewN | apply below_drew1) | exact HB.out))) : w.heap.size ≤ gb221)); have n3_ := Aside0.mk ((by rw [hg]; exact (below_size (by repeat (first | (with_reducible first | exact HB.out | apply below_alloc | apply pw_below_drewN | apply below_drew1) | exact HB.out))) : w.heap.size ≤ gb221)); clear HB; have HB := n0_; have BK221 := n1_; have GW221 := n2_; have GE221 := n3_; clear n0_ n1_ n2_ n3_; clear hb hbox hg; have hcz15_0 : w14.cell? ⟨gb221, 0, none⟩ = some (.int .i64 a0_0) := (blk_cell BK221.out 0).trans rfl; have hcz15_1 : w14.cell? ⟨gb221, 1, none⟩ = some (.slice A0_1 l0_1.length c0_1) := (blk_cell BK221.out 1).trans rfl; have hfz15_0 := blk_frozen BK221.out 0; have hfz15_1 := blk_frozen BK221.out 1))
  repeat (go_quiet (first | ((with_reducible refine gate_dst (N := 2) rfl ?_); (try (refine gate_guard (by rfl) ?_; dsimp only)); refine box_event ?hg (N := 2) ?hd (cs := #[.int .i64 a0_0, .slice A0_1 l0_1.length c0_1]) (t := 41) ?hr ?_; (case hd => rfl); (case hg => rfl); (case hr => first | (go_simp; done) | (go_simp; rfl)); intro gb221 hg w14 hbox hb; have n0_ := Aside0.mk (below_step (by repeat (first | (with_reducible first | exact HB.out | apply below_alloc | apply pw_below_drewN | apply below_drew1) | exact HB.out)) hb); have n1_ := Aside0.mk (hbox); have n2_ := Aside0.mk ((by rw [hg]; exact (below_size (by repeat (first | (with_reducible first | exact HB.out | apply below_alloc | apply pw_below_drewN | apply below_drew1) | exact HB.out))) : w.heap.size ≤ gb221)); have n3_ := Aside0.mk ((by rw [hg]; exact (below_size (by repeat (first | (with_reducible first | exact HB.out | apply below_alloc | apply pw_below_drewN | apply below_drew1) | exact HB.out))) : w.heap.size ≤ gb221)); clear HB; have HB := n0_; have BK221 := n1_; have GW221 := n2_; have GE221 := n3_; clear n0_ n1_ n2_ n3_; clear hb hbox hg; have hcz15_0 : w14.cell? ⟨gb221, 0, none⟩ = some (.int .i64 a0_0) := (blk_cell BK221.out 0).trans rfl; have hcz15_1 : w14.cell? ⟨gb221, 1, none⟩ = some (.slice A0_1 l0_1.length c0_1) := (blk_cell BK221.out 1).trans rfl; have hfz15_0 := blk_frozen BK221.out 0; have hfz15_1 := blk_frozen BK221.out 1)); try go_wp2_with (first | ((with_reducible refine gate_dst (N := 2) rfl ?_); (try (refine gate_guard (by rfl) ?_; dsimp only)); refine box_event ?hg (N := 2) ?hd (cs := #[.int .i64 a0_0, .slice A0_1 l0_1.length c0_1]) (t := 41) ?hr ?_; (case hd => rfl); (case hg => rfl); (case hr => first | (go_simp; done) | (go_simp; rfl)); intro gb221 hg w14 hbox hb; have n0_ := Aside0.mk (below_step (by repeat (first | (with_reducible first | exact HB.out | apply below_alloc | apply pw_below_drewN | apply below_drew1) | exact HB.out)) hb); have n1_ := Aside0.mk (hbox); have n2_ := Aside0.mk ((by rw [hg]; exact (below_size (by repeat (first | (with_reducible first | exact HB.out | apply below_alloc | apply pw_below_drewN | apply below_drew1) | exact HB.out))) : w.heap.size ≤ gb221)); have n3_ := Aside0.mk ((by rw [hg]; exact (below_size (by repeat (first | (with_reducible first | exact HB.out | apply below_alloc | apply pw_below_drewN | apply below_drew1) | exact HB.out))) : w.heap.size ≤ gb221)); clear HB; have HB := n0_; have BK221 := n1_; have GW221 := n2_; have GE221 := n3_; clear n0_ n1_ n2_ n3_; clear hb hbox hg; have hcz15_0 : w14.cell? ⟨gb221, 0, none⟩ = some (.int .i64 a0_0) := (blk_cell BK221.out 0).trans rfl; have hcz15_1 : w14.cell? ⟨gb221, 1, none⟩ = some (.slice A0_1 l0_1.length c0_1) := (blk_cell BK221.out 1).trans rfl; have hfz15_0 := blk_frozen BK221.out 0; have hfz15_1 := blk_frozen BK221.out 1)))
  go_ret
  exact ⟨by first | rfl | (simp [errW_none, errW_some] <;> rfl) | (simp [*, errW_none, errW_some] <;> rfl), by repeat (first | (with_reducible first | exact HB.out | apply below_alloc | apply pw_below_drewN | apply below_drew1 | refine below_set ?_ GE221.out) | exact HB.out)⟩
def impl_isSize.f (a0 : Int) : Option (Bool) := if a0 ≥ 1 then (some (decide (a0 ≤ 8))) else (some false)
set_option maxHeartbeats 8000000 in
set_option maxRecDepth 100000 in
theorem impl_isSize.calls (a0 : Int) (r : Bool) (w : World) (h : impl_isSize.f a0 = some r) :
  Calls Try.prog 47 #[.int .i64 a0] w fun e w' => e = .returned (.bool r) ∧ Drawn0 w w' := by
 have H : (if a0 ≥ 1 then (some (decide (a0 ≤ 8))) else (some false)) = some r := h
 clear h
 by_cases c2 : a0 ≥ 1
 ·rw [if_pos c2] at H
  have c2b0 : decide (1 ≤ a0) = true := decide_eq_true c2
  clear c2
  obtain rfl := Option.some.inj H
  go_enter Try.func47, Try.ntmps47
  go_wp2
  go_ret
  exact ⟨by first | rfl | (simp; done) | (simp [*]; done), by repeat (first | exact Drawn0.refl _ | apply Drawn0.step)⟩
 ·rw [if_neg c2] at H
  have c2b0 : decide (1 ≤ a0) = false := decide_eq_false c2
  clear c2
  obtain rfl := Option.some.inj H
  go_enter Try.func47, Try.ntmps47
  go_wp2
  go_ret
  exact ⟨by first | rfl | (simp; done) | (simp [*]; done), by repeat (first | exact Drawn0.refl _ | apply Drawn0.step)⟩
def impl_argsAt.l0 : Nat → Int → Int → List Int → Int → Option (List Int)
 | 0, _, _, _, _ => none
 | k + 1, x0, x2, x7, x8 => if x8 ≥ 0 then (if x2 = 0 then (none) else (if 0 ≤ x8 then (if x8 < (x7.length : Int) then (impl_argsAt.l0 k (wrap64 (Int.tdiv x0 x2)) x2 (x7.set (x8 : Int).toNat (Int.tmod x0 x2)) (wrap64 (x8 - 1))) else (none)) else (none))) else (some x7)
def impl_argsAt.f (k : Nat) (a0 : Int) (a1 : Int) (a2 : Int) : Option (List Int) := if 0 ≤ a1 then (if (a1 : Int).toNat ≤ 35184372088832 then (impl_argsAt.l0 k a0 a2 (List.replicate (a1 : Int).toNat 0) (wrap64 (a1 - 1))) else (none)) else (none)
theorem impl_argsAt.mono_l : ∀ k, (∀ y0 y1 y2 y3, LeO (impl_argsAt.l0 k y0 y1 y2 y3) (impl_argsAt.l0 (k + 1) y0 y1 y2 y3))
 | 0 => fun _ _ _ _ r h => by simp [impl_argsAt.l0] at h
 | k + 1 => by
  have ih0 := impl_argsAt.mono_l k
  ·intro y0 y1 y2 y3
   unfold impl_argsAt.l0
   repeat' first
   | (with_reducible exact ih0 _ _ _ _)
   | (with_reducible exact LeO.refl _)
   | (with_reducible exact LeO.none _)
   | (with_reducible refine LeO.ite ?_ ?_)
   | (with_reducible refine LeO.bind ?_ (fun _ => ?_))
   | exact ih0 _ _ _ _
   | exact LeO.none _
   | refine LeO.ite ?_ ?_
   | refine LeO.bind ?_ (fun _ => ?_)
theorem impl_argsAt.mono : ∀ a0 a1 a2 k, LeO (impl_argsAt.f k a0 a1 a2) (impl_argsAt.f (k + 1) a0 a1 a2) := by
 intro a0 a1 a2 k
 have ih0 := impl_argsAt.mono_l k
 unfold impl_argsAt.f
 repeat' first
   | (with_reducible exact ih0 _ _ _ _)
   | (with_reducible exact LeO.refl _)
   | (with_reducible exact LeO.none _)
   | (with_reducible refine LeO.ite ?_ ?_)
   | (with_reducible refine LeO.bind ?_ (fun _ => ?_))
   | exact ih0 _ _ _ _
   | exact LeO.none _
   | refine LeO.ite ?_ ?_
   | refine LeO.bind ?_ (fun _ => ?_)
set_option maxHeartbeats 8000000 in
set_option maxRecDepth 100000 in
theorem impl_argsAt.calls (k : Nat) (a0 : Int) (a1 : Int) (a2 : Int) (r : List Int) (w : World) (h : impl_argsAt.f k a0 a1 a2 = some r) :
  Calls Try.prog 43 #[.int .i64 a0, .int .i64 a1, .int .i64 a2] w fun e w' => ∃ v0_ : Value, e = .returned (v0_) ∧ Kd.R (Kd.int .i64) 3 w' w.heap.size (fun _ => True) v0_ r ∧ Below w.heap.size w w' := by
 have HB := Aside0.mk (Below.refl w.heap.size w)
 have H : (if 0 ≤ a1 then (if (a1 : Int).toNat ≤ 35184372088832 then (impl_argsAt.l0 k a0 a2 (List.replicate (a1 : Int).toNat 0) (wrap64 (a1 - 1))) else (none)) else (none)) = some r := h
 clear h
 by_cases c4 : 0 ≤ a1
 ·rw [if_pos c4] at H
  have c4b0 := eq_true c4
  have c4b1 : decide (0 ≤ a1) = true := decide_eq_true c4
  clear c4
  by_cases c5 : (a1 : Int).toNat ≤ 35184372088832
  ·rw [if_pos c5] at H
   have c5b0 := eq_true c5
   have c5b1 : decide ((a1 : Int).toNat ≤ 35184372088832) = true := decide_eq_true c5
   clear c5
   obtain ⟨y259, hy259⟩ : ∃ y_ : List Int, y_ = (List.replicate (a1 : Int).toNat 0) := ⟨_, rfl⟩
   replace H : (impl_argsAt.l0 k a0 a2 y259 (wrap64 (a1 - 1))) = some r := by first | (rw [hy259]; with_reducible exact H) | (have H2_ := (Option.bind_some _ _).symm.trans H; rw [hy259]; with_reducible exact H2_) | (have H2_ := (Option.bind_some _ _).symm.trans H; with_reducible exact H2_) | with_reducible exact H | (rw [hy259]; exact H) | exact H
   have Ny259 := Aside0.mk hy259
   clear hy259
   have H' := Aside0.mk H
   clear H
   go_enter Try.func43, Try.ntmps43
   go_wp2_with (first | ((with_reducible refine gate_dst (N := 10) rfl ?_); refine Kd.R_make (Kd.int .i64) _ 3 rfl (N := 10) rfl 35 _ _ rfl a1 rfl rfl Try.underlying35 (.int .i64 0) 8 info3 rfl (by decide) (by omega) 0 (ok := fun _ => True) (okp := fun _ => True) rfl (fun _ hk => hk) trivial (of_decide_eq_true (by first | (with_reducible assumption) | assumption)) (Nat.le_trans (Nat.mul_le_mul_right _ (of_decide_eq_true (by first | (with_reducible assumption) | assumption) : a1.toNat ≤ 35184372088832)) (by omega)) (Below.refl _ _) (Nat.le_refl _) ?_; intro v260 w6 ho7 hb hg_ hnew_; clear hg_ hnew_; (first | rw [← Ny259.out] at ho7 | (simp only [Int.reduceToNat] at ho7; rw [← Ny259.out] at ho7)); have n0_ := Aside0.mk (Kd.R_lower ho7 (below_size (by repeat (first | (with_reducible first | exact HB.out | apply below_alloc | apply pw_below_drewN | apply below_drew1) | exact HB.out)))); have n1_ := Aside0.mk (below_step (by repeat (first | (with_reducible first | exact HB.out | apply below_alloc | apply pw_below_drewN | apply below_drew1) | exact HB.out)) hb); clear HB; have HO261 := n0_; have HB := n1_; clear n0_ n1_; clear hb ho7))
   go_loopg [0, 8] k (fun kq v0 v8 w' => ∃ (x0_1 : Int) (x7_1 : List Int) (x8_1 : Int), v0 = .int .i64 x0_1 ∧ v8 = .int .i64 x8_1 ∧ Aside0 (impl_argsAt.l0 kq x0_1 a2 x7_1 x8_1 = some r) ∧ Aside0 (kq ≤ k) ∧ Aside0 (Kd.R (Kd.int .i64) 3 w' w.heap.size (fun _ => True) v260 x7_1) ∧ Aside0 (Below w.heap.size w w'))
   case atStart => exact ⟨(a0), (y259), (wrap64 (a1 - 1)), (by first | rfl | (simp; done) | (simp [*]; done)), (by first | rfl | (simp; done) | (simp [*]; done)), H', ⟨Nat.le_refl _⟩, ⟨by (with_reducible repeat (first | apply Kd.R_alloc | apply Kd.R_drewN | apply Kd.R_drew)); exact HO261.out⟩, ⟨by repeat (first | (with_reducible first | exact HB.out | apply below_alloc | apply pw_below_drewN | apply below_drew1) | exact HB.out)⟩⟩
   case round =>
    clear H'
    try clear p2
    try clear c4
    try clear c4b0
    try clear c4b1
    try clear c5
    try clear c5b0
    try clear c5b1
    try clear p6
    obtain ⟨x0_1, x7_1, x8_1, rfl, rfl, HA, HK1, HO_7, HB⟩ := hrel
    cases gk with
    | zero => exact absurd HA.out (by simp [impl_argsAt.l0])
    | succ k1 =>
     have H := HA.out
     clear HA
     simp only [impl_argsAt.l0] at H
     by_cases c8 : x8_1 ≥ 0
     ·rw [if_pos c8] at H
      have c8b0 : decide (0 ≤ x8_1) = true := decide_eq_true c8
      clear c8
      by_cases c9 : a2 = 0
      ·rw [if_pos c9] at H
       exact absurd H (by simp)
      ·rw [if_neg c9] at H
       have c9b0 : (a2 == 0) = false := beq_eq_false_iff_ne.mpr c9
       have c9b1 : (a2 != 0) = true := bne_iff_ne.mpr c9
       by_cases c10 : 0 ≤ x8_1
       ·rw [if_pos c10] at H
        have c10b0 : decide (0 ≤ x8_1) = true := decide_eq_true c10
        clear c10
        by_cases c11 : x8_1 < (x7_1.length : Int)
        ·rw [if_pos c11] at H
         have c11b0 : decide (x8_1 < (x7_1.length : Int)) = true := decide_eq_true c11
         clear c11
         obtain ⟨y262, hy262⟩ : ∃ y_ : List Int, y_ = (x7_1.set (x8_1 : Int).toNat (Int.tmod x0_1 a2)) := ⟨_, rfl⟩
         replace H : (impl_argsAt.l0 k1 (wrap64 (Int.tdiv x0_1 a2)) a2 y262 (wrap64 (x8_1 - 1))) = some r := by first | (rw [hy262]; with_reducible exact H) | (have H2_ := (Option.bind_some _ _).symm.trans H; rw [hy262]; with_reducible exact H2_) | (have H2_ := (Option.bind_some _ _).symm.trans H; with_reducible exact H2_) | with_reducible exact H | (rw [hy262]; exact H) | exact H
         have Ny262 := Aside0.mk hy262
         clear hy262
         have H' := Aside0.mk H
         clear H
         have p12 : 0 ≤ (x8_1 : Int) := of_decide_eq_true (by first | (with_reducible assumption) | assumption)
         have q12 : (x8_1 : Int) < ((x7_1.length : Int) : Int) := of_decide_eq_true (by first | (with_reducible assumption) | assumption)
         obtain ⟨go12, co12, eo12, gb12, gl12, cl12, HG12⟩ := Kd.R_form HO_7.out (by omega)
         (first | cases eo12 | (injection eo12 with ea_ en_ ec_; (first | subst ea_ | (injection ea_ with ea_; subst ea_)); subst ec_; clear en_))
         have GB12 := Aside0.mk gb12
         have GG12 := Aside0.mk HG12
         clear gb12 gl12 HG12
         obtain ⟨hx12_0, hf12_0⟩ := Kd.R_celln 0 HO_7.out (x8_1 : Int) p12 q12
         replace p12 := eq_true p12
         replace q12 := eq_true q12
         have HP13 := Kd.R_putg HO_7.out (x8_1 : Int) (Int.tmod x0_1 a2)
         go_wp2_with (first | ((with_reducible refine gate_store (t := 3) (p := 22) rfl ?_); refine store_event (t := 3) (p := 22) (v := ?vo_w14) (w1 := (wr.setCell ⟨go12, (x8_1 : Int).toNat, none⟩ (.int .i64 (Int.tmod x0_1 a2)))) ?hg ?ho ?hn ?hr ?_; (case ho => rfl); (case hg => rfl); (case hn => rfl); (case hr => first | (go_simp; done) | (go_simp; rfl)); intro w14 hw; have hg : wr.grownBy w14 (some go12) := (by rw [hw]; exact HP13.2); have hp_ : Kd.R (Kd.int .i64) 3 w14 w.heap.size (fun _ => True) (.slice (some ⟨go12, 0, none⟩) x7_1.length co12) y262 := (by rw [hw, Ny262.out]; exact HP13.1); clear HP13; have n0_ := Aside0.mk (hp_); have n1_ := Aside0.mk ((by rw [hw]; exact below_set (HB.out) GB12.out : Below w.heap.size w w14)); clear HO_7; clear HB; have HO_7 := n0_; have HB := n1_; clear n0_ n1_; clear hg hw hp_))
         go_roundg k1
         case measure => have := HK1.out; omega
         case rel => exact ⟨(wrap64 (Int.tdiv x0_1 a2)), (y262), (wrap64 (x8_1 - 1)), (by first | rfl | (simp; done) | (simp [*]; done)), (by first | rfl | (simp; done) | (simp [*]; done)), H', ⟨by have := HK1.out; omega⟩, ⟨by (with_reducible repeat (first | apply Kd.R_alloc | apply Kd.R_drewN | apply Kd.R_drew)); exact HO_7.out⟩, ⟨by repeat (first | (with_reducible first | exact HB.out | apply below_alloc | apply pw_below_drewN | apply below_drew1) | exact HB.out)⟩⟩
        ·rw [if_neg c11] at H
         exact absurd H (by simp)
       ·rw [if_neg c10] at H
        exact absurd H (by simp)
     ·rw [if_neg c8] at H
      have c8b0 : decide (0 ≤ x8_1) = false := decide_eq_false c8
      clear c8
      obtain rfl := Option.some.inj H
      go_wp2
      go_ret
      exact ⟨_, by first | rfl | (simp [errW_none, errW_some] <;> rfl) | (simp [*, errW_none, errW_some] <;> rfl), by (with_reducible repeat (first | apply Kd.R_alloc | apply Kd.R_drewN | apply Kd.R_drew)); exact HO_7.out, by repeat (first | (with_reducible first | exact HB.out | apply below_alloc | apply pw_below_drewN | apply below_drew1) | exact HB.out)⟩
  ·rw [if_neg c5] at H
   exact absurd H (by simp)
 ·rw [if_neg c4] at H
  exact absurd H (by simp)
def impl_indexOf.l0 : Nat → Int → Int → List Int → Int → Int → Option (Int)
 | 0, _, _, _, _, _ => none
 | k + 1, x1, x5, x8, x9, x10 => if x10 < x9 then (if 0 ≤ x10 then (if x10 < (x8.length : Int) then (impl_indexOf.l0 k x1 (wrap64 ((wrap64 (x5 * x1)) + (rd x8 x10))) x8 x9 (wrap64 (x10 + 1))) else (none)) else (none)) else (some x5)
def impl_indexOf.f (k : Nat) (l0 : List Int) (a1 : Int) : Option (Int) := impl_indexOf.l0 k a1 0 l0 (l0.length : Int) 0
theorem impl_indexOf.mono_l : ∀ k, (∀ y0 y1 y2 y3 y4, LeO (impl_indexOf.l0 k y0 y1 y2 y3 y4) (impl_indexOf.l0 (k + 1) y0 y1 y2 y3 y4))
 | 0 => fun _ _ _ _ _ r h => by simp [impl_indexOf.l0] at h
 | k + 1 => by
  have ih0 := impl_indexOf.mono_l k
  ·intro y0 y1 y2 y3 y4
   unfold impl_indexOf.l0
   repeat' first
   | (with_reducible exact ih0 _ _ _ _ _)
   | (with_reducible exact LeO.refl _)
   | (with_reducible exact LeO.none _)
   | (with_reducible refine LeO.ite ?_ ?_)
   | (with_reducible refine LeO.bind ?_ (fun _ => ?_))
   | exact ih0 _ _ _ _ _
   | exact LeO.none _
   | refine LeO.ite ?_ ?_
   | refine LeO.bind ?_ (fun _ => ?_)
theorem impl_indexOf.mono : ∀ a0 a1 k, LeO (impl_indexOf.f k a0 a1) (impl_indexOf.f (k + 1) a0 a1) := by
 intro a0 a1 k
 have ih0 := impl_indexOf.mono_l k
 unfold impl_indexOf.f
 repeat' first
   | (with_reducible exact ih0 _ _ _ _ _)
   | (with_reducible exact LeO.refl _)
   | (with_reducible exact LeO.none _)
   | (with_reducible refine LeO.ite ?_ ?_)
   | (with_reducible refine LeO.bind ?_ (fun _ => ?_))
   | exact ih0 _ _ _ _ _
   | exact LeO.none _
   | refine LeO.ite ?_ ?_
   | refine LeO.bind ?_ (fun _ => ?_)
set_option maxHeartbeats 8000000 in
set_option maxRecDepth 100000 in
theorem impl_indexOf.calls (k : Nat) (A0 : Option Addr) (c0 : Nat) (l0 : List Int) (a1 : Int) (r : Int) (w : World) (hr0 : Kd.C (Kd.int .i64) w A0 l0.length l0) (hc0 : l0.length ≤ c0) (h : impl_indexOf.f k l0 a1 = some r) :
  Calls Try.prog 44 #[.slice A0 l0.length c0, .int .i64 a1] w fun e w' => e = .returned (.int .i64 r) ∧ Drawn0 w w' := by
 have HR0 := Aside0.mk hr0
 have HC0 := Aside0.mk hc0
 clear hr0 hc0
 have H : (impl_indexOf.l0 k a1 0 l0 (l0.length : Int) 0) = some r := h
 clear h
 have H' := Aside0.mk H
 clear H
 go_enter Try.func44, Try.ntmps44
 go_wp2
 go_loopg [5, 10] k (fun kq v5 v10 w' => ∃ (x5_1 : Int) (x10_1 : Int), v5 = .int .i64 x5_1 ∧ v10 = .int .i64 x10_1 ∧ Aside0 (impl_indexOf.l0 kq a1 x5_1 l0 (l0.length : Int) x10_1 = some r) ∧ Aside0 (kq ≤ k) ∧ Drawn0 w w')
 case atStart => exact ⟨(0), (0), (by first | rfl | (simp; done) | (simp [*]; done)), (by first | rfl | (simp; done) | (simp [*]; done)), H', ⟨Nat.le_refl _⟩, by repeat (first | exact Drawn0.refl _ | apply Drawn0.step)⟩
 case round =>
  clear H'
  try clear p2
  obtain ⟨x5_1, x10_1, rfl, rfl, HA, HK1, ⟨m1, rfl⟩⟩ := hrel
  cases gk with
  | zero => exact absurd HA.out (by simp [impl_indexOf.l0])
  | succ k1 =>
   have H := HA.out
   clear HA
   simp only [impl_indexOf.l0] at H
   by_cases c3 : x10_1 < (l0.length : Int)
   ·rw [if_pos c3] at H
    have c3b0 : decide (x10_1 < (l0.length : Int)) = true := decide_eq_true c3
    clear c3
    by_cases c4 : 0 ≤ x10_1
    ·rw [if_pos c4] at H
     have c4b0 : decide (0 ≤ x10_1) = true := decide_eq_true c4
     clear c4
     by_cases c5 : x10_1 < (l0.length : Int)
     ·rw [if_pos c5] at H
      have c5b0 : decide (x10_1 < (l0.length : Int)) = true := decide_eq_true c5
      clear c5
      have H' := Aside0.mk H
      clear H
      have p397 : 0 ≤ (x10_1 : Int) := of_decide_eq_true (by first | (with_reducible assumption) | assumption)
      have q397 : x10_1 < (l0.length : Int) := of_decide_eq_true (by first | (with_reducible assumption) | assumption)
      obtain ⟨ad397, e397, hx397_0⟩ := Kd.at_int HR0.out x10_1 p397 q397
      cases e397
      replace p397 := eq_true p397
      replace q397 := eq_true q397
      go_wp2
      go_roundg k1
      case measure => have := HK1.out; omega
      case rel => exact ⟨(wrap64 ((wrap64 (x5_1 * a1)) + (rd l0 x10_1))), (wrap64 (x10_1 + 1)), (by first | rfl | (simp; done) | (simp [*]; done)), (by first | rfl | (simp; done) | (simp [*]; done)), H', ⟨by have := HK1.out; omega⟩, by repeat (first | exact Drawn0.refl _ | apply Drawn0.step)⟩
     ·rw [if_neg c5] at H
      exact absurd H (by simp)
    ·rw [if_neg c4] at H
     exact absurd H (by simp)
   ·rw [if_neg c3] at H
    have c3b0 : decide (x10_1 < (l0.length : Int)) = false := decide_eq_false c3
    clear c3
    obtain rfl := Option.some.inj H
    go_wp2
    go_ret
    exact ⟨by first | rfl | (simp; done) | (simp [*]; done), by repeat (first | exact Drawn0.refl _ | apply Drawn0.step)⟩
def impl_compose.l0 : Nat → List Int → List Int → List Int → Int → Int → Option (List Int)
 | 0, _, _, _, _, _ => none
 | k + 1, x1, x5, x11, x12, x13 => if x13 < x12 then (if 0 ≤ x13 then (if x13 < (x11.length : Int) then (if 0 ≤ (rd x11 x13) then (if (rd x11 x13) < (x1.length : Int) then (if x13 < (x5.length : Int) then (impl_compose.l0 k x1 (x5.set (x13 : Int).toNat (rd x1 (rd x11 x13))) x11 x12 (wrap64 (x13 + 1))) else (none)) else (none)) else (none)) else (none)) else (none)) else (some x5)
def impl_compose.f (k : Nat) (l0 : List Int) (l1 : List Int) : Option (List Int) := if 0 ≤ (l0.length : Int) then (if ((l0.length : Int) : Int).toNat ≤ 35184372088832 then (impl_compose.l0 k l1 (List.replicate ((l0.length : Int) : Int).toNat 0) l0 (l0.length : Int) 0) else (none)) else (none)
theorem impl_compose.mono_l : ∀ k, (∀ y0 y1 y2 y3 y4, LeO (impl_compose.l0 k y0 y1 y2 y3 y4) (impl_compose.l0 (k + 1) y0 y1 y2 y3 y4))
 | 0 => fun _ _ _ _ _ r h => by simp [impl_compose.l0] at h
 | k + 1 => by
  have ih0 := impl_compose.mono_l k
  ·intro y0 y1 y2 y3 y4
   unfold impl_compose.l0
   repeat' first
   | (with_reducible exact ih0 _ _ _ _ _)
   | (with_reducible exact LeO.refl _)
   | (with_reducible exact LeO.none _)
   | (with_reducible refine LeO.ite ?_ ?_)
   | (with_reducible refine LeO.bind ?_ (fun _ => ?_))
   | exact ih0 _ _ _ _ _
   | exact LeO.none _
   | refine LeO.ite ?_ ?_
   | refine LeO.bind ?_ (fun _ => ?_)
theorem impl_compose.mono : ∀ a0 a1 k, LeO (impl_compose.f k a0 a1) (impl_compose.f (k + 1) a0 a1) := by
 intro a0 a1 k
 have ih0 := impl_compose.mono_l k
 unfold impl_compose.f
 repeat' first
   | (with_reducible exact ih0 _ _ _ _ _)
   | (with_reducible exact LeO.refl _)
   | (with_reducible exact LeO.none _)
   | (with_reducible refine LeO.ite ?_ ?_)
   | (with_reducible refine LeO.bind ?_ (fun _ => ?_))
   | exact ih0 _ _ _ _ _
   | exact LeO.none _
   | refine LeO.ite ?_ ?_
   | refine LeO.bind ?_ (fun _ => ?_)
set_option maxHeartbeats 8000000 in
set_option maxRecDepth 100000 in
theorem impl_compose.calls (k : Nat) (A0 : Option Addr) (c0 : Nat) (l0 : List Int) (A1 : Option Addr) (c1 : Nat) (l1 : List Int) (r : List Int) (w : World) (hr0 : Kd.C (Kd.int .i64) w A0 l0.length l0) (hc0 : l0.length ≤ c0) (hr1 : Kd.C (Kd.int .i64) w A1 l1.length l1) (hc1 : l1.length ≤ c1) (h : impl_compose.f k l0 l1 = some r) :
  Calls Try.prog 62 #[.slice A0 l0.length c0, .slice A1 l1.length c1] w fun e w' => ∃ v0_ : Value, e = .returned (v0_) ∧ Kd.R (Kd.int .i64) 3 w' w.heap.size (fun _ => True) v0_ r ∧ Below w.heap.size w w' := by
 have HR0 := Aside0.mk hr0
 have HC0 := Aside0.mk hc0
 clear hr0 hc0
 have HR1 := Aside0.mk hr1
 have HC1 := Aside0.mk hc1
 clear hr1 hc1
 have HB := Aside0.mk (Below.refl w.heap.size w)
 have H : (if 0 ≤ (l0.length : Int) then (if ((l0.length : Int) : Int).toNat ≤ 35184372088832 then (impl_compose.l0 k l1 (List.replicate ((l0.length : Int) : Int).toNat 0) l0 (l0.length : Int) 0) else (none)) else (none)) = some r := h
 clear h
 by_cases c3 : 0 ≤ (l0.length : Int)
 ·rw [if_pos c3] at H
  have c3b0 := eq_true c3
  have c3b1 : decide (0 ≤ (l0.length : Int)) = true := decide_eq_true c3
  clear c3
  by_cases c4 : ((l0.length : Int) : Int).toNat ≤ 35184372088832
  ·rw [if_pos c4] at H
   have c4b0 := eq_true c4
   have c4b1 : decide (((l0.length : Int) : Int).toNat ≤ 35184372088832) = true := decide_eq_true c4
   clear c4
   obtain ⟨y578, hy578⟩ : ∃ y_ : List Int, y_ = (List.replicate ((l0.length : Int) : Int).toNat 0) := ⟨_, rfl⟩
   replace H : (impl_compose.l0 k l1 y578 l0 (l0.length : Int) 0) = some r := by first | (rw [hy578]; with_reducible exact H) | (have H2_ := (Option.bind_some _ _).symm.trans H; rw [hy578]; with_reducible exact H2_) | (have H2_ := (Option.bind_some _ _).symm.trans H; with_reducible exact H2_) | with_reducible exact H | (rw [hy578]; exact H) | exact H
   have Ny578 := Aside0.mk hy578
   clear hy578
   have H' := Aside0.mk H
   clear H
   go_enter Try.func62, Try.ntmps62
   go_wp2_with (first | ((with_reducible refine gate_dst (N := 10) rfl ?_); refine Kd.R_make (Kd.int .i64) _ 3 rfl (N := 10) rfl 35 _ _ rfl (l0.length : Int) rfl rfl Try.underlying35 (.int .i64 0) 8 info3 rfl (by decide) (by omega) 0 (ok := fun _ => True) (okp := fun _ => True) rfl (fun _ hk => hk) trivial (of_decide_eq_true (by first | (with_reducible assumption) | assumption)) (Nat.le_trans (Nat.mul_le_mul_right _ (of_decide_eq_true (by first | (with_reducible assumption) | assumption) : (l0.length : Int).toNat ≤ 35184372088832)) (by omega)) (Below.refl _ _) (Nat.le_refl _) ?_; intro v579 w5 ho6 hb hg_ hnew_; clear hg_ hnew_; (first | rw [← Ny578.out] at ho6 | (simp only [Int.reduceToNat] at ho6; rw [← Ny578.out] at ho6)); have n0_ := Aside0.mk (Kd.R_lower ho6 (below_size (by repeat (first | (with_reducible first | exact HB.out | apply below_alloc | apply pw_below_drewN | apply below_drew1) | exact HB.out)))); have n1_ := Aside0.mk (below_step (by repeat (first | (with_reducible first | exact HB.out | apply below_alloc | apply pw_below_drewN | apply below_drew1) | exact HB.out)) hb); clear HB; have HO580 := n0_; have HB := n1_; clear n0_ n1_; clear hb ho6))
   go_loopg [13] k (fun kq v13 w' => ∃ (x5_1 : List Int) (x13_1 : Int), v13 = .int .i64 x13_1 ∧ Aside0 (impl_compose.l0 kq l1 x5_1 l0 (l0.length : Int) x13_1 = some r) ∧ Aside0 (kq ≤ k) ∧ Aside0 (Kd.R (Kd.int .i64) 3 w' w.heap.size (fun _ => True) v579 x5_1) ∧ Aside0 (Below w.heap.size w w'))
   case atStart => exact ⟨(y578), (0), (by first | rfl | (simp; done) | (simp [*]; done)), H', ⟨Nat.le_refl _⟩, ⟨by (with_reducible repeat (first | apply Kd.R_alloc | apply Kd.R_drewN | apply Kd.R_drew)); exact HO580.out⟩, ⟨by repeat (first | (with_reducible first | exact HB.out | apply below_alloc | apply pw_below_drewN | apply below_drew1) | exact HB.out)⟩⟩
   case round =>
    clear H'
    try clear c1
    try clear p2
    try clear c3
    try clear c3b0
    try clear c3b1
    try clear c4
    try clear c4b0
    try clear c4b1
    try clear c6
    obtain ⟨x5_1, x13_1, rfl, HA, HK1, HO_5, HB⟩ := hrel
    cases gk with
    | zero => exact absurd HA.out (by simp [impl_compose.l0])
    | succ k1 =>
     have H := HA.out
     clear HA
     simp only [impl_compose.l0] at H
     by_cases c7 : x13_1 < (l0.length : Int)
     ·rw [if_pos c7] at H
      have c7b0 : decide (x13_1 < (l0.length : Int)) = true := decide_eq_true c7
      clear c7
      by_cases c8 : 0 ≤ x13_1
      ·rw [if_pos c8] at H
       have c8b0 : decide (0 ≤ x13_1) = true := decide_eq_true c8
       clear c8
       by_cases c9 : x13_1 < (l0.length : Int)
       ·rw [if_pos c9] at H
        have c9b0 : decide (x13_1 < (l0.length : Int)) = true := decide_eq_true c9
        clear c9
        by_cases c10 : 0 ≤ (rd l0 x13_1)
        ·rw [if_pos c10] at H
         have c10b0 : decide (0 ≤ (rd l0 x13_1)) = true := decide_eq_true c10
         clear c10
         by_cases c11 : (rd l0 x13_1) < (l1.length : Int)
         ·rw [if_pos c11] at H
          have c11b0 : decide ((rd l0 x13_1) < (l1.length : Int)) = true := decide_eq_true c11
          clear c11
          by_cases c12 : x13_1 < (x5_1.length : Int)
          ·rw [if_pos c12] at H
           have c12b0 : decide (x13_1 < (x5_1.length : Int)) = true := decide_eq_true c12
           clear c12
           obtain ⟨y583, hy583⟩ : ∃ y_ : List Int, y_ = (x5_1.set (x13_1 : Int).toNat (rd l1 (rd l0 x13_1))) := ⟨_, rfl⟩
           replace H : (impl_compose.l0 k1 l1 y583 l0 (l0.length : Int) (wrap64 (x13_1 + 1))) = some r := by first | (rw [hy583]; with_reducible exact H) | (have H2_ := (Option.bind_some _ _).symm.trans H; rw [hy583]; with_reducible exact H2_) | (have H2_ := (Option.bind_some _ _).symm.trans H; with_reducible exact H2_) | with_reducible exact H | (rw [hy583]; exact H) | exact H
           have Ny583 := Aside0.mk hy583
           clear hy583
           have H' := Aside0.mk H
           clear H
           have p581 : 0 ≤ (x13_1 : Int) := of_decide_eq_true (by first | (with_reducible assumption) | assumption)
           have q581 : x13_1 < (l0.length : Int) := of_decide_eq_true (by first | (with_reducible assumption) | assumption)
           obtain ⟨ad581, e581, hx581_0⟩ := Kd.at_int HR0.out x13_1 p581 q581
           cases e581
           replace hx581_0 := (HB.out.cell (World.block_lt_of_cell? w _ hx581_0)).trans hx581_0
           replace p581 := eq_true p581
           replace q581 := eq_true q581
           have p582 : 0 ≤ ((rd l0 x13_1) : Int) := of_decide_eq_true (by first | (with_reducible assumption) | assumption)
           have q582 : (rd l0 x13_1) < (l1.length : Int) := of_decide_eq_true (by first | (with_reducible assumption) | assumption)
           obtain ⟨ad582, e582, hx582_0⟩ := Kd.at_int HR1.out (rd l0 x13_1) p582 q582
           cases e582
           replace hx582_0 := (HB.out.cell (World.block_lt_of_cell? w _ hx582_0)).trans hx582_0
           replace p582 := eq_true p582
           replace q582 := eq_true q582
           have p13 : 0 ≤ (x13_1 : Int) := of_decide_eq_true (by first | (with_reducible assumption) | assumption)
           have q13 : (x13_1 : Int) < ((x5_1.length : Int) : Int) := of_decide_eq_true (by first | (with_reducible assumption) | assumption)
           obtain ⟨go13, co13, eo13, gb13, gl13, cl13, HG13⟩ := Kd.R_form HO_5.out (by omega)
           (first | cases eo13 | (injection eo13 with ea_ en_ ec_; (first | subst ea_ | (injection ea_ with ea_; subst ea_)); subst ec_; clear en_))
           have GB13 := Aside0.mk gb13
           have GG13 := Aside0.mk HG13
           clear gb13 gl13 HG13
           obtain ⟨hx13_0, hf13_0⟩ := Kd.R_celln 0 HO_5.out (x13_1 : Int) p13 q13
           replace p13 := eq_true p13
           replace q13 := eq_true q13
           have HP14 := Kd.R_putg HO_5.out (x13_1 : Int) (rd l1 (rd l0 x13_1))
           go_wp2_with (first | ((with_reducible refine gate_store (t := 3) (p := 24) rfl ?_); refine store_event (t := 3) (p := 24) (v := ?vo_w15) (w1 := (wr.setCell ⟨go13, (x13_1 : Int).toNat, none⟩ (.int .i64 (rd l1 (rd l0 x13_1))))) ?hg ?ho ?hn ?hr ?_; (case ho => rfl); (case hg => rfl); (case hn => rfl); (case hr => first | (go_simp; done) | (go_simp; rfl)); intro w15 hw; have hg : wr.grownBy w15 (some go13) := (by rw [hw]; exact HP14.2); have hp_ : Kd.R (Kd.int .i64) 3 w15 w.heap.size (fun _ => True) (.slice (some ⟨go13, 0, none⟩) x5_1.length co13) y583 := (by rw [hw, Ny583.out]; exact HP14.1); clear HP14; have n0_ := Aside0.mk (hp_); have n1_ := Aside0.mk ((by rw [hw]; exact below_set (HB.out) GB13.out : Below w.heap.size w w15)); clear HO_5; clear HB; have HO_5 := n0_; have HB := n1_; clear n0_ n1_; clear hg hw hp_))
           go_roundg k1
           case measure => have := HK1.out; omega
           case rel => exact ⟨(y583), (wrap64 (x13_1 + 1)), (by first | rfl | (simp; done) | (simp [*]; done)), H', ⟨by have := HK1.out; omega⟩, ⟨by (with_reducible repeat (first | apply Kd.R_alloc | apply Kd.R_drewN | apply Kd.R_drew)); exact HO_5.out⟩, ⟨by repeat (first | (with_reducible first | exact HB.out | apply below_alloc | apply pw_below_drewN | apply below_drew1) | exact HB.out)⟩⟩
          ·rw [if_neg c12] at H
           exact absurd H (by simp)
         ·rw [if_neg c11] at H
          exact absurd H (by simp)
        ·rw [if_neg c10] at H
         exact absurd H (by simp)
       ·rw [if_neg c9] at H
        exact absurd H (by simp)
      ·rw [if_neg c8] at H
       exact absurd H (by simp)
     ·rw [if_neg c7] at H
      have c7b0 : decide (x13_1 < (l0.length : Int)) = false := decide_eq_false c7
      clear c7
      obtain rfl := Option.some.inj H
      go_wp2
      go_ret
      exact ⟨_, by first | rfl | (simp [errW_none, errW_some] <;> rfl) | (simp [*, errW_none, errW_some] <;> rfl), by (with_reducible repeat (first | apply Kd.R_alloc | apply Kd.R_drewN | apply Kd.R_drew)); exact HO_5.out, by repeat (first | (with_reducible first | exact HB.out | apply below_alloc | apply pw_below_drewN | apply below_drew1) | exact HB.out)⟩
  ·rw [if_neg c4] at H
   exact absurd H (by simp)
 ·rw [if_neg c3] at H
  exact absurd H (by simp)
def impl_minor.l0 : Nat → Int → List Int → Int → Int → Int → List Int → Int → List Int → Option (Int × List Int)
 | 0, _, _, _, _, _, _, _, _ => none
 | k + 1, x0, x2, x3, x10, x585000, x585001, x587000, x587001 => (impl_power.f k x0 x3).bind fun t587 => (if x10 < t587 then ((impl_argsAt.f k x10 x3 x0).bind fun t588 => ((impl_compose.f k x2 t588).bind fun t591 => ((impl_indexOf.f k t591 x0).bind fun t594 => (if 0 ≤ t594 then (if t594 < (x585001.length : Int) then (if x587001.length < 17592186044416 then (impl_minor.l0 k x0 x2 x3 (wrap64 (x10 + 1)) x585000 x585001 x587000 (x587001 ++ [rd x585001 t594])) else (none)) else (none)) else (none))))) else (some (x587000, x587001)))
def impl_minor.f (k : Nat) (a0 : Int) (a1_0 : Int) (l1_1 : List Int) (l2 : List Int) (a3 : Int) : Option (Int × List Int) := impl_minor.l0 k a0 l2 a3 0 a1_0 l1_1 a3 ([] : List Int)
theorem impl_minor.mono_l : ∀ k, (∀ y0 y1 y2 y3 y4 y5 y6 y7, LeO (impl_minor.l0 k y0 y1 y2 y3 y4 y5 y6 y7) (impl_minor.l0 (k + 1) y0 y1 y2 y3 y4 y5 y6 y7))
 | 0 => fun _ _ _ _ _ _ _ _ r h => by simp [impl_minor.l0] at h
 | k + 1 => by
  have ih0 := impl_minor.mono_l k
  ·intro y0 y1 y2 y3 y4 y5 y6 y7
   unfold impl_minor.l0
   repeat' first
   | (with_reducible exact ih0 _ _ _ _ _ _ _ _)
   | (with_reducible exact impl_argsAt.mono _ _ _ _)
   | (with_reducible exact impl_compose.mono _ _ _)
   | (with_reducible exact impl_indexOf.mono _ _ _)
   | (with_reducible exact impl_power.mono _ _ _)
   | (with_reducible exact LeO.refl _)
   | (with_reducible exact LeO.none _)
   | (with_reducible refine LeO.ite ?_ ?_)
   | (with_reducible refine LeO.bind ?_ (fun _ => ?_))
   | exact ih0 _ _ _ _ _ _ _ _
   | exact impl_argsAt.mono _ _ _ _
   | exact impl_compose.mono _ _ _
   | exact impl_indexOf.mono _ _ _
   | exact impl_power.mono _ _ _
   | exact LeO.none _
   | refine LeO.ite ?_ ?_
   | refine LeO.bind ?_ (fun _ => ?_)
theorem impl_minor.mono : ∀ a0 a1 a2 a3 a4 k, LeO (impl_minor.f k a0 a1 a2 a3 a4) (impl_minor.f (k + 1) a0 a1 a2 a3 a4) := by
 intro a0 a1 a2 a3 a4 k
 have ih0 := impl_minor.mono_l k
 unfold impl_minor.f
 repeat' first
   | (with_reducible exact ih0 _ _ _ _ _ _ _ _)
   | (with_reducible exact impl_argsAt.mono _ _ _ _)
   | (with_reducible exact impl_compose.mono _ _ _)
   | (with_reducible exact impl_indexOf.mono _ _ _)
   | (with_reducible exact impl_power.mono _ _ _)
   | (with_reducible exact LeO.refl _)
   | (with_reducible exact LeO.none _)
   | (with_reducible refine LeO.ite ?_ ?_)
   | (with_reducible refine LeO.bind ?_ (fun _ => ?_))
   | exact ih0 _ _ _ _ _ _ _ _
   | exact impl_argsAt.mono _ _ _ _
   | exact impl_compose.mono _ _ _
   | exact impl_indexOf.mono _ _ _
   | exact impl_power.mono _ _ _
   | exact LeO.none _
   | refine LeO.ite ?_ ?_
   | refine LeO.bind ?_ (fun _ => ?_)
def impl_minor.T5 : Bool × List (List Nat × List Nat) := (true, [([], []), ([0], [0]), ([], []), ([2], [2]), ([], []), ([], []), ([], []), ([], []), ([5, 6, 7], [5, 6, 7]), ([4, 8, 8], [4, 8]), ([], []), ([9, 10, 9], [9, 10]), ([3, 11], [3, 11]), ([12], [12]), ([13], [13]), ([1, 14, 11], [1, 14]), ([0, 1, 2, 3, 4, 5, 6, 7, 8, 9, 10, 11, 12, 13, 14, 15], []), ([16, 15, 15, 0, 1, 2, 3, 4, 5, 6, 7, 8, 9, 10, 11, 12, 13, 14, 15], [15, 16])])
def impl_minor.B5 : List Nat := [0, 1, 0, 4, 0, 0, 0, 0, 224, 496, 0, 2032, 4092, 8188, 16380, 32767, 65535, 131071]
theorem impl_minor.tab5 : rtab .any (opsOf Try.f53 5) = impl_minor.T5 := by kernel_rfl
theorem impl_minor.bits5 : waitsOk impl_minor.T5.2 impl_minor.B5 = true := by kernel_rfl
set_option maxHeartbeats 8000000 in
set_option maxRecDepth 100000 in
theorem impl_minor.calls (k : Nat) (a0 : Int) (a1_0 : Int) (A1_1 : Option Addr) (c1_1 : Nat) (l1_1 : List Int) (A2 : Option Addr) (c2 : Nat) (l2 : List Int) (a3 : Int) (r1 : Int) (r2 : List Int) (w : World) (hr1_1 : Kd.C (Kd.int .i64) w A1_1 l1_1.length l1_1) (hc1_1 : l1_1.length ≤ c1_1) (hr2 : Kd.C (Kd.int .i64) w A2 l2.length l2) (hc2 : l2.length ≤ c2) (h : impl_minor.f k a0 a1_0 l1_1 l2 a3 = some (r1, r2)) :
  Calls Try.prog 53 #[.int .i64 a0, .agg #[.int .i64 a1_0, .slice A1_1 l1_1.length c1_1], .slice A2 l2.length c2, .int .i64 a3] w fun e w' => ∃ v1_ : Value, e = .returned (.agg #[.int .i64 r1, v1_]) ∧ Kd.R (Kd.int .i64) 3 w' w.heap.size (fun _ => True) v1_ r2 ∧ Below w.heap.size w w' := by
 have hu41 := Try.underlying41
 have HR1_1 := Aside0.mk hr1_1
 have HC1_1 := Aside0.mk hc1_1
 clear hr1_1 hc1_1
 have HR2 := Aside0.mk hr2
 have HC2 := Aside0.mk hc2
 clear hr2 hc2
 have HB := Aside0.mk (Below.refl w.heap.size w)
 have H : (impl_minor.l0 k a0 l2 a3 0 a1_0 l1_1 a3 ([] : List Int)) = some (r1, r2) := h
 clear h
 have H' := Aside0.mk H
 clear H
 go_enter Try.func53, Try.ntmps53
 go_wp2_with (first | ((with_reducible refine gate_dst (N := 5) rfl ?_); refine box_event ?hg (N := 5) ?hd (cs := #[.int .i64 a1_0, .slice A1_1 l1_1.length c1_1]) (t := 41) ?hr ?_; (case hd => rfl); (case hg => rfl); (case hr => first | (go_simp; done) | (go_simp; rfl)); intro gb584 hg w5 hbox hb; have n0_ := Aside0.mk (below_step (by repeat (first | (with_reducible first | exact HB.out | apply below_alloc | apply pw_below_drewN | apply below_drew1) | exact HB.out)) hb); have n1_ := Aside0.mk (hbox); have n2_ := Aside0.mk ((by rw [hg]; exact (below_size (by repeat (first | (with_reducible first | exact HB.out | apply below_alloc | apply pw_below_drewN | apply below_drew1) | exact HB.out))) : w.heap.size ≤ gb584)); have n3_ := Aside0.mk ((by rw [hg]; exact (below_size (by repeat (first | (with_reducible first | exact HB.out | apply below_alloc | apply pw_below_drewN | apply below_drew1) | exact HB.out))) : w.heap.size ≤ gb584)); clear HB; have HB := n0_; have BK584 := n1_; have GW584 := n2_; have GE584 := n3_; clear n0_ n1_ n2_ n3_; clear hb hbox hg) | ((with_reducible refine gate_dst (N := 8) rfl ?_); refine box_event ?hg (N := 8) ?hd (cs := #[.int .i64 0, .slice none 0 0]) (t := 41) ?hr ?_; (case hd => rfl); (case hg => rfl); (case hr => first | (go_simp; done) | (go_simp; rfl)); intro gb585 hg w6 hbox hb; have n0_ := Aside0.mk (blk_below (g := gb584) (o := .cells #[.int .i64 a1_0, .slice A1_1 l1_1.length c1_1] 41 (0, 0)) (by (with_reducible repeat (first | refine blk_drewN ?_ _ | refine blk_drew ?_ | refine blk_alloc ?_ _)); exact BK584.out) hb); have n1_ := Aside0.mk (below_step (by repeat (first | (with_reducible first | exact HB.out | apply below_alloc | apply pw_below_drewN | apply below_drew1 | refine below_set ?_ GE584.out) | exact HB.out)) hb); have n2_ := Aside0.mk (hbox); have n3_ := Aside0.mk ((by rw [hg]; exact (below_size (by repeat (first | (with_reducible first | exact HB.out | apply below_alloc | apply pw_below_drewN | apply below_drew1 | refine below_set ?_ GE584.out) | exact HB.out))) : w.heap.size ≤ gb585)); have n4_ := Aside0.mk ((by rw [hg]; exact (below_size (by repeat (first | (with_reducible first | exact HB.out | apply below_alloc | apply pw_below_drewN | apply below_drew1 | refine below_set ?_ GE584.out) | exact HB.out))) : w.heap.size ≤ gb585)); have n5_ := Aside0.mk ((by rw [hg]; exact Nat.ne_of_lt (blk_lt (g := gb584) (o := .cells #[.int .i64 a1_0, .slice A1_1 l1_1.length c1_1] 41 (0, 0)) (by (with_reducible repeat (first | refine blk_drewN ?_ _ | refine blk_drew ?_ | refine blk_alloc ?_ _)); exact BK584.out)) : gb584 ≠ gb585)); have n6_ := Aside0.mk ((by rw [hg]; exact Nat.ne_of_gt (blk_lt (g := gb584) (o := .cells #[.int .i64 a1_0, .slice A1_1 l1_1.length c1_1] 41 (0, 0)) (by (with_reducible repeat (first | refine blk_drewN ?_ _ | refine blk_drew ?_ | refine blk_alloc ?_ _)); exact BK584.out)) : gb585 ≠ gb584)); clear BK584; clear HB; have BK584 := n0_; have HB := n1_; have BK585 := n2_; have GW585 := n3_; have GE585 := n4_; have NB584_585 := n5_; have NB585_584 := n6_; clear n0_ n1_ n2_ n3_ n4_ n5_ n6_; clear hb hbox hg) | ((with_reducible refine gate_dst (N := 9) rfl ?_); refine box_event ?hg (N := 9) ?hd (cs := #[.int .i64 0, .slice none 0 0]) (t := 41) ?hr ?_; (case hd => rfl); (case hg => rfl); (case hr => first | (go_simp; done) | (go_simp; rfl)); intro gb586 hg w7 hbox hb; have n0_ := Aside0.mk (blk_below (g := gb584) (o := .cells #[.int .i64 a1_0, .slice A1_1 l1_1.length c1_1] 41 (0, 0)) (by (with_reducible repeat (first | refine blk_drewN ?_ _ | refine blk_drew ?_ | refine blk_alloc ?_ _)); exact BK584.out) hb); have n1_ := Aside0.mk (blk_below (g := gb585) (o := .cells #[.int .i64 0, .slice none 0 0] 41 (0, 0)) (by (with_reducible repeat (first | refine blk_drewN ?_ _ | refine blk_drew ?_ | refine blk_alloc ?_ _)); exact BK585.out) hb); have n2_ := Aside0.mk (below_step (by repeat (first | (with_reducible first | exact HB.out | apply below_alloc | apply pw_below_drewN | apply below_drew1 | refine below_set ?_ GE584.out | refine below_set ?_ GE585.out) | exact HB.out)) hb); have n3_ := Aside0.mk (hbox); have n4_ := Aside0.mk ((by rw [hg]; exact (below_size (by repeat (first | (with_reducible first | exact HB.out | apply below_alloc | apply pw_below_drewN | apply below_drew1 | refine below_set ?_ GE584.out | refine below_set ?_ GE585.out) | exact HB.out))) : w.heap.size ≤ gb586)); have n5_ := Aside0.mk ((by rw [hg]; exact (below_size (by repeat (first | (with_reducible first | exact HB.out | apply below_alloc | apply pw_below_drewN | apply below_drew1 | refine below_set ?_ GE584.out | refine below_set ?_ GE585.out) | exact HB.out))) : w.heap.size ≤ gb586)); have n6_ := Aside0.mk ((by rw [hg]; exact Nat.ne_of_lt (blk_lt (g := gb584) (o := .cells #[.int .i64 a1_0, .slice A1_1 l1_1.length c1_1] 41 (0, 0)) (by (with_reducible repeat (first | refine blk_drewN ?_ _ | refine blk_drew ?_ | refine blk_alloc ?_ _)); exact BK584.out)) : gb584 ≠ gb586)); have n7_ := Aside0.mk ((by rw [hg]; exact Nat.ne_of_gt (blk_lt (g := gb584) (o := .cells #[.int .i64 a1_0, .slice A1_1 l1_1.length c1_1] 41 (0, 0)) (by (with_reducible repeat (first | refine blk_drewN ?_ _ | refine blk_drew ?_ | refine blk_alloc ?_ _)); exact BK584.out)) : gb586 ≠ gb584)); have n8_ := Aside0.mk ((by rw [hg]; exact Nat.ne_of_lt (blk_lt (g := gb585) (o := .cells #[.int .i64 0, .slice none 0 0] 41 (0, 0)) (by (with_reducible repeat (first | refine blk_drewN ?_ _ | refine blk_drew ?_ | refine blk_alloc ?_ _)); exact BK585.out)) : gb585 ≠ gb586)); have n9_ := Aside0.mk ((by rw [hg]; exact Nat.ne_of_gt (blk_lt (g := gb585) (o := .cells #[.int .i64 0, .slice none 0 0] 41 (0, 0)) (by (with_reducible repeat (first | refine blk_drewN ?_ _ | refine blk_drew ?_ | refine blk_alloc ?_ _)); exact BK585.out)) : gb586 ≠ gb585)); clear BK584; clear BK585; clear HB; have BK584 := n0_; have BK585 := n1_; have HB := n2_; have BK586 := n3_; have GW586 := n4_; have GE586 := n5_; have NB584_586 := n6_; have NB586_584 := n7_; have NB585_586 := n8_; have NB586_585 := n9_; clear n0_ n1_ n2_ n3_ n4_ n5_ n6_ n7_ n8_ n9_; clear hb hbox hg; have hnb8 := NB586_584.out; have hnc8 := NB584_586.out; have hnb9 := NB586_585.out; have hnc9 := NB585_586.out; have hcz10_0 : w7.cell? ⟨gb586, 0, none⟩ = some (.int .i64 0) := (blk_cell BK586.out 0).trans rfl; have hcz10_1 : w7.cell? ⟨gb586, 1, none⟩ = some (.slice none 0 0) := (blk_cell BK586.out 1).trans rfl; have hfz10_0 := blk_frozen BK586.out 0; have hfz10_1 := blk_frozen BK586.out 1))
 go_loopg [10] k (fun kq v10 w' => ∃ (x10_1 : Int) (x587001_1 : List Int) (u587001 : Value), v10 = .int .i64 x10_1 ∧ Aside0 (impl_minor.l0 kq a0 l2 a3 x10_1 a1_0 l1_1 a3 x587001_1 = some (r1, r2)) ∧ Aside0 (kq ≤ k) ∧ Aside0 (Kd.R (Kd.int .i64) 3 w' w.heap.size (fun _ => True) u587001 x587001_1) ∧ Aside0 (w'.heap[gb584]? = some (.cells #[.int .i64 a1_0, (.slice A1_1 l1_1.length c1_1)] 41 (0, 0))) ∧ Aside0 (w'.heap[gb585]? = some (.cells #[.int .i64 0, (.slice none 0 0)] 41 (0, 0))) ∧ Aside0 (w'.heap[gb586]? = some (.cells #[.int .i64 a3, u587001] 41 (0, 0))) ∧ Aside0 (Below w.heap.size w w'))
 case atStart => exact ⟨(0), (([] : List Int)), (.slice none 0 0), (by first | rfl | (simp; done) | (simp [*]; done)), H', ⟨Nat.le_refl _⟩, ⟨by first | exact Kd.R_nil _ _ _ _ _ | exact Kd.N_nil _ _ _ _ _ | exact Kd.V_nil _ _ _ _ _ | exact Kd.Q_nil _ _ _ _ _ | exact Kd.S_nil _ _ _ _ _⟩, ⟨by (with_reducible repeat (first | refine blk_drewN ?_ _ | refine blk_drew ?_ | refine blk_alloc ?_ _)); refine blk_far ?_ NB584_586.out _; (with_reducible repeat (first | refine blk_drewN ?_ _ | refine blk_drew ?_ | refine blk_alloc ?_ _)); refine blk_far ?_ NB584_586.out _; (with_reducible repeat (first | refine blk_drewN ?_ _ | refine blk_drew ?_ | refine blk_alloc ?_ _)); exact BK584.out⟩, ⟨by (with_reducible repeat (first | refine blk_drewN ?_ _ | refine blk_drew ?_ | refine blk_alloc ?_ _)); refine blk_far ?_ NB585_586.out _; (with_reducible repeat (first | refine blk_drewN ?_ _ | refine blk_drew ?_ | refine blk_alloc ?_ _)); refine blk_far ?_ NB585_586.out _; (with_reducible repeat (first | refine blk_drewN ?_ _ | refine blk_drew ?_ | refine blk_alloc ?_ _)); exact BK585.out⟩, ⟨by (with_reducible repeat (first | refine blk_drewN ?_ _ | refine blk_drew ?_ | refine blk_alloc ?_ _)); refine blk_put (cs := #[.int .i64 a3, .slice none 0 0]) ?_ 1 _ rfl; (with_reducible repeat (first | refine blk_drewN ?_ _ | refine blk_drew ?_ | refine blk_alloc ?_ _)); refine blk_put (cs := #[.int .i64 0, .slice none 0 0]) ?_ 0 _ rfl; (with_reducible repeat (first | refine blk_drewN ?_ _ | refine blk_drew ?_ | refine blk_alloc ?_ _)); exact BK586.out⟩, ⟨by repeat (first | (with_reducible first | exact HB.out | apply below_alloc | apply pw_below_drewN | apply below_drew1 | refine below_set ?_ GE584.out | refine below_set ?_ GE585.out | refine below_set ?_ GE586.out) | exact HB.out)⟩⟩
 case round =>
  clear H'
  try clear c1
  try clear c2
  try clear p2
  try clear c5
  try clear c8
  try clear c9
  try clear hcz10_0
  try clear hcz10_1
  try clear hfz10_0
  try clear hfz10_1
  obtain ⟨x10_1, x587001_1, u587001, rfl, HA, HK1, HO_587001, BK584, BK585, BK586, HB⟩ := hrel
  cases gk with
  | zero => exact absurd HA.out (by simp [impl_minor.l0])
  | succ k1 =>
   have H := HA.out
   clear HA
   simp only [impl_minor.l0] at H
   replace H := Option.bind_eq_some_iff.mp H
   obtain ⟨t587, A110, H⟩ := H
   replace H : (if x10_1 < t587 then ((impl_argsAt.f k1 x10_1 a3 a0).bind fun t588 => ((impl_compose.f k1 l2 t588).bind fun t591 => ((impl_indexOf.f k1 t591 a0).bind fun t594 => (if 0 ≤ t594 then (if t594 < (l1_1.length : Int) then (if x587001_1.length < 17592186044416 then (impl_minor.l0 k1 a0 l2 a3 (wrap64 (x10_1 + 1)) a1_0 l1_1 a3 (x587001_1 ++ [rd l1_1 t594])) else (none)) else (none)) else (none))))) else (some (a3, x587001_1))) = some (r1, r2) := H
   have A11 := Aside0.mk A110
   clear A110
   by_cases c12 : x10_1 < t587
   ·rw [if_pos c12] at H
    have c12b0 : decide (x10_1 < t587) = true := decide_eq_true c12
    clear c12
    replace H := Option.bind_eq_some_iff.mp H
    obtain ⟨t588, A130, H⟩ := H
    replace H : ((impl_compose.f k1 l2 t588).bind fun t591 => ((impl_indexOf.f k1 t591 a0).bind fun t594 => (if 0 ≤ t594 then (if t594 < (l1_1.length : Int) then (if x587001_1.length < 17592186044416 then (impl_minor.l0 k1 a0 l2 a3 (wrap64 (x10_1 + 1)) a1_0 l1_1 a3 (x587001_1 ++ [rd l1_1 t594])) else (none)) else (none)) else (none)))) = some (r1, r2) := H
    have A13 := Aside0.mk A130
    clear A130
    replace H := Option.bind_eq_some_iff.mp H
    obtain ⟨t591, A140, H⟩ := H
    replace H : ((impl_indexOf.f k1 t591 a0).bind fun t594 => (if 0 ≤ t594 then (if t594 < (l1_1.length : Int) then (if x587001_1.length < 17592186044416 then (impl_minor.l0 k1 a0 l2 a3 (wrap64 (x10_1 + 1)) a1_0 l1_1 a3 (x587001_1 ++ [rd l1_1 t594])) else (none)) else (none)) else (none))) = some (r1, r2) := H
    have A14 := Aside0.mk A140
    clear A140
    replace H := Option.bind_eq_some_iff.mp H
    obtain ⟨t594, A150, H⟩ := H
    replace H : (if 0 ≤ t594 then (if t594 < (l1_1.length : Int) then (if x587001_1.length < 17592186044416 then (impl_minor.l0 k1 a0 l2 a3 (wrap64 (x10_1 + 1)) a1_0 l1_1 a3 (x587001_1 ++ [rd l1_1 t594])) else (none)) else (none)) else (none)) = some (r1, r2) := H
    have A15 := Aside0.mk A150
    clear A150
    by_cases c16 : 0 ≤ t594
    ·rw [if_pos c16] at H
     have c16b0 : decide (0 ≤ t594) = true := decide_eq_true c16
     clear c16
     by_cases c17 : t594 < (l1_1.length : Int)
     ·rw [if_pos c17] at H
      have c17b0 : decide (t594 < (l1_1.length : Int)) = true := decide_eq_true c17
      clear c17
      by_cases c18 : x587001_1.length < 17592186044416
      ·rw [if_pos c18] at H
       have LMc18 := Aside0.mk c18
       clear c18
       obtain ⟨y596, hy596⟩ : ∃ y_ : List Int, y_ = (x587001_1 ++ [rd l1_1 t594]) := ⟨_, rfl⟩
       replace H : (impl_minor.l0 k1 a0 l2 a3 (wrap64 (x10_1 + 1)) a1_0 l1_1 a3 y596) = some (r1, r2) := by first | (rw [hy596]; with_reducible exact H) | (have H2_ := (Option.bind_some _ _).symm.trans H; rw [hy596]; with_reducible exact H2_) | (have H2_ := (Option.bind_some _ _).symm.trans H; with_reducible exact H2_) | with_reducible exact H | (rw [hy596]; exact H) | exact H
       have Ny596 := Aside0.mk hy596
       clear hy596
       have H' := Aside0.mk H
       clear H
       try go_wp2_with (first | ((with_reducible refine gate_callee (f := 42) rfl ?_); refine goesL_ (some 16) rfl rfl Try.func42 (by kernel_rfl) rfl #[.int .i64 a0, .int .i64 a3] rfl (by (try simp only [List.map_toArray, List.map_cons, List.map_nil]); first | done | rfl | (simp only [List.length_drop, List.length_take]; rfl)) ?_; (with_reducible refine (impl_power.calls k1 a0 a3 t587 _ A11.out).mono ?_); rintro e w' ⟨rfl, ⟨nd, rfl⟩⟩; refine ⟨_, rfl, ?_⟩; (try (rw [drewN_self wr]; generalize hq_ : World.drewN wr _ = wr; have n0_ : Aside0 (Kd.R (Kd.int .i64) 3 wr w.heap.size (fun _ => True) u587001 x587001_1) := ⟨by rw [← hq_]; exact (by (with_reducible repeat (first | apply Kd.R_alloc | apply Kd.R_drewN | apply Kd.R_drew)); exact HO_587001.out)⟩; have n1_ : Aside0 (wr.heap[gb584]? = some (.cells #[.int .i64 a1_0, .slice A1_1 l1_1.length c1_1] 41 (0, 0))) := ⟨by rw [← hq_]; exact (by (with_reducible repeat (first | refine blk_drewN ?_ _ | refine blk_drew ?_ | refine blk_alloc ?_ _)); exact BK584.out)⟩; have n2_ : Aside0 (wr.heap[gb585]? = some (.cells #[.int .i64 0, .slice none 0 0] 41 (0, 0))) := ⟨by rw [← hq_]; exact (by (with_reducible repeat (first | refine blk_drewN ?_ _ | refine blk_drew ?_ | refine blk_alloc ?_ _)); exact BK585.out)⟩; have n3_ : Aside0 (wr.heap[gb586]? = some (.cells #[.int .i64 a3, u587001] 41 (0, 0))) := ⟨by rw [← hq_]; exact (by (with_reducible repeat (first | refine blk_drewN ?_ _ | refine blk_drew ?_ | refine blk_alloc ?_ _)); exact BK586.out)⟩; have n4_ : Aside0 (Below w.heap.size w wr) := ⟨by rw [← hq_]; exact (by repeat (first | (with_reducible first | exact HB.out | apply below_alloc | apply pw_below_drewN | apply below_drew1 | refine below_set ?_ GE584.out | refine below_set ?_ GE585.out | refine below_set ?_ GE586.out) | exact HB.out))⟩; clear HO_587001 BK584 BK585 BK586 HB hq_; have HO_587001 := n0_; have BK584 := n1_; have BK585 := n2_; have BK586 := n3_; have HB := n4_; clear n0_ n1_ n2_ n3_ n4_; have hczq_gb584_0 : wr.cell? ⟨gb584, 0, none⟩ = some (.int .i64 a1_0) := (blk_cell BK584.out 0).trans rfl; have hfzq_gb584_0 := blk_frozen BK584.out 0; have hczq_gb584_1 : wr.cell? ⟨gb584, 1, none⟩ = some (.slice A1_1 l1_1.length c1_1) := (blk_cell BK584.out 1).trans rfl; have hfzq_gb584_1 := blk_frozen BK584.out 1; have hczq_gb585_0 : wr.cell? ⟨gb585, 0, none⟩ = some (.int .i64 0) := (blk_cell BK585.out 0).trans rfl; have hfzq_gb585_0 := blk_frozen BK585.out 0; have hczq_gb585_1 : wr.cell? ⟨gb585, 1, none⟩ = some (.slice none 0 0) := (blk_cell BK585.out 1).trans rfl; have hfzq_gb585_1 := blk_frozen BK585.out 1; have hczq_gb586_0 : wr.cell? ⟨gb586, 0, none⟩ = some (.int .i64 a3) := (blk_cell BK586.out 0).trans rfl; have hfzq_gb586_0 := blk_frozen BK586.out 0; have hczq_gb586_1 : wr.cell? ⟨gb586, 1, none⟩ = some (u587001) := (blk_cell BK586.out 1).trans rfl; have hfzq_gb586_1 := blk_frozen BK586.out 1))))
       have n0_ := Aside0.mk (Kd.R_drew HO_587001.out)
       have n1_ := Aside0.mk (blk_drew BK584.out)
       have n2_ := Aside0.mk (blk_drew BK585.out)
       have n3_ := Aside0.mk (blk_drew BK586.out)
       have n4_ := Aside0.mk (below_drew1 HB.out)
       clear HO_587001
       clear BK584
       clear BK585
       clear BK586
       clear HB
       have HO_587001 := n0_
       have BK584 := n1_
       have BK585 := n2_
       have BK586 := n3_
       have HB := n4_
       clear n0_ n1_ n2_ n3_ n4_
       have p595 : 0 ≤ (t594 : Int) := of_decide_eq_true (by first | (with_reducible assumption) | assumption)
       have q595 : t594 < (l1_1.length : Int) := of_decide_eq_true (by first | (with_reducible assumption) | assumption)
       obtain ⟨ad595, e595, hx595_0⟩ := Kd.at_int HR1_1.out t594 p595 q595
       have hw595_0 := hx595_0
       cases e595
       replace hx595_0 := (HB.out.cell (World.block_lt_of_cell? w _ hx595_0)).trans hx595_0
       replace p595 := eq_true p595
       replace q595 := eq_true q595
       refine start_ (n := 18) (S := fun w' => w'.cell? ⟨gb586, 0, none⟩ = some (.int .i64 a3) ∧ w'.cell? ⟨gb586, 1, none⟩ = some (u587001) ∧ w'.cell? ⟨gb584, 0, none⟩ = some (.int .i64 a1_0) ∧ w'.cell? ⟨gb584, 1, none⟩ = some (.slice (some ad595) l1_1.length c1_1) ∧ w'.cell? (ad595.add (t594).toNat) = some (.int .i64 (rd l1_1 t594))) (ds := [17]) #[false, false, false, false, false, false, false, false, false, false, false, false, false, false, false, false, false, false] (by kernel_rfl) rfl rfl ⟨(blk_cell BK586.out 0).trans rfl, (blk_cell BK586.out 1).trans rfl, (blk_cell BK584.out 0).trans rfl, (blk_cell BK584.out 1).trans rfl, ((HB.out.cell (World.block_lt_of_cell? w _ hw595_0)).trans hw595_0)⟩ (fun hHeld => ?_); refine with_tabW impl_minor.tab5 impl_minor.bits5 (fun HT_ HW_ => ?_)
       generalize wr.drew = w19 at HO_587001 BK584 BK585 BK586 HB hx595_0 hHeld ⊢
       refine pure_ (i := 0) (N := some 20) (v := ?_) (a' := ?_) #[true, false, false, false, false, false, false, false, false, false, false, false, false, false, false, false, false, false] rfl rfl (any_of HT_.out (by kernel_rfl)) (fun _ _ _ h => h) (Or.inl ⟨by rfl, ?_⟩) ?_ ?_
       rotate_left
       ·intro w'
        go_simp
        with_reducible rfl
       rotate_left
       ·simp only [Act.put, List.setIfInBounds_toArray, List.set_cons_zero, List.set_cons_succ, i64_w, i32_w]
        rfl
       refine pure_ (i := 2) (N := some 22) (v := ?_) (a' := ?_) #[true, false, true, false, false, false, false, false, false, false, false, false, false, false, false, false, false, false] rfl rfl (any_of HT_.out (by kernel_rfl)) (fun _ _ _ h => h) (Or.inl ⟨by rfl, ?_⟩) ?_ ?_
       rotate_left
       ·intro w'
        go_simp
        with_reducible rfl
       rotate_left
       ·simp only [Act.put, List.setIfInBounds_toArray, List.set_cons_zero, List.set_cons_succ, i64_w, i32_w]
        rfl
       refine pure_ (i := 4) (N := some 24) (v := ?_) (a' := ?_) #[true, false, true, false, true, false, false, false, false, false, false, false, false, false, false, false, false, false] rfl rfl (any_of HT_.out (by kernel_rfl)) (fun _ _ _ h => h) (Or.inl ⟨by rfl, ?_⟩) ?_ ?_
       rotate_left
       ·intro w'
        go_simp
        with_reducible rfl
       rotate_left
       ·simp only [Act.put, List.setIfInBounds_toArray, List.set_cons_zero, List.set_cons_succ, i64_w, i32_w]
        rfl
       refine pure_ (i := 5) (N := some 25) (v := ?_) (a' := ?_) #[true, false, true, false, true, true, false, false, false, false, false, false, false, false, false, false, false, false] rfl rfl (any_of HT_.out (by kernel_rfl)) (fun _ _ _ h => h) (Or.inl ⟨by rfl, ?_⟩) ?_ ?_
       rotate_left
       ·intro w'
        go_simp
        with_reducible rfl
       rotate_left
       ·simp only [Act.put, List.setIfInBounds_toArray, List.set_cons_zero, List.set_cons_succ, i64_w, i32_w]
        rfl
       refine pure_ (i := 6) (N := some 26) (v := ?_) (a' := ?_) #[true, false, true, false, true, true, true, false, false, false, false, false, false, false, false, false, false, false] rfl rfl (any_of HT_.out (by kernel_rfl)) (fun _ _ _ h => h) (Or.inl ⟨by rfl, ?_⟩) ?_ ?_
       rotate_left
       ·intro w'
        go_simp
        with_reducible rfl
       rotate_left
       ·simp only [Act.put, List.setIfInBounds_toArray, List.set_cons_zero, List.set_cons_succ, i64_w, i32_w]
        rfl
       refine pure_ (i := 7) (N := some 27) (v := ?_) (a' := ?_) #[true, false, true, false, true, true, true, true, false, false, false, false, false, false, false, false, false, false] rfl rfl (any_of HT_.out (by kernel_rfl)) (fun _ _ _ h => h) (Or.inl ⟨by rfl, ?_⟩) ?_ ?_
       rotate_left
       ·intro w'
        go_simp
        with_reducible rfl
       rotate_left
       ·simp only [Act.put, List.setIfInBounds_toArray, List.set_cons_zero, List.set_cons_succ, i64_w, i32_w]
        rfl
       refine pure_ (i := 10) (N := some 30) (v := ?_) (a' := ?_) #[true, false, true, false, true, true, true, true, false, false, true, false, false, false, false, false, false, false] rfl rfl (any_of HT_.out (by kernel_rfl)) (fun _ _ _ h => h) (Or.inl ⟨by rfl, ?_⟩) ?_ ?_
       rotate_left
       ·intro w'
        go_simp
        with_reducible rfl
       rotate_left
       ·simp only [Act.put, List.setIfInBounds_toArray, List.set_cons_zero, List.set_cons_succ, i64_w, i32_w]
        rfl
       refine take_ (i := 1) (N := some 21) (v := ?_) (a' := ?_) #[true, true, true, false, true, true, true, true, false, false, true, false, false, false, false, false, false, false] rfl rfl (take_ofW HT_.out HW_.out (by kernel_rfl)) (fun _ _ _ h => h) (Or.inl ⟨by rfl, ?_⟩) hHeld ?_ ?_
       rotate_left
       ·rintro w' ⟨s0, s1, s2, s3, s4⟩
        go_simp
        with_reducible rfl
       rotate_left
       ·simp only [Act.put, List.setIfInBounds_toArray, List.set_cons_zero, List.set_cons_succ, i64_w, i32_w]
        rfl
       refine take_ (i := 3) (N := some 23) (v := ?_) (a' := ?_) #[true, true, true, true, true, true, true, true, false, false, true, false, false, false, false, false, false, false] rfl rfl (take_ofW HT_.out HW_.out (by kernel_rfl)) (fun _ _ _ h => h) (Or.inl ⟨by rfl, ?_⟩) hHeld ?_ ?_
       rotate_left
       ·rintro w' ⟨s0, s1, s2, s3, s4⟩
        go_simp
        with_reducible rfl
       rotate_left
       ·simp only [Act.put, List.setIfInBounds_toArray, List.set_cons_zero, List.set_cons_succ, i64_w, i32_w]
        rfl
       refine one_ (i := 8) (N := some 28) #[true, true, true, true, true, true, true, true, true, false, true, false, false, false, false, false, false, false] rfl rfl (one_of HT_.out (by kernel_rfl)) (by decide) (fun K hK => ?_)
       refine goes_ Try.func43 (by kernel_rfl) rfl #[.int .i64 x10_1, .int .i64 a3, .int .i64 a0] (by rfl) rfl rfl (by (try simp only [List.map_toArray, List.map_cons, List.map_nil]); first | done | rfl | (simp only [List.length_drop, List.length_take]; rfl)) ?_
       with_reducible refine (impl_argsAt.calls k1 x10_1 a3 a0 t588 _ A13.out).mono ?_
       rintro e w20 ⟨v589, rfl, ho0, hb⟩
       refine ⟨_, rfl, ?_⟩
       have n0_ := Aside0.mk (Kd.R_elder' (by (with_reducible repeat (first | apply Kd.R_alloc | apply Kd.R_drewN | apply Kd.R_drew)); exact HO_587001.out) (Kd.R_base ho0) hb)
       have n1_ := Aside0.mk (Kd.R_lower (Kd.R_new' ho0 (Kd.R_lt (by (with_reducible repeat (first | apply Kd.R_alloc | apply Kd.R_drewN | apply Kd.R_drew)); exact HO_587001.out))) (below_size (by repeat (first | (with_reducible first | exact HB.out | apply below_alloc | apply pw_below_drewN | apply below_drew1 | refine below_set ?_ GE584.out | refine below_set ?_ GE585.out | refine below_set ?_ GE586.out) | exact HB.out))))
       have n2_ := Aside0.mk (blk_below (g := gb584) (o := .cells #[.int .i64 a1_0, .slice (some ad595) l1_1.length c1_1] 41 (0, 0)) (by (with_reducible repeat (first | refine blk_drewN ?_ _ | refine blk_drew ?_ | refine blk_alloc ?_ _)); exact BK584.out) hb)
       have n3_ := Aside0.mk (blk_below (g := gb585) (o := .cells #[.int .i64 0, .slice none 0 0] 41 (0, 0)) (by (with_reducible repeat (first | refine blk_drewN ?_ _ | refine blk_drew ?_ | refine blk_alloc ?_ _)); exact BK585.out) hb)
       have n4_ := Aside0.mk (blk_below (g := gb586) (o := .cells #[.int .i64 a3, u587001] 41 (0, 0)) (by (with_reducible repeat (first | refine blk_drewN ?_ _ | refine blk_drew ?_ | refine blk_alloc ?_ _)); exact BK586.out) hb)
       have n5_ := Aside0.mk (below_step (by repeat (first | (with_reducible first | exact HB.out | apply below_alloc | apply pw_below_drewN | apply below_drew1 | refine below_set ?_ GE584.out | refine below_set ?_ GE585.out | refine below_set ?_ GE586.out) | exact HB.out)) hb)
       clear HO_587001
       clear BK584
       clear BK585
       clear BK586
       clear HB
       have HO_587001 := n0_
       have HO590 := n1_
       have BK584 := n2_
       have BK585 := n3_
       have BK586 := n4_
       have HB := n5_
       clear n0_ n1_ n2_ n3_ n4_ n5_
       (try clear hb)
       (try clear hb2)
       (try clear hk)
       (try clear hi)
       (try clear ho0)
       obtain ⟨Ao21, co21, eo21⟩ := Kd.R_slice HO590.out
       (first | subst eo21 | (injection eo21 with f1_ f2_ f3_; have f4_ := f1_.symm; have f5_ := f3_.symm; clear f1_ f2_ f3_; subst f4_; subst f5_))
       refine hK.out _ _ ⟨(blk_cell BK586.out 0).trans rfl, (blk_cell BK586.out 1).trans rfl, (blk_cell BK584.out 0).trans rfl, (blk_cell BK584.out 1).trans rfl, ((HB.out.cell (World.block_lt_of_cell? w _ hw595_0)).trans hw595_0)⟩ (fun hHeld => ?_)
       clear hK K
       refine norm_ (a' := ?_) ?_ ?_
       rotate_left
       ·show Act.put _ (some 28) _ = _
        simp only [Act.put, List.setIfInBounds_toArray, List.set_cons_zero, List.set_cons_succ, i64_w, i32_w]
        rfl
       refine one_ (i := 9) (N := some 29) #[true, true, true, true, true, true, true, true, true, true, true, false, false, false, false, false, false, false] rfl rfl (one_of HT_.out (by kernel_rfl)) (by decide) (fun K hK => ?_)
       refine goes_ Try.func62 (by kernel_rfl) rfl #[.slice A2 l2.length c2, .slice Ao21 t588.length co21] (by rfl) rfl rfl (by (try simp only [List.map_toArray, List.map_cons, List.map_nil]); first | done | rfl | (simp only [List.length_drop, List.length_take]; rfl)) ?_
       with_reducible refine (impl_compose.calls k1 _ _ l2 _ _ t588 t591 _ ?side1 ?side2 ?side3 ?side4 A14.out).mono ?_
       (case side1 => repeat (first | exact (Kd.C_below HR2.out HB.out) | (with_reducible refine Kd.C_alloc ?_ _) | (with_reducible refine Kd.C_drewN ?_ _) | (with_reducible refine Kd.C_drew ?_)))
       (case side2 => exact HC2.out)
       (case side3 => repeat (first | exact (Kd.R_reads' HO590.out).2.2 | (with_reducible refine Kd.C_alloc ?_ _) | (with_reducible refine Kd.C_drewN ?_ _) | (with_reducible refine Kd.C_drew ?_)))
       (case side4 => exact (Kd.R_reads' HO590.out).2.1)
       rintro e w22 ⟨v592, rfl, ho0, hb⟩
       refine ⟨_, rfl, ?_⟩
       have n0_ := Aside0.mk (Kd.R_elder' (by (with_reducible repeat (first | apply Kd.R_alloc | apply Kd.R_drewN | apply Kd.R_drew)); exact HO_587001.out) (Kd.R_base ho0) hb)
       have n1_ := Aside0.mk (Kd.R_elder' (by (with_reducible repeat (first | apply Kd.R_alloc | apply Kd.R_drewN | apply Kd.R_drew)); exact HO590.out) (Kd.R_base ho0) hb)
       have n2_ := Aside0.mk (Kd.R_lower (Kd.R_new' (Kd.R_new' ho0 (Kd.R_lt (by (with_reducible repeat (first | apply Kd.R_alloc | apply Kd.R_drewN | apply Kd.R_drew)); exact HO_587001.out))) (Kd.R_lt (by (with_reducible repeat (first | apply Kd.R_alloc | apply Kd.R_drewN | apply Kd.R_drew)); exact HO590.out))) (below_size (by repeat (first | (with_reducible first | exact HB.out | apply below_alloc | apply pw_below_drewN | apply below_drew1 | refine below_set ?_ GE584.out | refine below_set ?_ GE585.out | refine below_set ?_ GE586.out) | exact HB.out))))
       have n3_ := Aside0.mk (blk_below (g := gb584) (o := .cells #[.int .i64 a1_0, .slice (some ad595) l1_1.length c1_1] 41 (0, 0)) (by (with_reducible repeat (first | refine blk_drewN ?_ _ | refine blk_drew ?_ | refine blk_alloc ?_ _)); exact BK584.out) hb)
       have n4_ := Aside0.mk (blk_below (g := gb585) (o := .cells #[.int .i64 0, .slice none 0 0] 41 (0, 0)) (by (with_reducible repeat (first | refine blk_drewN ?_ _ | refine blk_drew ?_ | refine blk_alloc ?_ _)); exact BK585.out) hb)
       have n5_ := Aside0.mk (blk_below (g := gb586) (o := .cells #[.int .i64 a3, u587001] 41 (0, 0)) (by (with_reducible repeat (first | refine blk_drewN ?_ _ | refine blk_drew ?_ | refine blk_alloc ?_ _)); exact BK586.out) hb)
       have n6_ := Aside0.mk (below_step (by repeat (first | (with_reducible first | exact HB.out | apply below_alloc | apply pw_below_drewN | apply below_drew1 | refine below_set ?_ GE584.out | refine below_set ?_ GE585.out | refine below_set ?_ GE586.out) | exact HB.out)) hb)
       clear HO_587001
       clear HO590
       clear BK584
       clear BK585
       clear BK586
       clear HB
       have HO_587001 := n0_
       have HO590 := n1_
       have HO593 := n2_
       have BK584 := n3_
       have BK585 := n4_
       have BK586 := n5_
       have HB := n6_
       clear n0_ n1_ n2_ n3_ n4_ n5_ n6_
       (try clear hb)
       (try clear hb2)
       (try clear hk)
       (try clear hi)
       (try clear ho0)
       obtain ⟨Ao23, co23, eo23⟩ := Kd.R_slice HO593.out
       (first | subst eo23 | (injection eo23 with f1_ f2_ f3_; have f4_ := f1_.symm; have f5_ := f3_.symm; clear f1_ f2_ f3_; subst f4_; subst f5_))
       refine hK.out _ _ ⟨(blk_cell BK586.out 0).trans rfl, (blk_cell BK586.out 1).trans rfl, (blk_cell BK584.out 0).trans rfl, (blk_cell BK584.out 1).trans rfl, ((HB.out.cell (World.block_lt_of_cell? w _ hw595_0)).trans hw595_0)⟩ (fun hHeld => ?_)
       clear hK K
       refine norm_ (a' := ?_) ?_ ?_
       rotate_left
       ·show Act.put _ (some 29) _ = _
        simp only [Act.put, List.setIfInBounds_toArray, List.set_cons_zero, List.set_cons_succ, i64_w, i32_w]
        rfl
       refine one_ (i := 11) (N := some 31) #[true, true, true, true, true, true, true, true, true, true, true, true, false, false, false, false, false, false] rfl rfl (one_of HT_.out (by kernel_rfl)) (by decide) (fun K hK => ?_)
       refine goes_ Try.func44 (by kernel_rfl) rfl #[.slice Ao23 t591.length co23, .int .i64 a0] (by rfl) rfl rfl (by (try simp only [List.map_toArray, List.map_cons, List.map_nil]); first | done | rfl | (simp only [List.length_drop, List.length_take]; rfl)) ?_
       with_reducible refine (impl_indexOf.calls k1 _ _ t591 a0 t594 _ ?side1 ?side2 A15.out).mono ?_
       (case side1 => repeat (first | exact (Kd.R_reads' HO593.out).2.2 | (with_reducible refine Kd.C_alloc ?_ _) | (with_reducible refine Kd.C_drewN ?_ _) | (with_reducible refine Kd.C_drew ?_)))
       (case side2 => exact (Kd.R_reads' HO593.out).2.1)
       rintro e w' ⟨rfl, ⟨nd, rfl⟩⟩
       refine ⟨_, rfl, ?_⟩
       refine hK.out _ _ ⟨(blk_cell BK586.out 0).trans rfl, (blk_cell BK586.out 1).trans rfl, (blk_cell BK584.out 0).trans rfl, (blk_cell BK584.out 1).trans rfl, ((HB.out.cell (World.block_lt_of_cell? w _ hw595_0)).trans hw595_0)⟩ (fun hHeld => ?_)
       clear hK K
       refine norm_ (a' := ?_) ?_ ?_
       rotate_left
       ·show Act.put _ (some 31) _ = _
        simp only [Act.put, List.setIfInBounds_toArray, List.set_cons_zero, List.set_cons_succ, i64_w, i32_w]
        rfl
       refine pure_ (i := 12) (N := some 32) (v := ?_) (a' := ?_) #[true, true, true, true, true, true, true, true, true, true, true, true, true, false, false, false, false, false] rfl rfl (any_of HT_.out (by kernel_rfl)) (fun _ _ _ h => h) (Or.inl ⟨by rfl, ?_⟩) ?_ ?_
       rotate_left
       ·intro w'
        go_simp
        with_reducible rfl
       rotate_left
       ·simp only [Act.put, List.setIfInBounds_toArray, List.set_cons_zero, List.set_cons_succ, i64_w, i32_w]
        rfl
       refine take_ (i := 13) (N := some 33) (v := ?_) (a' := ?_) #[true, true, true, true, true, true, true, true, true, true, true, true, true, true, false, false, false, false] rfl rfl (take_ofW HT_.out HW_.out (by kernel_rfl)) (fun _ _ _ h => h) (Or.inl ⟨by rfl, ?_⟩) hHeld ?_ ?_
       rotate_left
       ·rintro w' ⟨s0, s1, s2, s3, s4⟩
        go_simp
        with_reducible rfl
       rotate_left
       ·simp only [Act.put, List.setIfInBounds_toArray, List.set_cons_zero, List.set_cons_succ, i64_w, i32_w]
        rfl
       refine one_ (i := 14) (N := some 34) #[true, true, true, true, true, true, true, true, true, true, true, true, true, true, true, false, false, false] rfl rfl (one_of HT_.out (by kernel_rfl)) (by decide) (fun K hK => ?_)
       refine value_ (w1 := ?_) (v := ?_) (by rfl) rfl ?_ ?_
       rotate_left 2
       ·go_simp
        constructor
        ·rfl
        ·rfl
       refine hK.out _ _ ⟨(blk_cell (blk_alloc BK586.out _) 0).trans rfl, (blk_cell (blk_alloc BK586.out _) 1).trans rfl, (blk_cell (blk_alloc BK584.out _) 0).trans rfl, (blk_cell (blk_alloc BK584.out _) 1).trans rfl, (World.cell?_alloc_lt _ _ _ (World.block_lt_of_cell? _ _ (((HB.out.cell (World.block_lt_of_cell? w _ hw595_0)).trans hw595_0)))).trans (((HB.out.cell (World.block_lt_of_cell? w _ hw595_0)).trans hw595_0))⟩ (fun hHeld => ?_)
       clear hK K
       refine norm_ (a' := ?_) ?_ ?_
       rotate_left
       ·show Act.put _ (some 34) _ = _
        simp only [Act.put, List.setIfInBounds_toArray, List.set_cons_zero, List.set_cons_succ, i64_w, i32_w]
        rfl
       refine one_ (i := 15) (N := some 35) #[true, true, true, true, true, true, true, true, true, true, true, true, true, true, true, true, false, false] rfl rfl (one_of HT_.out (by kernel_rfl)) (by decide) (fun K hK => ?_)
       refine Kd.R_append_step (Kd.int .i64) (w0 := w) w.heap.size (by rfl) (.tmp 21) (.tmp 34) 35 3 (.int .i64 0) 8 rfl Try.underlying35 info3 rfl (by decide) (by omega) u587001 x587001_1 (rd l1_1 t594) [.int .i64 (rd l1_1 t594)] (fun k_ => some k_ ≠ (.slice Ao21 t588.length co21 : Value).ownBlock ∧ some k_ ≠ (.slice Ao23 t591.length co23 : Value).ownBlock) (fun _ => False) rfl rfl ?aP (fun _ hk => hk.elim) ?aF ?aO ?aB ?aS ?aL ?_
       (case aP => exact rfl)
       (case aB => exact (by repeat (first | (with_reducible first | exact HB.out | apply below_alloc | apply pw_below_drewN | apply below_drew1 | refine below_set ?_ GE584.out | refine below_set ?_ GE585.out | refine below_set ?_ GE586.out) | exact HB.out)))
       (case aF => exact (fun k_ hk => ⟨Kd.fresh' (Kd.R_lt (by (with_reducible repeat (first | apply Kd.R_alloc | apply Kd.R_drewN | apply Kd.R_drew)); exact HO590.out)) k_ hk, Kd.fresh' (Kd.R_lt (by (with_reducible repeat (first | apply Kd.R_alloc | apply Kd.R_drewN | apply Kd.R_drew)); exact HO593.out)) k_ hk⟩))
       (case aO => exact (by (with_reducible repeat (first | apply Kd.R_alloc | apply Kd.R_drewN | apply Kd.R_drew)); exact Kd.R_mono HO_587001.out (fun _ hk => ⟨hk.1.2, hk.2⟩)))
       (case aS => exact (below_size (by repeat (first | (with_reducible first | exact HB.out | apply below_alloc | apply pw_below_drewN | apply below_drew1 | refine below_set ?_ GE584.out | refine below_set ?_ GE585.out | refine below_set ?_ GE586.out) | exact HB.out))))
       (case aL => have := LMc18.out; omega)
       intro v597 w24 ho hb hg hat
       rw [← Ny596.out] at ho
       have n0_ := Aside0.mk (blk_grown (g := gb584) (o := .cells #[.int .i64 a1_0, .slice (some ad595) l1_1.length c1_1] 41 (0, 0)) (by (with_reducible repeat (first | refine blk_drewN ?_ _ | refine blk_drew ?_ | refine blk_alloc ?_ _)); exact BK584.out) hg (Kd.R_ne HO_587001.out BK584.out (by decide)))
       have n1_ := Aside0.mk (blk_grown (g := gb585) (o := .cells #[.int .i64 0, .slice none 0 0] 41 (0, 0)) (by (with_reducible repeat (first | refine blk_drewN ?_ _ | refine blk_drew ?_ | refine blk_alloc ?_ _)); exact BK585.out) hg (Kd.R_ne HO_587001.out BK585.out (by decide)))
       have n2_ := Aside0.mk (blk_grown (g := gb586) (o := .cells #[.int .i64 a3, u587001] 41 (0, 0)) (by (with_reducible repeat (first | refine blk_drewN ?_ _ | refine blk_drew ?_ | refine blk_alloc ?_ _)); exact BK586.out) hg (Kd.R_ne HO_587001.out BK586.out (by decide)))
       have n3_ := Aside0.mk (Kd.R_after (ok := (fun k_ => some k_ ≠ (.slice Ao23 t591.length co23 : Value).ownBlock)) (by (with_reducible repeat (first | apply Kd.R_alloc | apply Kd.R_drewN | apply Kd.R_drew)); exact Kd.R_mono HO590.out (fun _ hk => ⟨hk.2, hk.1.2⟩)) hg hat)
       have n4_ := Aside0.mk (Kd.R_after (ok := (fun k_ => some k_ ≠ (.slice Ao21 t588.length co21 : Value).ownBlock)) (by (with_reducible repeat (first | apply Kd.R_alloc | apply Kd.R_drewN | apply Kd.R_drew)); exact Kd.R_mono HO593.out (fun _ hk => ⟨hk.2, hk.1.2⟩)) hg hat)
       have n5_ := Aside0.mk (hb)
       have n6_ := Aside0.mk (ho)
       clear BK584
       clear BK585
       clear BK586
       clear HO590
       clear HO593
       clear HB
       clear HO_587001
       have BK584 := n0_
       have BK585 := n1_
       have BK586 := n2_
       have HO590 := n3_
       have HO593 := n4_
       have HB := n5_
       have HO598 := n6_
       clear n0_ n1_ n2_ n3_ n4_ n5_ n6_
       clear ho hb hg hat
       obtain ⟨Ao25, co25, eo25⟩ := Kd.R_slice HO598.out
       (first | subst eo25 | (injection eo25 with f1_ f2_ f3_; have f4_ := f1_.symm; have f5_ := f3_.symm; clear f1_ f2_ f3_; subst f4_; subst f5_))
       refine hK.out _ _ ⟨(blk_cell BK586.out 0).trans rfl, (blk_cell BK586.out 1).trans rfl, (blk_cell BK584.out 0).trans rfl, (blk_cell BK584.out 1).trans rfl, ((HB.out.cell (World.block_lt_of_cell? w _ hw595_0)).trans hw595_0)⟩ (fun hHeld => ?_)
       clear hK K
       refine norm_ (a' := ?_) ?_ ?_
       rotate_left
       ·show Act.put _ (some 35) _ = _
        simp only [Act.put, List.setIfInBounds_toArray, List.set_cons_zero, List.set_cons_succ, i64_w, i32_w]
        rfl
       refine pure_ (i := 16) (N := some 36) (v := ?_) (a' := ?_) #[true, true, true, true, true, true, true, true, true, true, true, true, true, true, true, true, true, false] rfl rfl (any_of HT_.out (by kernel_rfl)) (fun _ _ _ h => h) (Or.inl ⟨by rfl, ?_⟩) ?_ ?_
       rotate_left
       ·intro w'
        go_simp
        with_reducible rfl
       rotate_left
       ·simp only [Act.put, List.setIfInBounds_toArray, List.set_cons_zero, List.set_cons_succ, i64_w, i32_w]
        rfl
       refine last_ (i := 17) (N := none) #[true, true, true, true, true, true, true, true, true, true, true, true, true, true, true, true, true, true] rfl rfl (one_of HT_.out (by kernel_rfl)) (by decide) (fun K hK => ?_)
       have hs26 : w24.cell? ⟨gb586, 1, none⟩ = some (u587001) := (blk_cell BK586.out 1).trans rfl
       have hfs26 := blk_frozen BK586.out 1
       have hns26_0 := NB584_586.out
       have hns26_1 := NB585_586.out
       have hms26_0 := NB586_584.out
       have hms26_1 := NB586_585.out
       refine skip_ (w1 := ?_) (by rfl) rfl ?_ ?_
       rotate_left
       ·go_simp
        rfl
       refine hK.out _ _ ?_
       clear hK K
       refine done_ (done_of HT_.out (by kernel_rfl)) ?_
       try go_wp2
       go_roundg k1
       case measure => have := HK1.out; omega
       case rel => exact ⟨(wrap64 (x10_1 + 1)), (y596), (.slice Ao25 y596.length co25), (by first | rfl | (simp; done) | (simp [*]; done)), H', ⟨by have := HK1.out; omega⟩, ⟨by (with_reducible repeat (first | apply Kd.R_alloc | apply Kd.R_drewN | apply Kd.R_drew)); exact Kd.R_mono (Kd.R_far (p := ⟨gb586, 1, none⟩) (Kd.R_types HO598.out BK586.out (by decide)) (fun _ hk => hk.2) (.slice Ao25 y596.length co25)) (fun _ hk => trivial)⟩, ⟨by (with_reducible repeat (first | refine blk_drewN ?_ _ | refine blk_drew ?_ | refine blk_alloc ?_ _)); refine blk_far ?_ NB584_586.out _; (with_reducible repeat (first | refine blk_drewN ?_ _ | refine blk_drew ?_ | refine blk_alloc ?_ _)); exact BK584.out⟩, ⟨by (with_reducible repeat (first | refine blk_drewN ?_ _ | refine blk_drew ?_ | refine blk_alloc ?_ _)); refine blk_far ?_ NB585_586.out _; (with_reducible repeat (first | refine blk_drewN ?_ _ | refine blk_drew ?_ | refine blk_alloc ?_ _)); exact BK585.out⟩, ⟨by (with_reducible repeat (first | refine blk_drewN ?_ _ | refine blk_drew ?_ | refine blk_alloc ?_ _)); refine blk_put (cs := #[.int .i64 a3, u587001]) ?_ 1 _ rfl; (with_reducible repeat (first | refine blk_drewN ?_ _ | refine blk_drew ?_ | refine blk_alloc ?_ _)); exact BK586.out⟩, ⟨by repeat (first | (with_reducible first | exact HB.out | apply below_alloc | apply pw_below_drewN | apply below_drew1 | refine below_set ?_ GE584.out | refine below_set ?_ GE585.out | refine below_set ?_ GE586.out) | exact HB.out)⟩⟩
      ·rw [if_neg c18] at H
       exact absurd H (by simp)
     ·rw [if_neg c17] at H
      exact absurd H (by simp)
    ·rw [if_neg c16] at H
     exact absurd H (by simp)
   ·rw [if_neg c12] at H
    have c12b0 : decide (x10_1 < t587) = false := decide_eq_false c12
    clear c12
    simp only [Option.some.injEq, Prod.mk.injEq] at H
    obtain ⟨rfl, rfl⟩ := H
    go_wp2_with (first | ((with_reducible refine gate_callee (f := 42) rfl ?_); refine goesL_ (some 16) rfl rfl Try.func42 (by kernel_rfl) rfl #[.int .i64 a0, .int .i64 a3] rfl (by (try simp only [List.map_toArray, List.map_cons, List.map_nil]); first | done | rfl | (simp only [List.length_drop, List.length_take]; rfl)) ?_; (with_reducible refine (impl_power.calls k1 a0 a3 t587 _ A11.out).mono ?_); rintro e w' ⟨rfl, ⟨nd, rfl⟩⟩; refine ⟨_, rfl, ?_⟩; (try (rw [drewN_self wr]; generalize hq_ : World.drewN wr _ = wr; have n0_ : Aside0 (Kd.R (Kd.int .i64) 3 wr w.heap.size (fun _ => True) u587001 x587001_1) := ⟨by rw [← hq_]; exact (by (with_reducible repeat (first | apply Kd.R_alloc | apply Kd.R_drewN | apply Kd.R_drew)); exact HO_587001.out)⟩; have n1_ : Aside0 (wr.heap[gb584]? = some (.cells #[.int .i64 a1_0, .slice A1_1 l1_1.length c1_1] 41 (0, 0))) := ⟨by rw [← hq_]; exact (by (with_reducible repeat (first | refine blk_drewN ?_ _ | refine blk_drew ?_ | refine blk_alloc ?_ _)); exact BK584.out)⟩; have n2_ : Aside0 (wr.heap[gb585]? = some (.cells #[.int .i64 0, .slice none 0 0] 41 (0, 0))) := ⟨by rw [← hq_]; exact (by (with_reducible repeat (first | refine blk_drewN ?_ _ | refine blk_drew ?_ | refine blk_alloc ?_ _)); exact BK585.out)⟩; have n3_ : Aside0 (wr.heap[gb586]? = some (.cells #[.int .i64 a3, u587001] 41 (0, 0))) := ⟨by rw [← hq_]; exact (by (with_reducible repeat (first | refine blk_drewN ?_ _ | refine blk_drew ?_ | refine blk_alloc ?_ _)); exact BK586.out)⟩; have n4_ : Aside0 (Below w.heap.size w wr) := ⟨by rw [← hq_]; exact (by repeat (first | (with_reducible first | exact HB.out | apply below_alloc | apply pw_below_drewN | apply below_drew1 | refine below_set ?_ GE584.out | refine below_set ?_ GE585.out | refine below_set ?_ GE586.out) | exact HB.out))⟩; clear HO_587001 BK584 BK585 BK586 HB hq_; have HO_587001 := n0_; have BK584 := n1_; have BK585 := n2_; have BK586 := n3_; have HB := n4_; clear n0_ n1_ n2_ n3_ n4_; have hczq_gb584_0 : wr.cell? ⟨gb584, 0, none⟩ = some (.int .i64 a1_0) := (blk_cell BK584.out 0).trans rfl; have hfzq_gb584_0 := blk_frozen BK584.out 0; have hczq_gb584_1 : wr.cell? ⟨gb584, 1, none⟩ = some (.slice A1_1 l1_1.length c1_1) := (blk_cell BK584.out 1).trans rfl; have hfzq_gb584_1 := blk_frozen BK584.out 1; have hczq_gb585_0 : wr.cell? ⟨gb585, 0, none⟩ = some (.int .i64 0) := (blk_cell BK585.out 0).trans rfl; have hfzq_gb585_0 := blk_frozen BK585.out 0; have hczq_gb585_1 : wr.cell? ⟨gb585, 1, none⟩ = some (.slice none 0 0) := (blk_cell BK585.out 1).trans rfl; have hfzq_gb585_1 := blk_frozen BK585.out 1; have hczq_gb586_0 : wr.cell? ⟨gb586, 0, none⟩ = some (.int .i64 a3) := (blk_cell BK586.out 0).trans rfl; have hfzq_gb586_0 := blk_frozen BK586.out 0; have hczq_gb586_1 : wr.cell? ⟨gb586, 1, none⟩ = some (u587001) := (blk_cell BK586.out 1).trans rfl; have hfzq_gb586_1 := blk_frozen BK586.out 1)); have hnb27 := NB586_584.out; have hnc27 := NB584_586.out; have hnb28 := NB586_585.out; have hnc28 := NB585_586.out; have hcz29_0 : wr.cell? ⟨gb586, 0, none⟩ = some (.int .i64 a3) := (blk_cell BK586.out 0).trans rfl; have hcz29_1 : wr.cell? ⟨gb586, 1, none⟩ = some (u587001) := (blk_cell BK586.out 1).trans rfl; have hfz29_0 := blk_frozen BK586.out 0; have hfz29_1 := blk_frozen BK586.out 1; have hnb30 := NB585_584.out; have hnc30 := NB584_585.out; have hcz31_0 : wr.cell? ⟨gb585, 0, none⟩ = some (.int .i64 0) := (blk_cell BK585.out 0).trans rfl; have hcz31_1 : wr.cell? ⟨gb585, 1, none⟩ = some (.slice none 0 0) := (blk_cell BK585.out 1).trans rfl; have hfz31_0 := blk_frozen BK585.out 0; have hfz31_1 := blk_frozen BK585.out 1; obtain ⟨Ao32, co32, eo32⟩ := Kd.R_slice HO_587001.out; subst eo32))
    refine bodyPost_ret (results_cell_row rfl _ _ gb585 41 #[.int .i64 a3, .slice Ao32 x587001_1.length co32] (0, 0) _ rfl (by (with_reducible repeat (first | refine blk_drewN ?_ _ | refine blk_drew ?_ | refine blk_alloc ?_ _)); refine blk_put (cs := #[.int .i64 a3, .slice none 0 0]) ?_ 1 _ rfl; (with_reducible repeat (first | refine blk_drewN ?_ _ | refine blk_drew ?_ | refine blk_alloc ?_ _)); refine blk_put (cs := #[.int .i64 0, .slice none 0 0]) ?_ 0 _ rfl; (with_reducible repeat (first | refine blk_drewN ?_ _ | refine blk_drew ?_ | refine blk_alloc ?_ _)); exact BK585.out) Try.underlying41 rfl (by kernel_rfl)) rfl ?_
    exact ⟨_, by first | rfl | (simp [errW_none, errW_some] <;> rfl) | (simp [*, errW_none, errW_some] <;> rfl), by (with_reducible repeat (first | apply Kd.R_alloc | apply Kd.R_drewN | apply Kd.R_drew)); exact Kd.R_mono (Kd.R_far (p := ⟨gb585, 1, none⟩) (Kd.R_far (p := ⟨gb585, 0, none⟩) (Kd.R_types HO_587001.out BK585.out (by decide)) (fun _ hk => hk.2) (.int .i64 a3)) (fun _ hk => hk.2) (.slice Ao32 x587001_1.length co32)) (fun _ hk => trivial), by repeat (first | (with_reducible first | exact HB.out | apply below_alloc | apply pw_below_drewN | apply below_drew1 | refine below_set ?_ GE584.out | refine below_set ?_ GE585.out | refine below_set ?_ GE586.out) | exact HB.out)⟩
def impl_MinorOf.f (k : Nat) (a0 : Int) (a1_0 : Int) (l1_1 : List Int) (l2 : List Int) (a3 : Int) : Option (Int × List Int × Bool) := (impl_isSize.f a0).bind fun t601 => (if t601 = true then ((impl_isOp.f k a1_0 l1_1 a0).bind fun t602 => (if t602 = true then (if a3 < 1 then (some (0, ([] : List Int), false)) else (if a3 > 3 then (some (0, ([] : List Int), false)) else (if (l2.length : Int) = a1_0 then ((impl_inSize.f k l2 a3).bind fun t603 => (if t603 = true then ((impl_minor.f k a0 a1_0 l1_1 l2 a3).bind fun bt604 => (some (bt604.1, bt604.2, true))) else (some (0, ([] : List Int), false)))) else (some (0, ([] : List Int), false))))) else (some (0, ([] : List Int), false)))) else (some (0, ([] : List Int), false)))
theorem impl_MinorOf.mono : ∀ a0 a1 a2 a3 a4 k, LeO (impl_MinorOf.f k a0 a1 a2 a3 a4) (impl_MinorOf.f (k + 1) a0 a1 a2 a3 a4) := by
 intro a0 a1 a2 a3 a4 k
 unfold impl_MinorOf.f
 repeat' first
   | (with_reducible exact impl_inSize.mono _ _ _)
   | (with_reducible exact impl_isOp.mono _ _ _ _)
   | (with_reducible exact impl_minor.mono _ _ _ _ _ _)
   | (with_reducible exact LeO.refl _)
   | (with_reducible exact LeO.none _)
   | (with_reducible refine LeO.ite ?_ ?_)
   | (with_reducible refine LeO.bind ?_ (fun _ => ?_))
   | exact impl_inSize.mono _ _ _
   | exact impl_isOp.mono _ _ _ _
   | exact impl_minor.mono _ _ _ _ _ _
   | exact LeO.none _
   | refine LeO.ite ?_ ?_
   | refine LeO.bind ?_ (fun _ => ?_)
set_option maxHeartbeats 8000000 in
set_option maxRecDepth 100000 in
theorem impl_MinorOf.calls (k : Nat) (a0 : Int) (a1_0 : Int) (A1_1 : Option Addr) (c1_1 : Nat) (l1_1 : List Int) (A2 : Option Addr) (c2 : Nat) (l2 : List Int) (a3 : Int) (r1 : Int) (r2 : List Int) (r3 : Bool) (w : World) (hr1_1 : Kd.C (Kd.int .i64) w A1_1 l1_1.length l1_1) (hc1_1 : l1_1.length ≤ c1_1) (hr2 : Kd.C (Kd.int .i64) w A2 l2.length l2) (hc2 : l2.length ≤ c2) (h : impl_MinorOf.f k a0 a1_0 l1_1 l2 a3 = some (r1, r2, r3)) :
  Calls Try.prog 29 #[.int .i64 a0, .agg #[.int .i64 a1_0, .slice A1_1 l1_1.length c1_1], .slice A2 l2.length c2, .int .i64 a3] w fun e w' => ∃ v1_ : Value, e = .returned (.tuple #[.agg #[.int .i64 r1, v1_], .bool r3]) ∧ Kd.R (Kd.int .i64) 3 w' w.heap.size (fun _ => True) v1_ r2 ∧ Below w.heap.size w w' := by
 have hu41 := Try.underlying41
 have HR1_1 := Aside0.mk hr1_1
 have HC1_1 := Aside0.mk hc1_1
 clear hr1_1 hc1_1
 have HR2 := Aside0.mk hr2
 have HC2 := Aside0.mk hc2
 clear hr2 hc2
 have HB := Aside0.mk (Below.refl w.heap.size w)
 have H : ((impl_isSize.f a0).bind fun t601 => (if t601 = true then ((impl_isOp.f k a1_0 l1_1 a0).bind fun t602 => (if t602 = true then (if a3 < 1 then (some (0, ([] : List Int), false)) else (if a3 > 3 then (some (0, ([] : List Int), false)) else (if (l2.length : Int) = a1_0 then ((impl_inSize.f k l2 a3).bind fun t603 => (if t603 = true then ((impl_minor.f k a0 a1_0 l1_1 l2 a3).bind fun bt604 => (some (bt604.1, bt604.2, true))) else (some (0, ([] : List Int), false)))) else (some (0, ([] : List Int), false))))) else (some (0, ([] : List Int), false)))) else (some (0, ([] : List Int), false)))) = some (r1, r2, r3) := h
 clear h
 replace H := Option.bind_eq_some_iff.mp H
 obtain ⟨t601, A50, H⟩ := H
 replace H : (if t601 = true then ((impl_isOp.f k a1_0 l1_1 a0).bind fun t602 => (if t602 = true then (if a3 < 1 then (some (0, ([] : List Int), false)) else (if a3 > 3 then (some (0, ([] : List Int), false)) else (if (l2.length : Int) = a1_0 then ((impl_inSize.f k l2 a3).bind fun t603 => (if t603 = true then ((impl_minor.f k a0 a1_0 l1_1 l2 a3).bind fun bt604 => (some (bt604.1, bt604.2, true))) else (some (0, ([] : List Int), false)))) else (some (0, ([] : List Int), false))))) else (some (0, ([] : List Int), false)))) else (some (0, ([] : List Int), false))) = some (r1, r2, r3) := H
 have A5 := Aside0.mk A50
 clear A50
 by_cases c6 : t601 = true
 ·subst c6
  have H1 : ((impl_isOp.f k a1_0 l1_1 a0).bind fun t602 => (if t602 = true then (if a3 < 1 then (some (0, ([] : List Int), false)) else (if a3 > 3 then (some (0, ([] : List Int), false)) else (if (l2.length : Int) = a1_0 then ((impl_inSize.f k l2 a3).bind fun t603 => (if t603 = true then ((impl_minor.f k a0 a1_0 l1_1 l2 a3).bind fun bt604 => (some (bt604.1, bt604.2, true))) else (some (0, ([] : List Int), false)))) else (some (0, ([] : List Int), false))))) else (some (0, ([] : List Int), false)))) = some (r1, r2, r3) := by rw [if_pos rfl] at H; exact H
  clear H
  have H := H1
  clear H1
  replace H := Option.bind_eq_some_iff.mp H
  obtain ⟨t602, A70, H⟩ := H
  replace H : (if t602 = true then (if a3 < 1 then (some (0, ([] : List Int), false)) else (if a3 > 3 then (some (0, ([] : List Int), false)) else (if (l2.length : Int) = a1_0 then ((impl_inSize.f k l2 a3).bind fun t603 => (if t603 = true then ((impl_minor.f k a0 a1_0 l1_1 l2 a3).bind fun bt604 => (some (bt604.1, bt604.2, true))) else (some (0, ([] : List Int), false)))) else (some (0, ([] : List Int), false))))) else (some (0, ([] : List Int), false))) = some (r1, r2, r3) := H
  have A7 := Aside0.mk A70
  clear A70
  by_cases c8 : t602 = true
  ·subst c8
   have H1 : (if a3 < 1 then (some (0, ([] : List Int), false)) else (if a3 > 3 then (some (0, ([] : List Int), false)) else (if (l2.length : Int) = a1_0 then ((impl_inSize.f k l2 a3).bind fun t603 => (if t603 = true then ((impl_minor.f k a0 a1_0 l1_1 l2 a3).bind fun bt604 => (some (bt604.1, bt604.2, true))) else (some (0, ([] : List Int), false)))) else (some (0, ([] : List Int), false))))) = some (r1, r2, r3) := by rw [if_pos rfl] at H; exact H
   clear H
   have H := H1
   clear H1
   by_cases c9 : a3 < 1
   ·rw [if_pos c9] at H
    have c9b0 : decide (a3 < 1) = true := decide_eq_true c9
    clear c9
    simp only [Option.some.injEq, Prod.mk.injEq] at H
    obtain ⟨rfl, rfl, rfl⟩ := H
    go_enter Try.func29, Try.ntmps29
    go_wp2_with (first | ((with_reducible refine gate_dst (N := 5) rfl ?_); (try (refine gate_guard (by rfl) ?_; dsimp only)); refine box_event ?hg (N := 5) ?hd (cs := #[.int .i64 a1_0, .slice A1_1 l1_1.length c1_1]) (t := 41) ?hr ?_; (case hd => rfl); (case hg => rfl); (case hr => first | (go_simp; done) | (go_simp; rfl)); intro gb599 hg w10 hbox hb; have n0_ := Aside0.mk (below_step (by repeat (first | (with_reducible first | exact HB.out | apply below_alloc | apply pw_below_drewN | apply below_drew1) | exact HB.out)) hb); have n1_ := Aside0.mk (hbox); have n2_ := Aside0.mk ((by rw [hg]; exact (below_size (by repeat (first | (with_reducible first | exact HB.out | apply below_alloc | apply pw_below_drewN | apply below_drew1) | exact HB.out))) : w.heap.size ≤ gb599)); have n3_ := Aside0.mk ((by rw [hg]; exact (below_size (by repeat (first | (with_reducible first | exact HB.out | apply below_alloc | apply pw_below_drewN | apply below_drew1) | exact HB.out))) : w.heap.size ≤ gb599)); clear HB; have HB := n0_; have BK599 := n1_; have GW599 := n2_; have GE599 := n3_; clear n0_ n1_ n2_ n3_; clear hb hbox hg) | ((with_reducible refine gate_dst (N := 8) rfl ?_); (try (refine gate_guard (by rfl) ?_; dsimp only)); refine box_event ?hg (N := 8) ?hd (cs := #[.int .i64 0, .slice none 0 0]) (t := 41) ?hr ?_; (case hd => rfl); (case hg => rfl); (case hr => first | (go_simp; done) | (go_simp; rfl)); intro gb600 hg w11 hbox hb; have n0_ := Aside0.mk (blk_below (g := gb599) (o := .cells #[.int .i64 a1_0, .slice A1_1 l1_1.length c1_1] 41 (0, 0)) (by (with_reducible repeat (first | refine blk_drewN ?_ _ | refine blk_drew ?_ | refine blk_alloc ?_ _)); exact BK599.out) hb); have n1_ := Aside0.mk (below_step (by repeat (first | (with_reducible first | exact HB.out | apply below_alloc | apply pw_below_drewN | apply below_drew1 | refine below_set ?_ GE599.out) | exact HB.out)) hb); have n2_ := Aside0.mk (hbox); have n3_ := Aside0.mk ((by rw [hg]; exact (below_size (by repeat (first | (with_reducible first | exact HB.out | apply below_alloc | apply pw_below_drewN | apply below_drew1 | refine below_set ?_ GE599.out) | exact HB.out))) : w.heap.size ≤ gb600)); have n4_ := Aside0.mk ((by rw [hg]; exact (below_size (by repeat (first | (with_reducible first | exact HB.out | apply below_alloc | apply pw_below_drewN | apply below_drew1 | refine below_set ?_ GE599.out) | exact HB.out))) : w.heap.size ≤ gb600)); have n5_ := Aside0.mk ((by rw [hg]; exact Nat.ne_of_lt (blk_lt (g := gb599) (o := .cells #[.int .i64 a1_0, .slice A1_1 l1_1.length c1_1] 41 (0, 0)) (by (with_reducible repeat (first | refine blk_drewN ?_ _ | refine blk_drew ?_ | refine blk_alloc ?_ _)); exact BK599.out)) : gb599 ≠ gb600)); have n6_ := Aside0.mk ((by rw [hg]; exact Nat.ne_of_gt (blk_lt (g := gb599) (o := .cells #[.int .i64 a1_0, .slice A1_1 l1_1.length c1_1] 41 (0, 0)) (by (with_reducible repeat (first | refine blk_drewN ?_ _ | refine blk_drew ?_ | refine blk_alloc ?_ _)); exact BK599.out)) : gb600 ≠ gb599)); clear BK599; clear HB; have BK599 := n0_; have HB := n1_; have BK600 := n2_; have GW600 := n3_; have GE600 := n4_; have NB599_600 := n5_; have NB600_599 := n6_; clear n0_ n1_ n2_ n3_ n4_ n5_ n6_; clear hb hbox hg) | ((with_reducible refine gate_callee (f := 47) rfl ?_); refine goesL_ (some 11) rfl rfl Try.func47 (by kernel_rfl) rfl #[.int .i64 a0] rfl (by (try simp only [List.map_toArray, List.map_cons, List.map_nil]); first | done | rfl | (simp only [List.length_drop, List.length_take]; rfl)) ?_; (with_reducible refine (impl_isSize.calls a0 true _ A5.out).mono ?_); rintro e w' ⟨rfl, ⟨nd, rfl⟩⟩; refine ⟨_, rfl, ?_⟩; (try (rw [drewN_self w11]; generalize hq_ : World.drewN w11 _ = w11; have n0_ : Aside0 (w11.heap[gb599]? = some (.cells #[.int .i64 a1_0, .slice A1_1 l1_1.length c1_1] 41 (0, 0))) := ⟨by rw [← hq_]; exact (by (with_reducible repeat (first | refine blk_drewN ?_ _ | refine blk_drew ?_ | refine blk_alloc ?_ _)); exact BK599.out)⟩; have n1_ : Aside0 (w11.heap[gb600]? = some (.cells #[.int .i64 0, .slice none 0 0] 41 (0, 0))) := ⟨by rw [← hq_]; exact (by (with_reducible repeat (first | refine blk_drewN ?_ _ | refine blk_drew ?_ | refine blk_alloc ?_ _)); exact BK600.out)⟩; have n2_ : Aside0 (Below w.heap.size w w11) := ⟨by rw [← hq_]; exact (by repeat (first | (with_reducible first | exact HB.out | apply below_alloc | apply pw_below_drewN | apply below_drew1 | refine below_set ?_ GE599.out | refine below_set ?_ GE600.out) | exact HB.out))⟩; clear BK599 BK600 HB hq_; have BK599 := n0_; have BK600 := n1_; have HB := n2_; clear n0_ n1_ n2_; have hczq_gb599_0 : w11.cell? ⟨gb599, 0, none⟩ = some (.int .i64 a1_0) := (blk_cell BK599.out 0).trans rfl; have hfzq_gb599_0 := blk_frozen BK599.out 0; have hczq_gb599_1 : w11.cell? ⟨gb599, 1, none⟩ = some (.slice A1_1 l1_1.length c1_1) := (blk_cell BK599.out 1).trans rfl; have hfzq_gb599_1 := blk_frozen BK599.out 1; have hczq_gb600_0 : w11.cell? ⟨gb600, 0, none⟩ = some (.int .i64 0) := (blk_cell BK600.out 0).trans rfl; have hfzq_gb600_0 := blk_frozen BK600.out 0; have hczq_gb600_1 : w11.cell? ⟨gb600, 1, none⟩ = some (.slice none 0 0) := (blk_cell BK600.out 1).trans rfl; have hfzq_gb600_1 := blk_frozen BK600.out 1)); have hnb12 := NB599_600.out; have hnc12 := NB600_599.out; have hcz13_0 : w11.cell? ⟨gb599, 0, none⟩ = some (.int .i64 a1_0) := (blk_cell BK599.out 0).trans rfl; have hcz13_1 : w11.cell? ⟨gb599, 1, none⟩ = some (.slice A1_1 l1_1.length c1_1) := (blk_cell BK599.out 1).trans rfl; have hfz13_0 := blk_frozen BK599.out 0; have hfz13_1 := blk_frozen BK599.out 1) | (go_at_call 41; (with_reducible refine (impl_isOp.calls k a1_0 _ _ l1_1 a0 true _ ?side1 ?side2 A7.out).mono ?_); (case side1 => repeat (first | exact (Kd.C_below HR1_1.out HB.out) | (with_reducible refine Kd.C_alloc ?_ _) | (with_reducible refine Kd.C_drewN ?_ _) | (with_reducible refine Kd.C_drew ?_))); (case side2 => exact HC1_1.out); rintro e w14 ⟨rfl, hb⟩; have n0_ := Aside0.mk (blk_below (g := gb599) (o := .cells #[.int .i64 a1_0, .slice A1_1 l1_1.length c1_1] 41 (0, 0)) (by (with_reducible repeat (first | refine blk_drewN ?_ _ | refine blk_drew ?_ | refine blk_alloc ?_ _)); exact BK599.out) hb); have n1_ := Aside0.mk (blk_below (g := gb600) (o := .cells #[.int .i64 0, .slice none 0 0] 41 (0, 0)) (by (with_reducible repeat (first | refine blk_drewN ?_ _ | refine blk_drew ?_ | refine blk_alloc ?_ _)); exact BK600.out) hb); have n2_ := Aside0.mk (below_step (by repeat (first | (with_reducible first | exact HB.out | apply below_alloc | apply pw_below_drewN | apply below_drew1 | refine below_set ?_ GE599.out | refine below_set ?_ GE600.out) | exact HB.out)) hb); clear BK599; clear BK600; clear HB; have BK599 := n0_; have BK600 := n1_; have HB := n2_; clear n0_ n1_ n2_; (try clear hb); (try clear hb2); (try clear hk); (try clear hi); have hcz15_0 : w14.cell? ⟨gb600, 0, none⟩ = some (.int .i64 0) := (blk_cell BK600.out 0).trans rfl; have hcz15_1 : w14.cell? ⟨gb600, 1, none⟩ = some (.slice none 0 0) := (blk_cell BK600.out 1).trans rfl; have hfz15_0 := blk_frozen BK600.out 0; have hfz15_1 := blk_frozen BK600.out 1))
    refine bodyPost_ret (results_ct rfl _ _ gb600 41 #[.int .i64 0, .slice none 0 0] (0, 0) _ rfl (by (with_reducible repeat (first | refine blk_drewN ?_ _ | refine blk_drew ?_ | refine blk_alloc ?_ _)); refine blk_put (cs := #[.int .i64 0, .slice none 0 0]) ?_ 1 _ rfl; (with_reducible repeat (first | refine blk_drewN ?_ _ | refine blk_drew ?_ | refine blk_alloc ?_ _)); refine blk_put (cs := #[.int .i64 0, .slice none 0 0]) ?_ 0 _ rfl; (with_reducible repeat (first | refine blk_drewN ?_ _ | refine blk_drew ?_ | refine blk_alloc ?_ _)); exact BK600.out) Try.underlying41 rfl (by kernel_rfl)) rfl ?_
    exact ⟨_, by first | rfl | (simp [errW_none, errW_some] <;> rfl) | (simp [*, errW_none, errW_some] <;> rfl), by first | exact Kd.R_nil _ _ _ _ _ | exact Kd.N_nil _ _ _ _ _ | exact Kd.V_nil _ _ _ _ _ | exact Kd.Q_nil _ _ _ _ _ | exact Kd.S_nil _ _ _ _ _, by repeat (first | (with_reducible first | exact HB.out | apply below_alloc | apply pw_below_drewN | apply below_drew1 | refine below_set ?_ GE599.out | refine below_set ?_ GE600.out) | exact HB.out)⟩
   ·rw [if_neg c9] at H
    have c9b0 : decide (a3 < 1) = false := decide_eq_false c9
    clear c9
    by_cases c16 : a3 > 3
    ·rw [if_pos c16] at H
     have c16b0 : decide (3 < a3) = true := decide_eq_true c16
     clear c16
     simp only [Option.some.injEq, Prod.mk.injEq] at H
     obtain ⟨rfl, rfl, rfl⟩ := H
     go_enter Try.func29, Try.ntmps29
     go_wp2_with (first | ((with_reducible refine gate_dst (N := 5) rfl ?_); (try (refine gate_guard (by rfl) ?_; dsimp only)); refine box_event ?hg (N := 5) ?hd (cs := #[.int .i64 a1_0, .slice A1_1 l1_1.length c1_1]) (t := 41) ?hr ?_; (case hd => rfl); (case hg => rfl); (case hr => first | (go_simp; done) | (go_simp; rfl)); intro gb599 hg w17 hbox hb; have n0_ := Aside0.mk (below_step (by repeat (first | (with_reducible first | exact HB.out | apply below_alloc | apply pw_below_drewN | apply below_drew1) | exact HB.out)) hb); have n1_ := Aside0.mk (hbox); have n2_ := Aside0.mk ((by rw [hg]; exact (below_size (by repeat (first | (with_reducible first | exact HB.out | apply below_alloc | apply pw_below_drewN | apply below_drew1) | exact HB.out))) : w.heap.size ≤ gb599)); have n3_ := Aside0.mk ((by rw [hg]; exact (below_size (by repeat (first | (with_reducible first | exact HB.out | apply below_alloc | apply pw_below_drewN | apply below_drew1) | exact HB.out))) : w.heap.size ≤ gb599)); clear HB; have HB := n0_; have BK599 := n1_; have GW599 := n2_; have GE599 := n3_; clear n0_ n1_ n2_ n3_; clear hb hbox hg) | ((with_reducible refine gate_dst (N := 8) rfl ?_); (try (refine gate_guard (by rfl) ?_; dsimp only)); refine box_event ?hg (N := 8) ?hd (cs := #[.int .i64 0, .slice none 0 0]) (t := 41) ?hr ?_; (case hd => rfl); (case hg => rfl); (case hr => first | (go_simp; done) | (go_simp; rfl)); intro gb600 hg w18 hbox hb; have n0_ := Aside0.mk (blk_below (g := gb599) (o := .cells #[.int .i64 a1_0, .slice A1_1 l1_1.length c1_1] 41 (0, 0)) (by (with_reducible repeat (first | refine blk_drewN ?_ _ | refine blk_drew ?_ | refine blk_alloc ?_ _)); exact BK599.out) hb); have n1_ := Aside0.mk (below_step (by repeat (first | (with_reducible first | exact HB.out | apply below_alloc | apply pw_below_drewN | apply below_drew1 | refine below_set ?_ GE599.out) | exact HB.out)) hb); have n2_ := Aside0.mk (hbox); have n3_ := Aside0.mk ((by rw [hg]; exact (below_size (by repeat (first | (with_reducible first | exact HB.out | apply below_alloc | apply pw_below_drewN | apply below_drew1 | refine below_set ?_ GE599.out) | exact HB.out))) : w.heap.size ≤ gb600)); have n4_ := Aside0.mk ((by rw [hg]; exact (below_size (by repeat (first | (with_reducible first | exact HB.out | apply below_alloc | apply pw_below_drewN | apply below_drew1 | refine below_set ?_ GE599.out) | exact HB.out))) : w.heap.size ≤ gb600)); have n5_ := Aside0.mk ((by rw [hg]; exact Nat.ne_of_lt (blk_lt (g := gb599) (o := .cells #[.int .i64 a1_0, .slice A1_1 l1_1.length c1_1] 41 (0, 0)) (by (with_reducible repeat (first | refine blk_drewN ?_ _ | refine blk_drew ?_ | refine blk_alloc ?_ _)); exact BK599.out)) : gb599 ≠ gb600)); have n6_ := Aside0.mk ((by rw [hg]; exact Nat.ne_of_gt (blk_lt (g := gb599) (o := .cells #[.int .i64 a1_0, .slice A1_1 l1_1.length c1_1] 41 (0, 0)) (by (with_reducible repeat (first | refine blk_drewN ?_ _ | refine blk_drew ?_ | refine blk_alloc ?_ _)); exact BK599.out)) : gb600 ≠ gb599)); clear BK599; clear HB; have BK599 := n0_; have HB := n1_; have BK600 := n2_; have GW600 := n3_; have GE600 := n4_; have NB599_600 := n5_; have NB600_599 := n6_; clear n0_ n1_ n2_ n3_ n4_ n5_ n6_; clear hb hbox hg) | ((with_reducible refine gate_callee (f := 47) rfl ?_); refine goesL_ (some 11) rfl rfl Try.func47 (by kernel_rfl) rfl #[.int .i64 a0] rfl (by (try simp only [List.map_toArray, List.map_cons, List.map_nil]); first | done | rfl | (simp only [List.length_drop, List.length_take]; rfl)) ?_; (with_reducible refine (impl_isSize.calls a0 true _ A5.out).mono ?_); rintro e w' ⟨rfl, ⟨nd, rfl⟩⟩; refine ⟨_, rfl, ?_⟩; (try (rw [drewN_self w18]; generalize hq_ : World.drewN w18 _ = w18; have n0_ : Aside0 (w18.heap[gb599]? = some (.cells #[.int .i64 a1_0, .slice A1_1 l1_1.length c1_1] 41 (0, 0))) := ⟨by rw [← hq_]; exact (by (with_reducible repeat (first | refine blk_drewN ?_ _ | refine blk_drew ?_ | refine blk_alloc ?_ _)); exact BK599.out)⟩; have n1_ : Aside0 (w18.heap[gb600]? = some (.cells #[.int .i64 0, .slice none 0 0] 41 (0, 0))) := ⟨by rw [← hq_]; exact (by (with_reducible repeat (first | refine blk_drewN ?_ _ | refine blk_drew ?_ | refine blk_alloc ?_ _)); exact BK600.out)⟩; have n2_ : Aside0 (Below w.heap.size w w18) := ⟨by rw [← hq_]; exact (by repeat (first | (with_reducible first | exact HB.out | apply below_alloc | apply pw_below_drewN | apply below_drew1 | refine below_set ?_ GE599.out | refine below_set ?_ GE600.out) | exact HB.out))⟩; clear BK599 BK600 HB hq_; have BK599 := n0_; have BK600 := n1_; have HB := n2_; clear n0_ n1_ n2_; have hczq_gb599_0 : w18.cell? ⟨gb599, 0, none⟩ = some (.int .i64 a1_0) := (blk_cell BK599.out 0).trans rfl; have hfzq_gb599_0 := blk_frozen BK599.out 0; have hczq_gb599_1 : w18.cell? ⟨gb599, 1, none⟩ = some (.slice A1_1 l1_1.length c1_1) := (blk_cell BK599.out 1).trans rfl; have hfzq_gb599_1 := blk_frozen BK599.out 1; have hczq_gb600_0 : w18.cell? ⟨gb600, 0, none⟩ = some (.int .i64 0) := (blk_cell BK600.out 0).trans rfl; have hfzq_gb600_0 := blk_frozen BK600.out 0; have hczq_gb600_1 : w18.cell? ⟨gb600, 1, none⟩ = some (.slice none 0 0) := (blk_cell BK600.out 1).trans rfl; have hfzq_gb600_1 := blk_frozen BK600.out 1)); have hnb19 := NB599_600.out; have hnc19 := NB600_599.out; have hcz20_0 : w18.cell? ⟨gb599, 0, none⟩ = some (.int .i64 a1_0) := (blk_cell BK599.out 0).trans rfl; have hcz20_1 : w18.cell? ⟨gb599, 1, none⟩ = some (.slice A1_1 l1_1.length c1_1) := (blk_cell BK599.out 1).trans rfl; have hfz20_0 := blk_frozen BK599.out 0; have hfz20_1 := blk_frozen BK599.out 1) | (go_at_call 41; (with_reducible refine (impl_isOp.calls k a1_0 _ _ l1_1 a0 true _ ?side1 ?side2 A7.out).mono ?_); (case side1 => repeat (first | exact (Kd.C_below HR1_1.out HB.out) | (with_reducible refine Kd.C_alloc ?_ _) | (with_reducible refine Kd.C_drewN ?_ _) | (with_reducible refine Kd.C_drew ?_))); (case side2 => exact HC1_1.out); rintro e w21 ⟨rfl, hb⟩; have n0_ := Aside0.mk (blk_below (g := gb599) (o := .cells #[.int .i64 a1_0, .slice A1_1 l1_1.length c1_1] 41 (0, 0)) (by (with_reducible repeat (first | refine blk_drewN ?_ _ | refine blk_drew ?_ | refine blk_alloc ?_ _)); exact BK599.out) hb); have n1_ := Aside0.mk (blk_below (g := gb600) (o := .cells #[.int .i64 0, .slice none 0 0] 41 (0, 0)) (by (with_reducible repeat (first | refine blk_drewN ?_ _ | refine blk_drew ?_ | refine blk_alloc ?_ _)); exact BK600.out) hb); have n2_ := Aside0.mk (below_step (by repeat (first | (with_reducible first | exact HB.out | apply below_alloc | apply pw_below_drewN | apply below_drew1 | refine below_set ?_ GE599.out | refine below_set ?_ GE600.out) | exact HB.out)) hb); clear BK599; clear BK600; clear HB; have BK599 := n0_; have BK600 := n1_; have HB := n2_; clear n0_ n1_ n2_; (try clear hb); (try clear hb2); (try clear hk); (try clear hi); have hcz22_0 : w21.cell? ⟨gb600, 0, none⟩ = some (.int .i64 0) := (blk_cell BK600.out 0).trans rfl; have hcz22_1 : w21.cell? ⟨gb600, 1, none⟩ = some (.slice none 0 0) := (blk_cell BK600.out 1).trans rfl; have hfz22_0 := blk_frozen BK600.out 0; have hfz22_1 := blk_frozen BK600.out 1))
     refine bodyPost_ret (results_ct rfl _ _ gb600 41 #[.int .i64 0, .slice none 0 0] (0, 0) _ rfl (by (with_reducible repeat (first | refine blk_drewN ?_ _ | refine blk_drew ?_ | refine blk_alloc ?_ _)); refine blk_put (cs := #[.int .i64 0, .slice none 0 0]) ?_ 1 _ rfl; (with_reducible repeat (first | refine blk_drewN ?_ _ | refine blk_drew ?_ | refine blk_alloc ?_ _)); refine blk_put (cs := #[.int .i64 0, .slice none 0 0]) ?_ 0 _ rfl; (with_reducible repeat (first | refine blk_drewN ?_ _ | refine blk_drew ?_ | refine blk_alloc ?_ _)); exact BK600.out) Try.underlying41 rfl (by kernel_rfl)) rfl ?_
     exact ⟨_, by first | rfl | (simp [errW_none, errW_some] <;> rfl) | (simp [*, errW_none, errW_some] <;> rfl), by first | exact Kd.R_nil _ _ _ _ _ | exact Kd.N_nil _ _ _ _ _ | exact Kd.V_nil _ _ _ _ _ | exact Kd.Q_nil _ _ _ _ _ | exact Kd.S_nil _ _ _ _ _, by repeat (first | (with_reducible first | exact HB.out | apply below_alloc | apply pw_below_drewN | apply below_drew1 | refine below_set ?_ GE599.out | refine below_set ?_ GE600.out) | exact HB.out)⟩
    ·rw [if_neg c16] at H
     have c16b0 : decide (3 < a3) = false := decide_eq_false c16
     clear c16
     by_cases c23 : (l2.length : Int) = a1_0
     ·rw [if_pos c23] at H
      have c23b0 : ((l2.length : Int) == a1_0) = true := beq_iff_eq.mpr c23
      have c23b1 : ((l2.length : Int) != a1_0) = false := bne_eq_false_iff_eq.mpr c23
      clear c23
      replace H := Option.bind_eq_some_iff.mp H
      obtain ⟨t603, A240, H⟩ := H
      replace H : (if t603 = true then ((impl_minor.f k a0 a1_0 l1_1 l2 a3).bind fun bt604 => (some (bt604.1, bt604.2, true))) else (some (0, ([] : List Int), false))) = some (r1, r2, r3) := H
      have A24 := Aside0.mk A240
      clear A240
      by_cases c25 : t603 = true
      ·subst c25
       have H1 : ((impl_minor.f k a0 a1_0 l1_1 l2 a3).bind fun bt604 => (some (bt604.1, bt604.2, true))) = some (r1, r2, r3) := by rw [if_pos rfl] at H; exact H
       clear H
       have H := H1
       clear H1
       replace H := Option.bind_eq_some_iff.mp H
       obtain ⟨⟨t604, t605⟩, A260, H⟩ := H
       replace H : (some (t604, t605, true)) = some (r1, r2, r3) := H
       have A26 := Aside0.mk A260
       clear A260
       simp only [Option.some.injEq, Prod.mk.injEq] at H
       obtain ⟨rfl, rfl, rfl⟩ := H
       go_enter Try.func29, Try.ntmps29
       go_wp2_with (first | ((with_reducible refine gate_dst (N := 5) rfl ?_); (try (refine gate_guard (by rfl) ?_; dsimp only)); refine box_event ?hg (N := 5) ?hd (cs := #[.int .i64 a1_0, .slice A1_1 l1_1.length c1_1]) (t := 41) ?hr ?_; (case hd => rfl); (case hg => rfl); (case hr => first | (go_simp; done) | (go_simp; rfl)); intro gb599 hg w27 hbox hb; have n0_ := Aside0.mk (below_step (by repeat (first | (with_reducible first | exact HB.out | apply below_alloc | apply pw_below_drewN | apply below_drew1) | exact HB.out)) hb); have n1_ := Aside0.mk (hbox); have n2_ := Aside0.mk ((by rw [hg]; exact (below_size (by repeat (first | (with_reducible first | exact HB.out | apply below_alloc | apply pw_below_drewN | apply below_drew1) | exact HB.out))) : w.heap.size ≤ gb599)); have n3_ := Aside0.mk ((by rw [hg]; exact (below_size (by repeat (first | (with_reducible first | exact HB.out | apply below_alloc | apply pw_below_drewN | apply below_drew1) | exact HB.out))) : w.heap.size ≤ gb599)); clear HB; have HB := n0_; have BK599 := n1_; have GW599 := n2_; have GE599 := n3_; clear n0_ n1_ n2_ n3_; clear hb hbox hg) | ((with_reducible refine gate_dst (N := 8) rfl ?_); (try (refine gate_guard (by rfl) ?_; dsimp only)); refine box_event ?hg (N := 8) ?hd (cs := #[.int .i64 0, .slice none 0 0]) (t := 41) ?hr ?_; (case hd => rfl); (case hg => rfl); (case hr => first | (go_simp; done) | (go_simp; rfl)); intro gb600 hg w28 hbox hb; have n0_ := Aside0.mk (blk_below (g := gb599) (o := .cells #[.int .i64 a1_0, .slice A1_1 l1_1.length c1_1] 41 (0, 0)) (by (with_reducible repeat (first | refine blk_drewN ?_ _ | refine blk_drew ?_ | refine blk_alloc ?_ _)); exact BK599.out) hb); have n1_ := Aside0.mk (below_step (by repeat (first | (with_reducible first | exact HB.out | apply below_alloc | apply pw_below_drewN | apply below_drew1 | refine below_set ?_ GE599.out) | exact HB.out)) hb); have n2_ := Aside0.mk (hbox); have n3_ := Aside0.mk ((by rw [hg]; exact (below_size (by repeat (first | (with_reducible first | exact HB.out | apply below_alloc | apply pw_below_drewN | apply below_drew1 | refine below_set ?_ GE599.out) | exact HB.out))) : w.heap.size ≤ gb600)); have n4_ := Aside0.mk ((by rw [hg]; exact (below_size (by repeat (first | (with_reducible first | exact HB.out | apply below_alloc | apply pw_below_drewN | apply below_drew1 | refine below_set ?_ GE599.out) | exact HB.out))) : w.heap.size ≤ gb600)); have n5_ := Aside0.mk ((by rw [hg]; exact Nat.ne_of_lt (blk_lt (g := gb599) (o := .cells #[.int .i64 a1_0, .slice A1_1 l1_1.length c1_1] 41 (0, 0)) (by (with_reducible repeat (first | refine blk_drewN ?_ _ | refine blk_drew ?_ | refine blk_alloc ?_ _)); exact BK599.out)) : gb599 ≠ gb600)); have n6_ := Aside0.mk ((by rw [hg]; exact Nat.ne_of_gt (blk_lt (g := gb599) (o := .cells #[.int .i64 a1_0, .slice A1_1 l1_1.length c1_1] 41 (0, 0)) (by (with_reducible repeat (first | refine blk_drewN ?_ _ | refine blk_drew ?_ | refine blk_alloc ?_ _)); exact BK599.out)) : gb600 ≠ gb599)); clear BK599; clear HB; have BK599 := n0_; have HB := n1_; have BK600 := n2_; have GW600 := n3_; have GE600 := n4_; have NB599_600 := n5_; have NB600_599 := n6_; clear n0_ n1_ n2_ n3_ n4_ n5_ n6_; clear hb hbox hg) | ((with_reducible refine gate_callee (f := 47) rfl ?_); refine goesL_ (some 11) rfl rfl Try.func47 (by kernel_rfl) rfl #[.int .i64 a0] rfl (by (try simp only [List.map_toArray, List.map_cons, List.map_nil]); first | done | rfl | (simp only [List.length_drop, List.length_take]; rfl)) ?_; (with_reducible refine (impl_isSize.calls a0 true _ A5.out).mono ?_); rintro e w' ⟨rfl, ⟨nd, rfl⟩⟩; refine ⟨_, rfl, ?_⟩; (try (rw [drewN_self w28]; generalize hq_ : World.drewN w28 _ = w28; have n0_ : Aside0 (w28.heap[gb599]? = some (.cells #[.int .i64 a1_0, .slice A1_1 l1_1.length c1_1] 41 (0, 0))) := ⟨by rw [← hq_]; exact (by (with_reducible repeat (first | refine blk_drewN ?_ _ | refine blk_drew ?_ | refine blk_alloc ?_ _)); exact BK599.out)⟩; have n1_ : Aside0 (w28.heap[gb600]? = some (.cells #[.int .i64 0, .slice none 0 0] 41 (0, 0))) := ⟨by rw [← hq_]; exact (by (with_reducible repeat (first | refine blk_drewN ?_ _ | refine blk_drew ?_ | refine blk_alloc ?_ _)); exact BK600.out)⟩; have n2_ : Aside0 (Below w.heap.size w w28) := ⟨by rw [← hq_]; exact (by repeat (first | (with_reducible first | exact HB.out | apply below_alloc | apply pw_below_drewN | apply below_drew1 | refine below_set ?_ GE599.out | refine below_set ?_ GE600.out) | exact HB.out))⟩; clear BK599 BK600 HB hq_; have BK599 := n0_; have BK600 := n1_; have HB := n2_; clear n0_ n1_ n2_; have hczq_gb599_0 : w28.cell? ⟨gb599, 0, none⟩ = some (.int .i64 a1_0) := (blk_cell BK599.out 0).trans rfl; have hfzq_gb599_0 := blk_frozen BK599.out 0; have hczq_gb599_1 : w28.cell? ⟨gb599, 1, none⟩ = some (.slice A1_1 l1_1.length c1_1) := (blk_cell BK599.out 1).trans rfl; have hfzq_gb599_1 := blk_frozen BK599.out 1; have hczq_gb600_0 : w28.cell? ⟨gb600, 0, none⟩ = some (.int .i64 0) := (blk_cell BK600.out 0).trans rfl; have hfzq_gb600_0 := blk_frozen BK600.out 0; have hczq_gb600_1 : w28.cell? ⟨gb600, 1, none⟩ = some (.slice none 0 0) := (blk_cell BK600.out 1).trans rfl; have hfzq_gb600_1 := blk_frozen BK600.out 1)); have hnb29 := NB599_600.out; have hnc29 := NB600_599.out; have hcz30_0 : w28.cell? ⟨gb599, 0, none⟩ = some (.int .i64 a1_0) := (blk_cell BK599.out 0).trans rfl; have hcz30_1 : w28.cell? ⟨gb599, 1, none⟩ = some (.slice A1_1 l1_1.length c1_1) := (blk_cell BK599.out 1).trans rfl; have hfz30_0 := blk_frozen BK599.out 0; have hfz30_1 := blk_frozen BK599.out 1) | (go_at_call 41; (with_reducible refine (impl_isOp.calls k a1_0 _ _ l1_1 a0 true _ ?side1 ?side2 A7.out).mono ?_); (case side1 => repeat (first | exact (Kd.C_below HR1_1.out HB.out) | (with_reducible refine Kd.C_alloc ?_ _) | (with_reducible refine Kd.C_drewN ?_ _) | (with_reducible refine Kd.C_drew ?_))); (case side2 => exact HC1_1.out); rintro e w31 ⟨rfl, hb⟩; have n0_ := Aside0.mk (blk_below (g := gb599) (o := .cells #[.int .i64 a1_0, .slice A1_1 l1_1.length c1_1] 41 (0, 0)) (by (with_reducible repeat (first | refine blk_drewN ?_ _ | refine blk_drew ?_ | refine blk_alloc ?_ _)); exact BK599.out) hb); have n1_ := Aside0.mk (blk_below (g := gb600) (o := .cells #[.int .i64 0, .slice none 0 0] 41 (0, 0)) (by (with_reducible repeat (first | refine blk_drewN ?_ _ | refine blk_drew ?_ | refine blk_alloc ?_ _)); exact BK600.out) hb); have n2_ := Aside0.mk (below_step (by repeat (first | (with_reducible first | exact HB.out | apply below_alloc | apply pw_below_drewN | apply below_drew1 | refine below_set ?_ GE599.out | refine below_set ?_ GE600.out) | exact HB.out)) hb); clear BK599; clear BK600; clear HB; have BK599 := n0_; have BK600 := n1_; have HB := n2_; clear n0_ n1_ n2_; (try clear hb); (try clear hb2); (try clear hk); (try clear hi); have hcz32_0 : w31.cell? ⟨gb599, 0, none⟩ = some (.int .i64 a1_0) := (blk_cell BK599.out 0).trans rfl; have hcz32_1 : w31.cell? ⟨gb599, 1, none⟩ = some (.slice A1_1 l1_1.length c1_1) := (blk_cell BK599.out 1).trans rfl; have hfz32_0 := blk_frozen BK599.out 0; have hfz32_1 := blk_frozen BK599.out 1) | (go_at_call 52; (with_reducible refine (impl_inSize.calls k _ _ l2 a3 true _ ?side1 ?side2 A24.out).mono ?_); (case side1 => repeat (first | exact (Kd.C_below HR2.out HB.out) | (with_reducible refine Kd.C_alloc ?_ _) | (with_reducible refine Kd.C_drewN ?_ _) | (with_reducible refine Kd.C_drew ?_))); (case side2 => exact HC2.out); rintro e w' ⟨rfl, ⟨nd, rfl⟩⟩; (try (rw [drewN_self w31]; generalize hq_ : World.drewN w31 _ = w31; have n0_ : Aside0 (w31.heap[gb599]? = some (.cells #[.int .i64 a1_0, .slice A1_1 l1_1.length c1_1] 41 (0, 0))) := ⟨by rw [← hq_]; exact (by (with_reducible repeat (first | refine blk_drewN ?_ _ | refine blk_drew ?_ | refine blk_alloc ?_ _)); exact BK599.out)⟩; have n1_ : Aside0 (w31.heap[gb600]? = some (.cells #[.int .i64 0, .slice none 0 0] 41 (0, 0))) := ⟨by rw [← hq_]; exact (by (with_reducible repeat (first | refine blk_drewN ?_ _ | refine blk_drew ?_ | refine blk_alloc ?_ _)); exact BK600.out)⟩; have n2_ : Aside0 (Below w.heap.size w w31) := ⟨by rw [← hq_]; exact (by repeat (first | (with_reducible first | exact HB.out | apply below_alloc | apply pw_below_drewN | apply below_drew1 | refine below_set ?_ GE599.out | refine below_set ?_ GE600.out) | exact HB.out))⟩; clear BK599 BK600 HB hq_; have BK599 := n0_; have BK600 := n1_; have HB := n2_; clear n0_ n1_ n2_; have hczq_gb599_0 : w31.cell? ⟨gb599, 0, none⟩ = some (.int .i64 a1_0) := (blk_cell BK599.out 0).trans rfl; have hfzq_gb599_0 := blk_frozen BK599.out 0; have hczq_gb599_1 : w31.cell? ⟨gb599, 1, none⟩ = some (.slice A1_1 l1_1.length c1_1) := (blk_cell BK599.out 1).trans rfl; have hfzq_gb599_1 := blk_frozen BK599.out 1; have hczq_gb600_0 : w31.cell? ⟨gb600, 0, none⟩ = some (.int .i64 0) := (blk_cell BK600.out 0).trans rfl; have hfzq_gb600_0 := blk_frozen BK600.out 0; have hczq_gb600_1 : w31.cell? ⟨gb600, 1, none⟩ = some (.slice none 0 0) := (blk_cell BK600.out 1).trans rfl; have hfzq_gb600_1 := blk_frozen BK600.out 1))) | ((with_reducible refine gate_callee (f := 53) rfl ?_); refine goesL_ (some 45) rfl rfl Try.func53 (by kernel_rfl) rfl #[.int .i64 a0, .agg #[.int .i64 a1_0, .slice A1_1 l1_1.length c1_1], .slice A2 l2.length c2, .int .i64 a3] rfl (by (try simp only [List.map_toArray, List.map_cons, List.map_nil]); first | done | rfl | (simp only [List.length_drop, List.length_take]; rfl)) ?_; (with_reducible refine (impl_minor.calls k a0 a1_0 _ _ l1_1 _ _ l2 a3 t604 t605 _ ?side1 ?side2 ?side3 ?side4 A26.out).mono ?_); (case side1 => repeat (first | exact (Kd.C_below HR1_1.out HB.out) | (with_reducible refine Kd.C_alloc ?_ _) | (with_reducible refine Kd.C_drewN ?_ _) | (with_reducible refine Kd.C_drew ?_))); (case side2 => exact HC1_1.out); (case side3 => repeat (first | exact (Kd.C_below HR2.out HB.out) | (with_reducible refine Kd.C_alloc ?_ _) | (with_reducible refine Kd.C_drewN ?_ _) | (with_reducible refine Kd.C_drew ?_))); (case side4 => exact HC2.out); rintro e w33 ⟨v606, rfl, ho0, hb⟩; refine ⟨_, rfl, ?_⟩; have n0_ := Aside0.mk (Kd.R_lower ho0 (below_size (by repeat (first | (with_reducible first | exact HB.out | apply below_alloc | apply pw_below_drewN | apply below_drew1 | refine below_set ?_ GE599.out | refine below_set ?_ GE600.out) | exact HB.out)))); have n1_ := Aside0.mk (blk_below (g := gb599) (o := .cells #[.int .i64 a1_0, .slice A1_1 l1_1.length c1_1] 41 (0, 0)) (by (with_reducible repeat (first | refine blk_drewN ?_ _ | refine blk_drew ?_ | refine blk_alloc ?_ _)); exact BK599.out) hb); have n2_ := Aside0.mk (blk_below (g := gb600) (o := .cells #[.int .i64 0, .slice none 0 0] 41 (0, 0)) (by (with_reducible repeat (first | refine blk_drewN ?_ _ | refine blk_drew ?_ | refine blk_alloc ?_ _)); exact BK600.out) hb); have n3_ := Aside0.mk (below_step (by repeat (first | (with_reducible first | exact HB.out | apply below_alloc | apply pw_below_drewN | apply below_drew1 | refine below_set ?_ GE599.out | refine below_set ?_ GE600.out) | exact HB.out)) hb); clear BK599; clear BK600; clear HB; have HO607 := n0_; have BK599 := n1_; have BK600 := n2_; have HB := n3_; clear n0_ n1_ n2_ n3_; (try clear hb); (try clear hb2); (try clear hk); (try clear hi); (try clear ho0); have hcz34_0 : w33.cell? ⟨gb600, 0, none⟩ = some (.int .i64 0) := (blk_cell BK600.out 0).trans rfl; have hcz34_1 : w33.cell? ⟨gb600, 1, none⟩ = some (.slice none 0 0) := (blk_cell BK600.out 1).trans rfl; have hfz34_0 := blk_frozen BK600.out 0; have hfz34_1 := blk_frozen BK600.out 1; obtain ⟨Ao35, co35, eo35⟩ := Kd.R_slice HO607.out; subst eo35))
       refine bodyPost_ret (results_ct rfl _ _ gb600 41 #[.int .i64 t604, .slice Ao35 t605.length co35] (0, 0) _ rfl (by (with_reducible repeat (first | refine blk_drewN ?_ _ | refine blk_drew ?_ | refine blk_alloc ?_ _)); refine blk_put (cs := #[.int .i64 t604, .slice none 0 0]) ?_ 1 _ rfl; (with_reducible repeat (first | refine blk_drewN ?_ _ | refine blk_drew ?_ | refine blk_alloc ?_ _)); refine blk_put (cs := #[.int .i64 0, .slice none 0 0]) ?_ 0 _ rfl; (with_reducible repeat (first | refine blk_drewN ?_ _ | refine blk_drew ?_ | refine blk_alloc ?_ _)); exact BK600.out) Try.underlying41 rfl (by kernel_rfl)) rfl ?_
       exact ⟨_, by first | rfl | (simp [errW_none, errW_some] <;> rfl) | (simp [*, errW_none, errW_some] <;> rfl), by (with_reducible repeat (first | apply Kd.R_alloc | apply Kd.R_drewN | apply Kd.R_drew)); exact Kd.R_mono (Kd.R_far (p := ⟨gb600, 1, none⟩) (Kd.R_far (p := ⟨gb600, 0, none⟩) (Kd.R_types HO607.out BK600.out (by decide)) (fun _ hk => hk.2) (.int .i64 t604)) (fun _ hk => hk.2) (.slice Ao35 t605.length co35)) (fun _ hk => trivial), by repeat (first | (with_reducible first | exact HB.out | apply below_alloc | apply pw_below_drewN | apply below_drew1 | refine below_set ?_ GE599.out | refine below_set ?_ GE600.out) | exact HB.out)⟩
      ·replace c25 := Bool.eq_false_iff.mpr c25
       subst c25
       have H1 : (some (0, ([] : List Int), false)) = some (r1, r2, r3) := by rw [if_neg (show ¬ (false = true) by decide)] at H; exact H
       clear H
       have H := H1
       clear H1
       simp only [Option.some.injEq, Prod.mk.injEq] at H
       obtain ⟨rfl, rfl, rfl⟩ := H
       go_enter Try.func29, Try.ntmps29
       go_wp2_with (first | ((with_reducible refine gate_dst (N := 5) rfl ?_); (try (refine gate_guard (by rfl) ?_; dsimp only)); refine box_event ?hg (N := 5) ?hd (cs := #[.int .i64 a1_0, .slice A1_1 l1_1.length c1_1]) (t := 41) ?hr ?_; (case hd => rfl); (case hg => rfl); (case hr => first | (go_simp; done) | (go_simp; rfl)); intro gb599 hg w36 hbox hb; have n0_ := Aside0.mk (below_step (by repeat (first | (with_reducible first | exact HB.out | apply below_alloc | apply pw_below_drewN | apply below_drew1) | exact HB.out)) hb); have n1_ := Aside0.mk (hbox); have n2_ := Aside0.mk ((by rw [hg]; exact (below_size (by repeat (first | (with_reducible first | exact HB.out | apply below_alloc | apply pw_below_drewN | apply below_drew1) | exact HB.out))) : w.heap.size ≤ gb599)); have n3_ := Aside0.mk ((by rw [hg]; exact (below_size (by repeat (first | (with_reducible first | exact HB.out | apply below_alloc | apply pw_below_drewN | apply below_drew1) | exact HB.out))) : w.heap.size ≤ gb599)); clear HB; have HB := n0_; have BK599 := n1_; have GW599 := n2_; have GE599 := n3_; clear n0_ n1_ n2_ n3_; clear hb hbox hg) | ((with_reducible refine gate_dst (N := 8) rfl ?_); (try (refine gate_guard (by rfl) ?_; dsimp only)); refine box_event ?hg (N := 8) ?hd (cs := #[.int .i64 0, .slice none 0 0]) (t := 41) ?hr ?_; (case hd => rfl); (case hg => rfl); (case hr => first | (go_simp; done) | (go_simp; rfl)); intro gb600 hg w37 hbox hb; have n0_ := Aside0.mk (blk_below (g := gb599) (o := .cells #[.int .i64 a1_0, .slice A1_1 l1_1.length c1_1] 41 (0, 0)) (by (with_reducible repeat (first | refine blk_drewN ?_ _ | refine blk_drew ?_ | refine blk_alloc ?_ _)); exact BK599.out) hb); have n1_ := Aside0.mk (below_step (by repeat (first | (with_reducible first | exact HB.out | apply below_alloc | apply pw_below_drewN | apply below_drew1 | refine below_set ?_ GE599.out) | exact HB.out)) hb); have n2_ := Aside0.mk (hbox); have n3_ := Aside0.mk ((by rw [hg]; exact (below_size (by repeat (first | (with_reducible first | exact HB.out | apply below_alloc | apply pw_below_drewN | apply below_drew1 | refine below_set ?_ GE599.out) | exact HB.out))) : w.heap.size ≤ gb600)); have n4_ := Aside0.mk ((by rw [hg]; exact (below_size (by repeat (first | (with_reducible first | exact HB.out | apply below_alloc | apply pw_below_drewN | apply below_drew1 | refine below_set ?_ GE599.out) | exact HB.out))) : w.heap.size ≤ gb600)); have n5_ := Aside0.mk ((by rw [hg]; exact Nat.ne_of_lt (blk_lt (g := gb599) (o := .cells #[.int .i64 a1_0, .slice A1_1 l1_1.length c1_1] 41 (0, 0)) (by (with_reducible repeat (first | refine blk_drewN ?_ _ | refine blk_drew ?_ | refine blk_alloc ?_ _)); exact BK599.out)) : gb599 ≠ gb600)); have n6_ := Aside0.mk ((by rw [hg]; exact Nat.ne_of_gt (blk_lt (g := gb599) (o := .cells #[.int .i64 a1_0, .slice A1_1 l1_1.length c1_1] 41 (0, 0)) (by (with_reducible repeat (first | refine blk_drewN ?_ _ | refine blk_drew ?_ | refine blk_alloc ?_ _)); exact BK599.out)) : gb600 ≠ gb599)); clear BK599; clear HB; have BK599 := n0_; have HB := n1_; have BK600 := n2_; have GW600 := n3_; have GE600 := n4_; have NB599_600 := n5_; have NB600_599 := n6_; clear n0_ n1_ n2_ n3_ n4_ n5_ n6_; clear hb hbox hg) | ((with_reducible refine gate_callee (f := 47) rfl ?_); refine goesL_ (some 11) rfl rfl Try.func47 (by kernel_rfl) rfl #[.int .i64 a0] rfl (by (try simp only [List.map_toArray, List.map_cons, List.map_nil]); first | done | rfl | (simp only [List.length_drop, List.length_take]; rfl)) ?_; (with_reducible refine (impl_isSize.calls a0 true _ A5.out).mono ?_); rintro e w' ⟨rfl, ⟨nd, rfl⟩⟩; refine ⟨_, rfl, ?_⟩; (try (rw [drewN_self w37]; generalize hq_ : World.drewN w37 _ = w37; have n0_ : Aside0 (w37.heap[gb599]? = some (.cells #[.int .i64 a1_0, .slice A1_1 l1_1.length c1_1] 41 (0, 0))) := ⟨by rw [← hq_]; exact (by (with_reducible repeat (first | refine blk_drewN ?_ _ | refine blk_drew ?_ | refine blk_alloc ?_ _)); exact BK599.out)⟩; have n1_ : Aside0 (w37.heap[gb600]? = some (.cells #[.int .i64 0, .slice none 0 0] 41 (0, 0))) := ⟨by rw [← hq_]; exact (by (with_reducible repeat (first | refine blk_drewN ?_ _ | refine blk_drew ?_ | refine blk_alloc ?_ _)); exact BK600.out)⟩; have n2_ : Aside0 (Below w.heap.size w w37) := ⟨by rw [← hq_]; exact (by repeat (first | (with_reducible first | exact HB.out | apply below_alloc | apply pw_below_drewN | apply below_drew1 | refine below_set ?_ GE599.out | refine below_set ?_ GE600.out) | exact HB.out))⟩; clear BK599 BK600 HB hq_; have BK599 := n0_; have BK600 := n1_; have HB := n2_; clear n0_ n1_ n2_; have hczq_gb599_0 : w37.cell? ⟨gb599, 0, none⟩ = some (.int .i64 a1_0) := (blk_cell BK599.out 0).trans rfl; have hfzq_gb599_0 := blk_frozen BK599.out 0; have hczq_gb599_1 : w37.cell? ⟨gb599, 1, none⟩ = some (.slice A1_1 l1_1.length c1_1) := (blk_cell BK599.out 1).trans rfl; have hfzq_gb599_1 := blk_frozen BK599.out 1; have hczq_gb600_0 : w37.cell? ⟨gb600, 0, none⟩ = some (.int .i64 0) := (blk_cell BK600.out 0).trans rfl; have hfzq_gb600_0 := blk_frozen BK600.out 0; have hczq_gb600_1 : w37.cell? ⟨gb600, 1, none⟩ = some (.slice none 0 0) := (blk_cell BK600.out 1).trans rfl; have hfzq_gb600_1 := blk_frozen BK600.out 1)); have hnb38 := NB599_600.out; have hnc38 := NB600_599.out; have hcz39_0 : w37.cell? ⟨gb599, 0, none⟩ = some (.int .i64 a1_0) := (blk_cell BK599.out 0).trans rfl; have hcz39_1 : w37.cell? ⟨gb599, 1, none⟩ = some (.slice A1_1 l1_1.length c1_1) := (blk_cell BK599.out 1).trans rfl; have hfz39_0 := blk_frozen BK599.out 0; have hfz39_1 := blk_frozen BK599.out 1) | (go_at_call 41; (with_reducible refine (impl_isOp.calls k a1_0 _ _ l1_1 a0 true _ ?side1 ?side2 A7.out).mono ?_); (case side1 => repeat (first | exact (Kd.C_below HR1_1.out HB.out) | (with_reducible refine Kd.C_alloc ?_ _) | (with_reducible refine Kd.C_drewN ?_ _) | (with_reducible refine Kd.C_drew ?_))); (case side2 => exact HC1_1.out); rintro e w40 ⟨rfl, hb⟩; have n0_ := Aside0.mk (blk_below (g := gb599) (o := .cells #[.int .i64 a1_0, .slice A1_1 l1_1.length c1_1] 41 (0, 0)) (by (with_reducible repeat (first | refine blk_drewN ?_ _ | refine blk_drew ?_ | refine blk_alloc ?_ _)); exact BK599.out) hb); have n1_ := Aside0.mk (blk_below (g := gb600) (o := .cells #[.int .i64 0, .slice none 0 0] 41 (0, 0)) (by (with_reducible repeat (first | refine blk_drewN ?_ _ | refine blk_drew ?_ | refine blk_alloc ?_ _)); exact BK600.out) hb); have n2_ := Aside0.mk (below_step (by repeat (first | (with_reducible first | exact HB.out | apply below_alloc | apply pw_below_drewN | apply below_drew1 | refine below_set ?_ GE599.out | refine below_set ?_ GE600.out) | exact HB.out)) hb); clear BK599; clear BK600; clear HB; have BK599 := n0_; have BK600 := n1_; have HB := n2_; clear n0_ n1_ n2_; (try clear hb); (try clear hb2); (try clear hk); (try clear hi); have hcz41_0 : w40.cell? ⟨gb599, 0, none⟩ = some (.int .i64 a1_0) := (blk_cell BK599.out 0).trans rfl; have hcz41_1 : w40.cell? ⟨gb599, 1, none⟩ = some (.slice A1_1 l1_1.length c1_1) := (blk_cell BK599.out 1).trans rfl; have hfz41_0 := blk_frozen BK599.out 0; have hfz41_1 := blk_frozen BK599.out 1) | (go_at_call 52; (with_reducible refine (impl_inSize.calls k _ _ l2 a3 false _ ?side1 ?side2 A24.out).mono ?_); (case side1 => repeat (first | exact (Kd.C_below HR2.out HB.out) | (with_reducible refine Kd.C_alloc ?_ _) | (with_reducible refine Kd.C_drewN ?_ _) | (with_reducible refine Kd.C_drew ?_))); (case side2 => exact HC2.out); rintro e w' ⟨rfl, ⟨nd, rfl⟩⟩; (try (rw [drewN_self w40]; generalize hq_ : World.drewN w40 _ = w40; have n0_ : Aside0 (w40.heap[gb599]? = some (.cells #[.int .i64 a1_0, .slice A1_1 l1_1.length c1_1] 41 (0, 0))) := ⟨by rw [← hq_]; exact (by (with_reducible repeat (first | refine blk_drewN ?_ _ | refine blk_drew ?_ | refine blk_alloc ?_ _)); exact BK599.out)⟩; have n1_ : Aside0 (w40.heap[gb600]? = some (.cells #[.int .i64 0, .slice none 0 0] 41 (0, 0))) := ⟨by rw [← hq_]; exact (by (with_reducible repeat (first | refine blk_drewN ?_ _ | refine blk_drew ?_ | refine blk_alloc ?_ _)); exact BK600.out)⟩; have n2_ : Aside0 (Below w.heap.size w w40) := ⟨by rw [← hq_]; exact (by repeat (first | (with_reducible first | exact HB.out | apply below_alloc | apply pw_below_drewN | apply below_drew1 | refine below_set ?_ GE599.out | refine below_set ?_ GE600.out) | exact HB.out))⟩; clear BK599 BK600 HB hq_; have BK599 := n0_; have BK600 := n1_; have HB := n2_; clear n0_ n1_ n2_; have hczq_gb599_0 : w40.cell? ⟨gb599, 0, none⟩ = some (.int .i64 a1_0) := (blk_cell BK599.out 0).trans rfl; have hfzq_gb599_0 := blk_frozen BK599.out 0; have hczq_gb599_1 : w40.cell? ⟨gb599, 1, none⟩ = some (.slice A1_1 l1_1.length c1_1) := (blk_cell BK599.out 1).trans rfl; have hfzq_gb599_1 := blk_frozen BK599.out 1; have hczq_gb600_0 : w40.cell? ⟨gb600, 0, none⟩ = some (.int .i64 0) := (blk_cell BK600.out 0).trans rfl; have hfzq_gb600_0 := blk_frozen BK600.out 0; have hczq_gb600_1 : w40.cell? ⟨gb600, 1, none⟩ = some (.slice none 0 0) := (blk_cell BK600.out 1).trans rfl; have hfzq_gb600_1 := blk_frozen BK600.out 1)); have hcz42_0 : w40.cell? ⟨gb600, 0, none⟩ = some (.int .i64 0) := (blk_cell BK600.out 0).trans rfl; have hcz42_1 : w40.cell? ⟨gb600, 1, none⟩ = some (.slice none 0 0) := (blk_cell BK600.out 1).trans rfl; have hfz42_0 := blk_frozen BK600.out 0; have hfz42_1 := blk_frozen BK600.out 1))
       refine bodyPost_ret (results_ct rfl _ _ gb600 41 #[.int .i64 0, .slice none 0 0] (0, 0) _ rfl (by (with_reducible repeat (first | refine blk_drewN ?_ _ | refine blk_drew ?_ | refine blk_alloc ?_ _)); refine blk_put (cs := #[.int .i64 0, .slice none 0 0]) ?_ 1 _ rfl; (with_reducible repeat (first | refine blk_drewN ?_ _ | refine blk_drew ?_ | refine blk_alloc ?_ _)); refine blk_put (cs := #[.int .i64 0, .slice none 0 0]) ?_ 0 _ rfl; (with_reducible repeat (first | refine blk_drewN ?_ _ | refine blk_drew ?_ | refine blk_alloc ?_ _)); exact BK600.out) Try.underlying41 rfl (by kernel_rfl)) rfl ?_
       exact ⟨_, by first | rfl | (simp [errW_none, errW_some] <;> rfl) | (simp [*, errW_none, errW_some] <;> rfl), by first | exact Kd.R_nil _ _ _ _ _ | exact Kd.N_nil _ _ _ _ _ | exact Kd.V_nil _ _ _ _ _ | exact Kd.Q_nil _ _ _ _ _ | exact Kd.S_nil _ _ _ _ _, by repeat (first | (with_reducible first | exact HB.out | apply below_alloc | apply pw_below_drewN | apply below_drew1 | refine below_set ?_ GE599.out | refine below_set ?_ GE600.out) | exact HB.out)⟩
     ·rw [if_neg c23] at H
      have c23b0 : ((l2.length : Int) == a1_0) = false := beq_eq_false_iff_ne.mpr c23
      have c23b1 : ((l2.length : Int) != a1_0) = true := bne_iff_ne.mpr c23
      simp only [Option.some.injEq, Prod.mk.injEq] at H
      obtain ⟨rfl, rfl, rfl⟩ := H
      go_enter Try.func29, Try.ntmps29
      go_wp2_with (first | ((with_reducible refine gate_dst (N := 5) rfl ?_); (try (refine gate_guard (by rfl) ?_; dsimp only)); refine box_event ?hg (N := 5) ?hd (cs := #[.int .i64 a1_0, .slice A1_1 l1_1.length c1_1]) (t := 41) ?hr ?_; (case hd => rfl); (case hg => rfl); (case hr => first | (go_simp; done) | (go_simp; rfl)); intro gb599 hg w43 hbox hb; have n0_ := Aside0.mk (below_step (by repeat (first | (with_reducible first | exact HB.out | apply below_alloc | apply pw_below_drewN | apply below_drew1) | exact HB.out)) hb); have n1_ := Aside0.mk (hbox); have n2_ := Aside0.mk ((by rw [hg]; exact (below_size (by repeat (first | (with_reducible first | exact HB.out | apply below_alloc | apply pw_below_drewN | apply below_drew1) | exact HB.out))) : w.heap.size ≤ gb599)); have n3_ := Aside0.mk ((by rw [hg]; exact (below_size (by repeat (first | (with_reducible first | exact HB.out | apply below_alloc | apply pw_below_drewN | apply below_drew1) | exact HB.out))) : w.heap.size ≤ gb599)); clear HB; have HB := n0_; have BK599 := n1_; have GW599 := n2_; have GE599 := n3_; clear n0_ n1_ n2_ n3_; clear hb hbox hg) | ((with_reducible refine gate_dst (N := 8) rfl ?_); (try (refine gate_guard (by rfl) ?_; dsimp only)); refine box_event ?hg (N := 8) ?hd (cs := #[.int .i64 0, .slice none 0 0]) (t := 41) ?hr ?_; (case hd => rfl); (case hg => rfl); (case hr => first | (go_simp; done) | (go_simp; rfl)); intro gb600 hg w44 hbox hb; have n0_ := Aside0.mk (blk_below (g := gb599) (o := .cells #[.int .i64 a1_0, .slice A1_1 l1_1.length c1_1] 41 (0, 0)) (by (with_reducible repeat (first | refine blk_drewN ?_ _ | refine blk_drew ?_ | refine blk_alloc ?_ _)); exact BK599.out) hb); have n1_ := Aside0.mk (below_step (by repeat (first | (with_reducible first | exact HB.out | apply below_alloc | apply pw_below_drewN | apply below_drew1 | refine below_set ?_ GE599.out) | exact HB.out)) hb); have n2_ := Aside0.mk (hbox); have n3_ := Aside0.mk ((by rw [hg]; exact (below_size (by repeat (first | (with_reducible first | exact HB.out | apply below_alloc | apply pw_below_drewN | apply below_drew1 | refine below_set ?_ GE599.out) | exact HB.out))) : w.heap.size ≤ gb600)); have n4_ := Aside0.mk ((by rw [hg]; exact (below_size (by repeat (first | (with_reducible first | exact HB.out | apply below_alloc | apply pw_below_drewN | apply below_drew1 | refine below_set ?_ GE599.out) | exact HB.out))) : w.heap.size ≤ gb600)); have n5_ := Aside0.mk ((by rw [hg]; exact Nat.ne_of_lt (blk_lt (g := gb599) (o := .cells #[.int .i64 a1_0, .slice A1_1 l1_1.length c1_1] 41 (0, 0)) (by (with_reducible repeat (first | refine blk_drewN ?_ _ | refine blk_drew ?_ | refine blk_alloc ?_ _)); exact BK599.out)) : gb599 ≠ gb600)); have n6_ := Aside0.mk ((by rw [hg]; exact Nat.ne_of_gt (blk_lt (g := gb599) (o := .cells #[.int .i64 a1_0, .slice A1_1 l1_1.length c1_1] 41 (0, 0)) (by (with_reducible repeat (first | refine blk_drewN ?_ _ | refine blk_drew ?_ | refine blk_alloc ?_ _)); exact BK599.out)) : gb600 ≠ gb599)); clear BK599; clear HB; have BK599 := n0_; have HB := n1_; have BK600 := n2_; have GW600 := n3_; have GE600 := n4_; have NB599_600 := n5_; have NB600_599 := n6_; clear n0_ n1_ n2_ n3_ n4_ n5_ n6_; clear hb hbox hg) | ((with_reducible refine gate_callee (f := 47) rfl ?_); refine goesL_ (some 11) rfl rfl Try.func47 (by kernel_rfl) rfl #[.int .i64 a0] rfl (by (try simp only [List.map_toArray, List.map_cons, List.map_nil]); first | done | rfl | (simp only [List.length_drop, List.length_take]; rfl)) ?_; (with_reducible refine (impl_isSize.calls a0 true _ A5.out).mono ?_); rintro e w' ⟨rfl, ⟨nd, rfl⟩⟩; refine ⟨_, rfl, ?_⟩; (try (rw [drewN_self w44]; generalize hq_ : World.drewN w44 _ = w44; have n0_ : Aside0 (w44.heap[gb599]? = some (.cells #[.int .i64 a1_0, .slice A1_1 l1_1.length c1_1] 41 (0, 0))) := ⟨by rw [← hq_]; exact (by (with_reducible repeat (first | refine blk_drewN ?_ _ | refine blk_drew ?_ | refine blk_alloc ?_ _)); exact BK599.out)⟩; have n1_ : Aside0 (w44.heap[gb600]? = some (.cells #[.int .i64 0, .slice none 0 0] 41 (0, 0))) := ⟨by rw [← hq_]; exact (by (with_reducible repeat (first | refine blk_drewN ?_ _ | refine blk_drew ?_ | refine blk_alloc ?_ _)); exact BK600.out)⟩; have n2_ : Aside0 (Below w.heap.size w w44) := ⟨by rw [← hq_]; exact (by repeat (first | (with_reducible first | exact HB.out | apply below_alloc | apply pw_below_drewN | apply below_drew1 | refine below_set ?_ GE599.out | refine below_set ?_ GE600.out) | exact HB.out))⟩; clear BK599 BK600 HB hq_; have BK599 := n0_; have BK600 := n1_; have HB := n2_; clear n0_ n1_ n2_; have hczq_gb599_0 : w44.cell? ⟨gb599, 0, none⟩ = some (.int .i64 a1_0) := (blk_cell BK599.out 0).trans rfl; have hfzq_gb599_0 := blk_frozen BK599.out 0; have hczq_gb599_1 : w44.cell? ⟨gb599, 1, none⟩ = some (.slice A1_1 l1_1.length c1_1) := (blk_cell BK599.out 1).trans rfl; have hfzq_gb599_1 := blk_frozen BK599.out 1; have hczq_gb600_0 : w44.cell? ⟨gb600, 0, none⟩ = some (.int .i64 0) := (blk_cell BK600.out 0).trans rfl; have hfzq_gb600_0 := blk_frozen BK600.out 0; have hczq_gb600_1 : w44.cell? ⟨gb600, 1, none⟩ = some (.slice none 0 0) := (blk_cell BK600.out 1).trans rfl; have hfzq_gb600_1 := blk_frozen BK600.out 1)); have hnb45 := NB599_600.out; have hnc45 := NB600_599.out; have hcz46_0 : w44.cell? ⟨gb599, 0, none⟩ = some (.int .i64 a1_0) := (blk_cell BK599.out 0).trans rfl; have hcz46_1 : w44.cell? ⟨gb599, 1, none⟩ = some (.slice A1_1 l1_1.length c1_1) := (blk_cell BK599.out 1).trans rfl; have hfz46_0 := blk_frozen BK599.out 0; have hfz46_1 := blk_frozen BK599.out 1) | (go_at_call 41; (with_reducible refine (impl_isOp.calls k a1_0 _ _ l1_1 a0 true _ ?side1 ?side2 A7.out).mono ?_); (case side1 => repeat (first | exact (Kd.C_below HR1_1.out HB.out) | (with_reducible refine Kd.C_alloc ?_ _) | (with_reducible refine Kd.C_drewN ?_ _) | (with_reducible refine Kd.C_drew ?_))); (case side2 => exact HC1_1.out); rintro e w47 ⟨rfl, hb⟩; have n0_ := Aside0.mk (blk_below (g := gb599) (o := .cells #[.int .i64 a1_0, .slice A1_1 l1_1.length c1_1] 41 (0, 0)) (by (with_reducible repeat (first | refine blk_drewN ?_ _ | refine blk_drew ?_ | refine blk_alloc ?_ _)); exact BK599.out) hb); have n1_ := Aside0.mk (blk_below (g := gb600) (o := .cells #[.int .i64 0, .slice none 0 0] 41 (0, 0)) (by (with_reducible repeat (first | refine blk_drewN ?_ _ | refine blk_drew ?_ | refine blk_alloc ?_ _)); exact BK600.out) hb); have n2_ := Aside0.mk (below_step (by repeat (first | (with_reducible first | exact HB.out | apply below_alloc | apply pw_below_drewN | apply below_drew1 | refine below_set ?_ GE599.out | refine below_set ?_ GE600.out) | exact HB.out)) hb); clear BK599; clear BK600; clear HB; have BK599 := n0_; have BK600 := n1_; have HB := n2_; clear n0_ n1_ n2_; (try clear hb); (try clear hb2); (try clear hk); (try clear hi); have hcz48_0 : w47.cell? ⟨gb599, 0, none⟩ = some (.int .i64 a1_0) := (blk_cell BK599.out 0).trans rfl; have hcz48_1 : w47.cell? ⟨gb599, 1, none⟩ = some (.slice A1_1 l1_1.length c1_1) := (blk_cell BK599.out 1).trans rfl; have hfz48_0 := blk_frozen BK599.out 0; have hfz48_1 := blk_frozen BK599.out 1; have hcz49_0 : w47.cell? ⟨gb600, 0, none⟩ = some (.int .i64 0) := (blk_cell BK600.out 0).trans rfl; have hcz49_1 : w47.cell? ⟨gb600, 1, none⟩ = some (.slice none 0 0) := (blk_cell BK600.out 1).trans rfl; have hfz49_0 := blk_frozen BK600.out 0; have hfz49_1 := blk_frozen BK600.out 1))
      refine bodyPost_ret (results_ct rfl _ _ gb600 41 #[.int .i64 0, .slice none 0 0] (0, 0) _ rfl (by (with_reducible repeat (first | refine blk_drewN ?_ _ | refine blk_drew ?_ | refine blk_alloc ?_ _)); refine blk_put (cs := #[.int .i64 0, .slice none 0 0]) ?_ 1 _ rfl; (with_reducible repeat (first | refine blk_drewN ?_ _ | refine blk_drew ?_ | refine blk_alloc ?_ _)); refine blk_put (cs := #[.int .i64 0, .slice none 0 0]) ?_ 0 _ rfl; (with_reducible repeat (first | refine blk_drewN ?_ _ | refine blk_drew ?_ | refine blk_alloc ?_ _)); exact BK600.out) Try.underlying41 rfl (by kernel_rfl)) rfl ?_
      exact ⟨_, by first | rfl | (simp [errW_none, errW_some] <;> rfl) | (simp [*, errW_none, errW_some] <;> rfl), by first | exact Kd.R_nil _ _ _ _ _ | exact Kd.N_nil _ _ _ _ _ | exact Kd.V_nil _ _ _ _ _ | exact Kd.Q_nil _ _ _ _ _ | exact Kd.S_nil _ _ _ _ _, by repeat (first | (with_reducible first | exact HB.out | apply below_alloc | apply pw_below_drewN | apply below_drew1 | refine below_set ?_ GE599.out | refine below_set ?_ GE600.out) | exact HB.out)⟩
  ·replace c8 := Bool.eq_false_iff.mpr c8
   subst c8
   have H1 : (some (0, ([] : List Int), false)) = some (r1, r2, r3) := by rw [if_neg (show ¬ (false = true) by decide)] at H; exact H
   clear H
   have H := H1
   clear H1
   simp only [Option.some.injEq, Prod.mk.injEq] at H
   obtain ⟨rfl, rfl, rfl⟩ := H
   go_enter Try.func29, Try.ntmps29
   go_wp2_with (first | ((with_reducible refine gate_dst (N := 5) rfl ?_); (try (refine gate_guard (by rfl) ?_; dsimp only)); refine box_event ?hg (N := 5) ?hd (cs := #[.int .i64 a1_0, .slice A1_1 l1_1.length c1_1]) (t := 41) ?hr ?_; (case hd => rfl); (case hg => rfl); (case hr => first | (go_simp; done) | (go_simp; rfl)); intro gb599 hg w50 hbox hb; have n0_ := Aside0.mk (below_step (by repeat (first | (with_reducible first | exact HB.out | apply below_alloc | apply pw_below_drewN | apply below_drew1) | exact HB.out)) hb); have n1_ := Aside0.mk (hbox); have n2_ := Aside0.mk ((by rw [hg]; exact (below_size (by repeat (first | (with_reducible first | exact HB.out | apply below_alloc | apply pw_below_drewN | apply below_drew1) | exact HB.out))) : w.heap.size ≤ gb599)); have n3_ := Aside0.mk ((by rw [hg]; exact (below_size (by repeat (first | (with_reducible first | exact HB.out | apply below_alloc | apply pw_below_drewN | apply below_drew1) | exact HB.out))) : w.heap.size ≤ gb599)); clear HB; have HB := n0_; have BK599 := n1_; have GW599 := n2_; have GE599 := n3_; clear n0_ n1_ n2_ n3_; clear hb hbox hg) | ((with_reducible refine gate_dst (N := 8) rfl ?_); (try (refine gate_guard (by rfl) ?_; dsimp only)); refine box_event ?hg (N := 8) ?hd (cs := #[.int .i64 0, .slice none 0 0]) (t := 41) ?hr ?_; (case hd => rfl); (case hg => rfl); (case hr => first | (go_simp; done) | (go_simp; rfl)); intro gb600 hg w51 hbox hb; have n0_ := Aside0.mk (blk_below (g := gb599) (o := .cells #[.int .i64 a1_0, .slice A1_1 l1_1.length c1_1] 41 (0, 0)) (by (with_reducible repeat (first | refine blk_drewN ?_ _ | refine blk_drew ?_ | refine blk_alloc ?_ _)); exact BK599.out) hb); have n1_ := Aside0.mk (below_step (by repeat (first | (with_reducible first | exact HB.out | apply below_alloc | apply pw_below_drewN | apply below_drew1 | refine below_set ?_ GE599.out) | exact HB.out)) hb); have n2_ := Aside0.mk (hbox); have n3_ := Aside0.mk ((by rw [hg]; exact (below_size (by repeat (first | (with_reducible first | exact HB.out | apply below_alloc | apply pw_below_drewN | apply below_drew1 | refine below_set ?_ GE599.out) | exact HB.out))) : w.heap.size ≤ gb600)); have n4_ := Aside0.mk ((by rw [hg]; exact (below_size (by repeat (first | (with_reducible first | exact HB.out | apply below_alloc | apply pw_below_drewN | apply below_drew1 | refine below_set ?_ GE599.out) | exact HB.out))) : w.heap.size ≤ gb600)); have n5_ := Aside0.mk ((by rw [hg]; exact Nat.ne_of_lt (blk_lt (g := gb599) (o := .cells #[.int .i64 a1_0, .slice A1_1 l1_1.length c1_1] 41 (0, 0)) (by (with_reducible repeat (first | refine blk_drewN ?_ _ | refine blk_drew ?_ | refine blk_alloc ?_ _)); exact BK599.out)) : gb599 ≠ gb600)); have n6_ := Aside0.mk ((by rw [hg]; exact Nat.ne_of_gt (blk_lt (g := gb599) (o := .cells #[.int .i64 a1_0, .slice A1_1 l1_1.length c1_1] 41 (0, 0)) (by (with_reducible repeat (first | refine blk_drewN ?_ _ | refine blk_drew ?_ | refine blk_alloc ?_ _)); exact BK599.out)) : gb600 ≠ gb599)); clear BK599; clear HB; have BK599 := n0_; have HB := n1_; have BK600 := n2_; have GW600 := n3_; have GE600 := n4_; have NB599_600 := n5_; have NB600_599 := n6_; clear n0_ n1_ n2_ n3_ n4_ n5_ n6_; clear hb hbox hg) | ((with_reducible refine gate_callee (f := 47) rfl ?_); refine goesL_ (some 11) rfl rfl Try.func47 (by kernel_rfl) rfl #[.int .i64 a0] rfl (by (try simp only [List.map_toArray, List.map_cons, List.map_nil]); first | done | rfl | (simp only [List.length_drop, List.length_take]; rfl)) ?_; (with_reducible refine (impl_isSize.calls a0 true _ A5.out).mono ?_); rintro e w' ⟨rfl, ⟨nd, rfl⟩⟩; refine ⟨_, rfl, ?_⟩; (try (rw [drewN_self w51]; generalize hq_ : World.drewN w51 _ = w51; have n0_ : Aside0 (w51.heap[gb599]? = some (.cells #[.int .i64 a1_0, .slice A1_1 l1_1.length c1_1] 41 (0, 0))) := ⟨by rw [← hq_]; exact (by (with_reducible repeat (first | refine blk_drewN ?_ _ | refine blk_drew ?_ | refine blk_alloc ?_ _)); exact BK599.out)⟩; have n1_ : Aside0 (w51.heap[gb600]? = some (.cells #[.int .i64 0, .slice none 0 0] 41 (0, 0))) := ⟨by rw [← hq_]; exact (by (with_reducible repeat (first | refine blk_drewN ?_ _ | refine blk_drew ?_ | refine blk_alloc ?_ _)); exact BK600.out)⟩; have n2_ : Aside0 (Below w.heap.size w w51) := ⟨by rw [← hq_]; exact (by repeat (first | (with_reducible first | exact HB.out | apply below_alloc | apply pw_below_drewN | apply below_drew1 | refine below_set ?_ GE599.out | refine below_set ?_ GE600.out) | exact HB.out))⟩; clear BK599 BK600 HB hq_; have BK599 := n0_; have BK600 := n1_; have HB := n2_; clear n0_ n1_ n2_; have hczq_gb599_0 : w51.cell? ⟨gb599, 0, none⟩ = some (.int .i64 a1_0) := (blk_cell BK599.out 0).trans rfl; have hfzq_gb599_0 := blk_frozen BK599.out 0; have hczq_gb599_1 : w51.cell? ⟨gb599, 1, none⟩ = some (.slice A1_1 l1_1.length c1_1) := (blk_cell BK599.out 1).trans rfl; have hfzq_gb599_1 := blk_frozen BK599.out 1; have hczq_gb600_0 : w51.cell? ⟨gb600, 0, none⟩ = some (.int .i64 0) := (blk_cell BK600.out 0).trans rfl; have hfzq_gb600_0 := blk_frozen BK600.out 0; have hczq_gb600_1 : w51.cell? ⟨gb600, 1, none⟩ = some (.slice none 0 0) := (blk_cell BK600.out 1).trans rfl; have hfzq_gb600_1 := blk_frozen BK600.out 1)); have hnb52 := NB599_600.out; have hnc52 := NB600_599.out; have hcz53_0 : w51.cell? ⟨gb599, 0, none⟩ = some (.int .i64 a1_0) := (blk_cell BK599.out 0).trans rfl; have hcz53_1 : w51.cell? ⟨gb599, 1, none⟩ = some (.slice A1_1 l1_1.length c1_1) := (blk_cell BK599.out 1).trans rfl; have hfz53_0 := blk_frozen BK599.out 0; have hfz53_1 := blk_frozen BK599.out 1) | (go_at_call 41; (with_reducible refine (impl_isOp.calls k a1_0 _ _ l1_1 a0 false _ ?side1 ?side2 A7.out).mono ?_); (case side1 => repeat (first | exact (Kd.C_below HR1_1.out HB.out) | (with_reducible refine Kd.C_alloc ?_ _) | (with_reducible refine Kd.C_drewN ?_ _) | (with_reducible refine Kd.C_drew ?_))); (case side2 => exact HC1_1.out); rintro e w54 ⟨rfl, hb⟩; have n0_ := Aside0.mk (blk_below (g := gb599) (o := .cells #[.int .i64 a1_0, .slice A1_1 l1_1.length c1_1] 41 (0, 0)) (by (with_reducible repeat (first | refine blk_drewN ?_ _ | refine blk_drew ?_ | refine blk_alloc ?_ _)); exact BK599.out) hb); have n1_ := Aside0.mk (blk_below (g := gb600) (o := .cells #[.int .i64 0, .slice none 0 0] 41 (0, 0)) (by (with_reducible repeat (first | refine blk_drewN ?_ _ | refine blk_drew ?_ | refine blk_alloc ?_ _)); exact BK600.out) hb); have n2_ := Aside0.mk (below_step (by repeat (first | (with_reducible first | exact HB.out | apply below_alloc | apply pw_below_drewN | apply below_drew1 | refine below_set ?_ GE599.out | refine below_set ?_ GE600.out) | exact HB.out)) hb); clear BK599; clear BK600; clear HB; have BK599 := n0_; have BK600 := n1_; have HB := n2_; clear n0_ n1_ n2_; (try clear hb); (try clear hb2); (try clear hk); (try clear hi); have hcz55_0 : w54.cell? ⟨gb600, 0, none⟩ = some (.int .i64 0) := (blk_cell BK600.out 0).trans rfl; have hcz55_1 : w54.cell? ⟨gb600, 1, none⟩ = some (.slice none 0 0) := (blk_cell BK600.out 1).trans rfl; have hfz55_0 := blk_frozen BK600.out 0; have hfz55_1 := blk_frozen BK600.out 1))
   refine bodyPost_ret (results_ct rfl _ _ gb600 41 #[.int .i64 0, .slice none 0 0] (0, 0) _ rfl (by (with_reducible repeat (first | refine blk_drewN ?_ _ | refine blk_drew ?_ | refine blk_alloc ?_ _)); refine blk_put (cs := #[.int .i64 0, .slice none 0 0]) ?_ 1 _ rfl; (with_reducible repeat (first | refine blk_drewN ?_ _ | refine blk_drew ?_ | refine blk_alloc ?_ _)); refine blk_put (cs := #[.int .i64 0, .slice none 0 0]) ?_ 0 _ rfl; (with_reducible repeat (first | refine blk_drewN ?_ _ | refine blk_drew ?_ | refine blk_alloc ?_ _)); exact BK600.out) Try.underlying41 rfl (by kernel_rfl)) rfl ?_
   exact ⟨_, by first | rfl | (simp [errW_none, errW_some] <;> rfl) | (simp [*, errW_none, errW_some] <;> rfl), by first | exact Kd.R_nil _ _ _ _ _ | exact Kd.N_nil _ _ _ _ _ | exact Kd.V_nil _ _ _ _ _ | exact Kd.Q_nil _ _ _ _ _ | exact Kd.S_nil _ _ _ _ _, by repeat (first | (with_reducible first | exact HB.out | apply below_alloc | apply pw_below_drewN | apply below_drew1 | refine below_set ?_ GE599.out | refine below_set ?_ GE600.out) | exact HB.out)⟩
 ·replace c6 := Bool.eq_false_iff.mpr c6
  subst c6
  have H1 : (some (0, ([] : List Int), false)) = some (r1, r2, r3) := by rw [if_neg (show ¬ (false = true) by decide)] at H; exact H
  clear H
  have H := H1
  clear H1
  simp only [Option.some.injEq, Prod.mk.injEq] at H
  obtain ⟨rfl, rfl, rfl⟩ := H
  go_enter Try.func29, Try.ntmps29
  go_wp2_with (first | ((with_reducible refine gate_dst (N := 5) rfl ?_); (try (refine gate_guard (by rfl) ?_; dsimp only)); refine box_event ?hg (N := 5) ?hd (cs := #[.int .i64 a1_0, .slice A1_1 l1_1.length c1_1]) (t := 41) ?hr ?_; (case hd => rfl); (case hg => rfl); (case hr => first | (go_simp; done) | (go_simp; rfl)); intro gb599 hg w56 hbox hb; have n0_ := Aside0.mk (below_step (by repeat (first | (with_reducible first | exact HB.out | apply below_alloc | apply pw_below_drewN | apply below_drew1) | exact HB.out)) hb); have n1_ := Aside0.mk (hbox); have n2_ := Aside0.mk ((by rw [hg]; exact (below_size (by repeat (first | (with_reducible first | exact HB.out | apply below_alloc | apply pw_below_drewN | apply below_drew1) | exact HB.out))) : w.heap.size ≤ gb599)); have n3_ := Aside0.mk ((by rw [hg]; exact (below_size (by repeat (first | (with_reducible first | exact HB.out | apply below_alloc | apply pw_below_drewN | apply below_drew1) | exact HB.out))) : w.heap.size ≤ gb599)); clear HB; have HB := n0_; have BK599 := n1_; have GW599 := n2_; have GE599 := n3_; clear n0_ n1_ n2_ n3_; clear hb hbox hg) | ((with_reducible refine gate_dst (N := 8) rfl ?_); (try (refine gate_guard (by rfl) ?_; dsimp only)); refine box_event ?hg (N := 8) ?hd (cs := #[.int .i64 0, .slice none 0 0]) (t := 41) ?hr ?_; (case hd => rfl); (case hg => rfl); (case hr => first | (go_simp; done) | (go_simp; rfl)); intro gb600 hg w57 hbox hb; have n0_ := Aside0.mk (blk_below (g := gb599) (o := .cells #[.int .i64 a1_0, .slice A1_1 l1_1.length c1_1] 41 (0, 0)) (by (with_reducible repeat (first | refine blk_drewN ?_ _ | refine blk_drew ?_ | refine blk_alloc ?_ _)); exact BK599.out) hb); have n1_ := Aside0.mk (below_step (by repeat (first | (with_reducible first | exact HB.out | apply below_alloc | apply pw_below_drewN | apply below_drew1 | refine below_set ?_ GE599.out) | exact HB.out)) hb); have n2_ := Aside0.mk (hbox); have n3_ := Aside0.mk ((by rw [hg]; exact (below_size (by repeat (first | (with_reducible first | exact HB.out | apply below_alloc | apply pw_below_drewN | apply below_drew1 | refine below_set ?_ GE599.out) | exact HB.out))) : w.heap.size ≤ gb600)); have n4_ := Aside0.mk ((by rw [hg]; exact (below_size (by repeat (first | (with_reducible first | exact HB.out | apply below_alloc | apply pw_below_drewN | apply below_drew1 | refine below_set ?_ GE599.out) | exact HB.out))) : w.heap.size ≤ gb600)); have n5_ := Aside0.mk ((by rw [hg]; exact Nat.ne_of_lt (blk_lt (g := gb599) (o := .cells #[.int .i64 a1_0, .slice A1_1 l1_1.length c1_1] 41 (0, 0)) (by (with_reducible repeat (first | refine blk_drewN ?_ _ | refine blk_drew ?_ | refine blk_alloc ?_ _)); exact BK599.out)) : gb599 ≠ gb600)); have n6_ := Aside0.mk ((by rw [hg]; exact Nat.ne_of_gt (blk_lt (g := gb599) (o := .cells #[.int .i64 a1_0, .slice A1_1 l1_1.length c1_1] 41 (0, 0)) (by (with_reducible repeat (first | refine blk_drewN ?_ _ | refine blk_drew ?_ | refine blk_alloc ?_ _)); exact BK599.out)) : gb600 ≠ gb599)); clear BK599; clear HB; have BK599 := n0_; have HB := n1_; have BK600 := n2_; have GW600 := n3_; have GE600 := n4_; have NB599_600 := n5_; have NB600_599 := n6_; clear n0_ n1_ n2_ n3_ n4_ n5_ n6_; clear hb hbox hg) | ((with_reducible refine gate_callee (f := 47) rfl ?_); refine goesL_ (some 11) rfl rfl Try.func47 (by kernel_rfl) rfl #[.int .i64 a0] rfl (by (try simp only [List.map_toArray, List.map_cons, List.map_nil]); first | done | rfl | (simp only [List.length_drop, List.length_take]; rfl)) ?_; (with_reducible refine (impl_isSize.calls a0 false _ A5.out).mono ?_); rintro e w' ⟨rfl, ⟨nd, rfl⟩⟩; refine ⟨_, rfl, ?_⟩; (try (rw [drewN_self w57]; generalize hq_ : World.drewN w57 _ = w57; have n0_ : Aside0 (w57.heap[gb599]? = some (.cells #[.int .i64 a1_0, .slice A1_1 l1_1.length c1_1] 41 (0, 0))) := ⟨by rw [← hq_]; exact (by (with_reducible repeat (first | refine blk_drewN ?_ _ | refine blk_drew ?_ | refine blk_alloc ?_ _)); exact BK599.out)⟩; have n1_ : Aside0 (w57.heap[gb600]? = some (.cells #[.int .i64 0, .slice none 0 0] 41 (0, 0))) := ⟨by rw [← hq_]; exact (by (with_reducible repeat (first | refine blk_drewN ?_ _ | refine blk_drew ?_ | refine blk_alloc ?_ _)); exact BK600.out)⟩; have n2_ : Aside0 (Below w.heap.size w w57) := ⟨by rw [← hq_]; exact (by repeat (first | (with_reducible first | exact HB.out | apply below_alloc | apply pw_below_drewN | apply below_drew1 | refine below_set ?_ GE599.out | refine below_set ?_ GE600.out) | exact HB.out))⟩; clear BK599 BK600 HB hq_; have BK599 := n0_; have BK600 := n1_; have HB := n2_; clear n0_ n1_ n2_; have hczq_gb599_0 : w57.cell? ⟨gb599, 0, none⟩ = some (.int .i64 a1_0) := (blk_cell BK599.out 0).trans rfl; have hfzq_gb599_0 := blk_frozen BK599.out 0; have hczq_gb599_1 : w57.cell? ⟨gb599, 1, none⟩ = some (.slice A1_1 l1_1.length c1_1) := (blk_cell BK599.out 1).trans rfl; have hfzq_gb599_1 := blk_frozen BK599.out 1; have hczq_gb600_0 : w57.cell? ⟨gb600, 0, none⟩ = some (.int .i64 0) := (blk_cell BK600.out 0).trans rfl; have hfzq_gb600_0 := blk_frozen BK600.out 0; have hczq_gb600_1 : w57.cell? ⟨gb600, 1, none⟩ = some (.slice none 0 0) := (blk_cell BK600.out 1).trans rfl; have hfzq_gb600_1 := blk_frozen BK600.out 1)); have hnb58 := NB600_599.out; have hnc58 := NB599_600.out; have hcz59_0 : w57.cell? ⟨gb600, 0, none⟩ = some (.int .i64 0) := (blk_cell BK600.out 0).trans rfl; have hcz59_1 : w57.cell? ⟨gb600, 1, none⟩ = some (.slice none 0 0) := (blk_cell BK600.out 1).trans rfl; have hfz59_0 := blk_frozen BK600.out 0; have hfz59_1 := blk_frozen BK600.out 1))
  refine bodyPost_ret (results_ct rfl _ _ gb600 41 #[.int .i64 0, .slice none 0 0] (0, 0) _ rfl (by (with_reducible repeat (first | refine blk_drewN ?_ _ | refine blk_drew ?_ | refine blk_alloc ?_ _)); refine blk_put (cs := #[.int .i64 0, .slice none 0 0]) ?_ 1 _ rfl; (with_reducible repeat (first | refine blk_drewN ?_ _ | refine blk_drew ?_ | refine blk_alloc ?_ _)); refine blk_put (cs := #[.int .i64 0, .slice none 0 0]) ?_ 0 _ rfl; (with_reducible repeat (first | refine blk_drewN ?_ _ | refine blk_drew ?_ | refine blk_alloc ?_ _)); exact BK600.out) Try.underlying41 rfl (by kernel_rfl)) rfl ?_
  exact ⟨_, by first | rfl | (simp [errW_none, errW_some] <;> rfl) | (simp [*, errW_none, errW_some] <;> rfl), by first | exact Kd.R_nil _ _ _ _ _ | exact Kd.N_nil _ _ _ _ _ | exact Kd.V_nil _ _ _ _ _ | exact Kd.Q_nil _ _ _ _ _ | exact Kd.S_nil _ _ _ _ _, by repeat (first | (with_reducible first | exact HB.out | apply below_alloc | apply pw_below_drewN | apply below_drew1 | refine below_set ?_ GE599.out | refine below_set ?_ GE600.out) | exact HB.out)⟩
end Go.Proofs.Ytccjheikjcpgmaa.Q

namespace Go.Proofs.Ytccjheikjcpgmaa.Live
open Go.RowKit Go.Proofs.YtccjheikjcpgmaaW.PrintWords Go.Proofs.YtccjheikjcpgmaaW.PrintLast
set_option linter.unusedVariables false
structure Part where
 lo : Nat
 hi : Nat
 P : World → Prop
def Seg (w : World) (x : Part) : Prop := ∀ w' : World, (∀ k, x.lo ≤ k → k < x.hi → w'.heap[k]? = w.heap[k]?) → x.P w'
def Live (w : World) (L : List Part) : Prop := (∀ x ∈ L, x.lo ≤ x.hi ∧ x.hi ≤ w.heap.size ∧ Seg w x) ∧ L.Pairwise (fun new old => old.hi ≤ new.lo)
theorem Live.nil (w : World) : Live w [] := ⟨fun x hx => by simp at hx, List.Pairwise.nil⟩
theorem Live.get {w : World} {L : List Part} (h : Live w L) (i : Nat) {x : Part} (hi : L[i]? = some x) : x.P w :=
 (h.1 x (List.mem_of_getElem? hi)).2.2 w (fun _ _ _ => rfl)
theorem Seg.kept {w w' : World} {x : Part} {S : Nat → Prop} (h : Seg w x) (hk : Kept w w' S) (hh : x.hi ≤ w.heap.size) (hs : ∀ k, x.lo ≤ k → k < x.hi → ¬ S k) : Seg w' x :=
 fun w2 h2 => h w2 (fun k h3 h4 => (h2 k h3 h4).trans (hk.2 k (by omega) (hs k h3 h4)))
theorem Live.kept {w w' : World} {L : List Part} {S : Nat → Prop} (h : Live w L) (hk : Kept w w' S) (hs : ∀ x ∈ L, ∀ k, x.lo ≤ k → k < x.hi → ¬ S k) : Live w' L :=
 ⟨fun x hx => ⟨(h.1 x hx).1, Nat.le_trans (h.1 x hx).2.1 hk.1, (h.1 x hx).2.2.kept hk (h.1 x hx).2.1 (hs x hx)⟩, h.2⟩
theorem Live.below {w w' : World} {L : List Part} (h : Live w L) (hb : Below w.heap.size w w') : Live w' L :=
 h.kept (Kept.of_below hb (fun _ => False)) (fun _ _ _ _ _ hf => hf)
theorem Live.drew {w : World} {L : List Part} (h : Live w L) : Live w.drew L := h
theorem Live.make {w w' : World} {L : List Part} (h : Live w L) (hb : Below w.heap.size w w') {P : World → Prop} (hP : Seg w' ⟨w.heap.size, w'.heap.size, P⟩) : Live w' (⟨w.heap.size, w'.heap.size, P⟩ :: L) := by
 have h1 := h.below hb
 refine ⟨fun x hx => ?_, List.Pairwise.cons (fun x hx => (h.1 x hx).2.1) h1.2⟩
 rcases List.mem_cons.1 hx with rfl | hx
 ·exact ⟨hb.size, Nat.le_refl _, hP⟩
 ·exact h1.1 x hx
theorem pairwise_set {L : List Part} (h : L.Pairwise (fun new old => old.hi ≤ new.lo)) (i : Nat) {x y : Part} (hi : L[i]? = some x) (h1 : y.lo = x.lo) (h2 : y.hi = x.hi) : (L.set i y).Pairwise (fun new old => old.hi ≤ new.lo) := by
 rw [List.pairwise_iff_getElem] at h ⊢
 obtain ⟨hil, hx⟩ := List.getElem?_eq_some_iff.1 hi
 have key : ∀ (j : Nat) (hj : j < (L.set i y).length), ((L.set i y)[j]).lo = (L[j]'(by simpa using hj)).lo ∧ ((L.set i y)[j]).hi = (L[j]'(by simpa using hj)).hi := by
  intro j hj
  rw [List.getElem_set]
  split
  ·rename_i e
   subst e
   rw [h1, h2, ← hx]
   exact ⟨rfl, rfl⟩
  ·exact ⟨rfl, rfl⟩
 intro a b ha hb hab
 rw [(key a ha).1, (key b hb).2]
 exact h a b (by simpa using ha) (by simpa using hb) hab
theorem Live.mark {w w' : World} {L : List Part} (h : Live w L) (i : Nat) {x : Part} (hi : L[i]? = some x) (hk : Kept w w' (fun k => x.lo ≤ k ∧ k < x.hi)) {P' : World → Prop} (hP : Seg w' ⟨x.lo, x.hi, P'⟩) : Live w' (L.set i ⟨x.lo, x.hi, P'⟩) := by
 have hp := h.2
 rw [List.pairwise_iff_getElem] at hp
 obtain ⟨hil, hx⟩ := List.getElem?_eq_some_iff.1 hi
 refine ⟨fun y hy => ?_, pairwise_set h.2 i hi rfl rfl⟩
 obtain ⟨j, hj⟩ := List.getElem?_of_mem hy
 rw [List.getElem?_set] at hj
 by_cases e : i = j
 ·subst e
  rw [if_pos rfl, if_pos hil] at hj
  injection hj with hj
  subst hj
  have hm := h.1 x (List.mem_of_getElem? hi)
  exact ⟨hm.1, Nat.le_trans hm.2.1 hk.1, hP⟩
 ·rw [if_neg e] at hj
  obtain ⟨hjl, hjx⟩ := List.getElem?_eq_some_iff.1 hj
  have hm := h.1 y (List.mem_of_getElem? hj)
  refine ⟨hm.1, Nat.le_trans hm.2.1 hk.1, hm.2.2.kept hk hm.2.1 (fun k h3 h4 h5 => ?_)⟩
  rcases Nat.lt_or_ge i j with h6 | h6
  ·have := hp i j hil hjl h6
   rw [hx, hjx] at this
   omega
  ·have := hp j i hjl hil (by omega)
   rw [hx, hjx] at this
   omega
theorem Live.make_box {w : World} {L : List Part} (h : Live w L) (o : Obj) (g : Nat) (hg : g = w.heap.size) : ∃ lo hi, Live (w.alloc o) (⟨lo, hi, fun w => w.heap[g]? = some o ∧ lo ≤ g ∧ g < hi⟩ :: L) :=
 ⟨w.heap.size, (w.alloc o).heap.size, h.make (below_alloc (Below.refl _ _) o) (fun w' hw => by subst hg; exact ⟨(hw _ (Nat.le_refl _) (by simp)).trans (heap_alloc_new w o), Nat.le_refl _, by simp⟩)⟩
theorem Live.make_R {α : Type} {d : Kd α} {e base : Nat} {ok : Nat → Prop} {v : Value} {xs : List α} {w w' : World} {L : List Part} (h : Live w L) (hb : Below w.heap.size w w') (ho : d.R e w' w.heap.size ok v xs) (hbase : base ≤ w.heap.size) :
  ∃ lo hi, Live w' (⟨lo, hi, fun w => d.R e w base (fun k => lo ≤ k ∧ k < hi) v xs⟩ :: L) :=
 ⟨_, _, h.make hb (fun w2 hw => Kd.R_lower (Kd.R_move (Kd.R_mono (Kd.R_bound ho) (fun k hk => ⟨hk.2.1, hk.2.2.1⟩)) (fun k hk => hw k hk.1 hk.2)) hbase)⟩
section
variable {α : Type} {d : Kd α} {e base lo hi : Nat} {w : World} {ok : Nat → Prop} {v : Value} {xs : List α}
theorem seg_R {base' : Nat} (h : d.R e w base ok v xs) (hok : ∀ k, ok k → base ≤ k → k < w.heap.size → lo ≤ k ∧ k < hi) (hb : base' ≤ base) : Seg w ⟨lo, hi, fun w => d.R e w base' (fun k => lo ≤ k ∧ k < hi) v xs⟩ := fun w' hw =>
 Kd.R_lower (Kd.R_move (Kd.R_mono (Kd.R_bound h) (fun k hk => hok k hk.1 hk.2.1 hk.2.2.1)) (fun k hk => hw k hk.1 hk.2)) hb
end
theorem cells2 {w : World} {g : Nat} {t : TypeId} {a b : Value} (h : w.heap[g]? = some (.cells #[a, b] t (0, 0))) : w.cell? ⟨g, 0, none⟩ = some a ∧ w.cell? ⟨g, 1, none⟩ = some b := ⟨(blk_cell h 0).trans rfl, (blk_cell h 1).trans rfl⟩
end Go.Proofs.Ytccjheikjcpgmaa.Live

namespace Go.Proofs.Ytccjheikjcpgmaa
open Go.RowKit Go.Proofs.YtccjheikjcpgmaaW.PrintWords Go.Proofs.YtccjheikjcpgmaaW.PrintLast Go.Proofs.YtccjheikjcpgmaaW.PrintMore Go.Proofs.Ytccjheikjcpgmaa.Live Go.Proofs.Ytccjheikjcpgmaa.Q
def Stmt.FnExactMinorOf : Prop := ∀ (a0 : Int) (a1 : Int) (l1 : List (Int)) (l2 : List (Int)) (a3 : Int), (Lit.int .i64 a0).wf = true → (Lit.int .i64 a1).wf = true → l1.length ≤ maxLen → (∀ x ∈ l1, (Lit.int .i64 x).wf = true) → l2.length ≤ maxLen → (∀ x ∈ l2, (Lit.int .i64 x).wf = true) → (Lit.int .i64 a3).wf = true → l2.length ≤ 1048576 → ∃ k : Nat, ∃ t0 : Int, laws_szOp.f a1 l1 1048576 = some t0 ∧ (0 ≤ t0 → ∃ (X0 : Int) (X1 : List Int) (X2 : List Int) (X3 : Int) (X4 : List Int) (X5 : Bool), laws_toOp.f k a1 l1 = some (X0, X1) ∧ laws_toIntS.f k l2 = some X2 ∧ spec_MinorOf.f k a0 X0 X1 X2 a3 = some (X3, X4, X5) ∧ impl_MinorOf.f k a0 X0 X1 X2 a3 = some (X3, X4, X5) ∧ laws_eqOp.f k X3 X4 X3 X4 = some true ∧ laws_eqOp.f k X0 X1 X0 X1 = some true ∧ laws_eqIntS.f k X2 X2 = some true ∧ laws_markOp.f k X0 X1 1 = some (((1 + (X1.length : Int))), (asc X1.length 1)) ∧ laws_markIntS.f k X2 (1 + (X1.length : Int)) = some ((((1 + (X1.length : Int)) + (X2.length : Int))), (asc X2.length (1 + (X1.length : Int)))) ∧ laws_markOp.f k X3 X4 1 = some (((1 + (X4.length : Int))), (asc X4.length 1)) ∧ laws_heldOp.f k X3 (asc X4.length 1) 1 = some (1 + (X4.length : Int)))
end Go.Proofs.Ytccjheikjcpgmaa

namespace Go.Proofs.Ytccjheikjcpgmaa
open Go.ChangeShapes Go.WideShapes
end Go.Proofs.Ytccjheikjcpgmaa
namespace Go.Proofs.Ytccjheikjcpgmaa.Pure
open Go.RowKit Go.Proofs.Ytccjheikjcpgmaa.Q Go.Proofs.YtccjheikjcpgmaaW.PrintWords Go.Proofs.YtccjheikjcpgmaaW.PrintLast
set_option linter.unusedVariables false
set_option linter.unusedSimpArgs false
theorem Ev.pos {α : Type} {c : Prop} [Decidable c] {f g : Nat → Option α} {r : α} (h : c) (hf : Ev f r) : Ev (fun k => if c then f k else g k) r := by
 simpa only [if_pos h] using hf
theorem Ev.neg {α : Type} {c : Prop} [Decidable c] {f g : Nat → Option α} {r : α} (h : ¬ c) (hg : Ev g r) : Ev (fun k => if c then f k else g k) r := by
 simpa only [if_neg h] using hg
theorem Ev.ite {α : Type} {c : Prop} [Decidable c] {f g : Nat → Option α} {r : α} (h : c → Ev f r) (h' : ¬ c → Ev g r) : Ev (fun k => if c then f k else g k) r := by
 by_cases hc : c
 ·exact Ev.pos hc (h hc)
 ·exact Ev.neg hc (h' hc)
theorem Ev.bind1 {α β : Type} {x : α} {f : Nat → α → Option β} {r : β} (k : Ev (fun n => f n x) r) : Ev (fun n => (some x).bind (f n)) r := k
theorem _root_.Go.Proofs.YtccjheikjcpgmaaW.PrintWords.Ev.to {α : Type} {g : Nat → Option α} {r s : α} (h : Ev g r) (e : r = s) : Ev g s := e ▸ h
theorem w64 {x : Int} (h1 : -9223372036854775808 ≤ x) (h2 : x ≤ 9223372036854775807) : wrap64 x = x := by unfold wrap64; omega
theorem w64s {i n : Nat} (h : i < n) (hn : n ≤ 9223372036854775807) : wrap64 ((i : Int) + 1) = ((i + 1 : Nat) : Int) := by unfold wrap64; omega
def gd (l : List Int) (i : Nat) : Int := l.getD i 0
theorem rdn (xs : List Int) (i : Nat) : rd xs (i : Int) = gd xs i := by simp [rd, gd]
theorem gd_lt {xs : List Int} {i : Nat} (h : i < xs.length) : gd xs i = xs[i] := by simp [gd, List.getD, h]
theorem ext_gd {a b : List Int} (h : a.length = b.length) (e : ∀ i, i < a.length → gd a i = gd b i) : a = b := by
 apply List.ext_getElem h
 intro i h1 h2
 have := e i h1
 rwa [gd_lt h1, gd_lt h2] at this
theorem take_snoc (l : List Int) {i : Nat} (h : i < l.length) : l.take i ++ [gd l i] = l.take (i + 1) := by
 rw [gd_lt h, List.take_append_getElem]
theorem _root_.Go.Proofs.YtccjheikjcpgmaaW.PrintWords.Ev.and {α β : Type} {g : Nat → Option α} {f : Nat → Option β} {r : α} {s : β} (h : Ev g r) (h' : Ev f s) : ∃ K, ∀ k, K ≤ k → g k = some r ∧ f k = some s := by
 obtain ⟨K, h⟩ := h
 obtain ⟨K', h'⟩ := h'
 exact ⟨max K K', fun k hk => ⟨h k (by omega), h' k (by omega)⟩⟩
def Evs (P : Nat → Prop) : Prop := ∃ K, ∀ k, K ≤ k → P k
theorem Evs.of {α : Type} {g : Nat → Option α} {r : α} (h : Ev g r) : Evs (fun k => g k = some r) := h
theorem Evs.and {P Q : Nat → Prop} (h : Evs P) (h' : Evs Q) : Evs (fun k => P k ∧ Q k) := by
 obtain ⟨K, h⟩ := h
 obtain ⟨K', h'⟩ := h'
 exact ⟨max K K', fun k hk => ⟨h k (by omega), h' k (by omega)⟩⟩
theorem Evs.true {P : Prop} (h : P) : Evs (fun _ => P) := ⟨0, fun _ _ => h⟩
theorem Evs.ex {P : Nat → Prop} (h : Evs P) : ∃ k, P k := by
 obtain ⟨K, h⟩ := h
 exact ⟨K, h K (Nat.le_refl _)⟩
theorem drop_cons {α : Type} (l : List α) (z : α) {i : Nat} (h : i < l.length) : l.drop i = l.getD i z :: l.drop (i + 1) := by
 rw [List.drop_eq_getElem_cons h]
 simp [List.getD, h]
theorem all_loop {α : Type} (l : List α) (z : α) (p : α → Bool) (L : Nat → Int → Option Bool) (hend : Ev (fun k => L k (l.length : Int)) true)
  (hT : ∀ (i : Nat) (r : Bool), i < l.length → p (l.getD i z) = true → Ev (fun k => L k ((i + 1 : Nat) : Int)) r → Ev (fun k => L k (i : Int)) r)
  (hF : ∀ i : Nat, i < l.length → p (l.getD i z) = false → Ev (fun k => L k (i : Int)) false) : ∀ (d i : Nat), i + d = l.length → Ev (fun k => L k (i : Int)) ((l.drop i).all p) := by
 intro d
 induction d with
 | zero =>
  intro i hi
  have : i = l.length := by omega
  subst this
  simpa using hend
 | succ d ih =>
  intro i hi
  rw [drop_cons l z (by omega), List.all_cons]
  cases hp : p (l.getD i z) with
  | true => simpa using hT i _ (by omega) hp (ih (i + 1) (by omega))
  | false => simpa using hF i (by omega) hp
theorem map_loop {α β γ : Type} (l : List α) (z : α) (f : α → β) (L : Nat → List β → Int → Option γ) (fin : γ) (hend : Ev (fun k => L k (l.map f) (l.length : Int)) fin)
  (hstep : ∀ (i : Nat) (out : List β), i < l.length → out.length = i → Ev (fun k => L k (out ++ [f (l.getD i z)]) ((i + 1 : Nat) : Int)) fin → Ev (fun k => L k out (i : Int)) fin) :
  ∀ (d i : Nat), i + d = l.length → Ev (fun k => L k ((l.take i).map f) (i : Int)) fin := by
 intro d
 induction d with
 | zero =>
  intro i hi
  have : i = l.length := by omega
  subst this
  simpa using hend
 | succ d ih =>
  intro i hi
  refine hstep i _ (by omega) (by simp; omega) ?_
  have := ih (i + 1) (by omega)
  rw [List.take_succ_eq_append_getElem (by omega), List.map_append] at this
  simpa [List.getD, show i < l.length by omega] using this
theorem set_loop {α β γ : Type} (l : List α) (z : α) (f : α → β) (L : Nat → List β → Int → Option γ) (fin : γ) (hend : Ev (fun k => L k (l.map f) (l.length : Int)) fin)
  (hstep : ∀ (i : Nat) (out : List β), i < l.length → out.length = l.length → Ev (fun k => L k (out.set i (f (l.getD i z))) ((i + 1 : Nat) : Int)) fin → Ev (fun k => L k out (i : Int)) fin) :
  ∀ (d i : Nat) (out : List β), i + d = l.length → out.length = l.length → (∀ j, j < i → out[j]? = (l.map f)[j]?) → Ev (fun k => L k out (i : Int)) fin := by
 intro d
 induction d with
 | zero =>
  intro i out hi ho h
  have : i = l.length := by omega
  subst this
  have : out = l.map f := by
   apply List.ext_getElem?
   intro j
   rcases Nat.lt_or_ge j l.length with h1 | h1
   ·exact h j h1
   ·rw [List.getElem?_eq_none (by omega), List.getElem?_eq_none (by simpa using h1)]
  rw [this]
  exact hend
 | succ d ih =>
  intro i out hi ho h
  refine hstep i out (by omega) ho (ih (i + 1) _ (by omega) (by simpa using ho) (fun j hj => ?_))
  rw [List.getElem?_set]
  by_cases e : i = j
  ·subst e
   rw [if_pos rfl, if_pos (by omega)]
   simp [List.getD, show i < l.length by omega]
  ·rw [if_neg e]
   exact h j (by omega)
def sizeB (n : Int) : Bool := decide (1 ≤ n ∧ n ≤ 8)
theorem impl_isSize_eq (n : Int) : impl_isSize.f n = some (sizeB n) := by
 unfold impl_isSize.f sizeB
 split
 ·congr 1; simp; omega
 ·congr 1; simp; omega
theorem spec_l1In_eq (a b c : Int) : spec_l1In.f a b c = some (decide (b ≤ a ∧ a ≤ c)) := by
 unfold spec_l1In.f
 split
 ·congr 1; simp; omega
 ·congr 1; simp; omega
theorem asc_at {n i : Nat} (a : Int) (h : i < n) : gd (asc n a) i = a + i := by simp [asc, gd, List.getD, h]
theorem toIntS_loop (l : List Int) (hl : l.length ≤ 35184372088832) : ∀ (d i : Nat) (x : List Int), i + d = l.length → x.length = l.length → (∀ j, j < i → gd x j = gd l j) → Ev (fun k => laws_toIntS.l0 k l x (i : Int)) l := by
 intro d
 induction d with
 | zero =>
  intro i x hi hx h
  refine Ev.step (fun _ => laws_toIntS.l0.eq_2 ..) ?_
  refine Ev.neg (by omega) ?_
  have : x = l := by
   apply List.ext_getElem hx
   intro j h1 h2
   have := h j (by omega)
   simpa [gd, List.getD, h1, h2] using this
  subst this
  exact Ev.now _
 | succ d ih =>
  intro i x hi hx h
  refine Ev.step (fun _ => laws_toIntS.l0.eq_2 ..) ?_
  refine Ev.pos (by omega) ?_
  refine Ev.pos (by omega) ?_
  refine Ev.pos (by omega) ?_
  rw [w64s (n := l.length) (by omega) (by omega), rdn, Int.toNat_natCast]
  refine ih (i + 1) _ (by omega) (by simpa using hx) ?_
  intro j hj
  by_cases e : j = i
  ·subst e
   simp [gd, List.getD, show j < x.length by omega]
  ·have := h j (by omega)
   simp only [gd, List.getD] at this ⊢
   rw [List.getElem?_set_ne (by omega)]
   exact this
theorem toIntS_ev (l : List Int) (hl : l.length ≤ 35184372088832) : Ev (fun k => laws_toIntS.f k l) l := by
 unfold laws_toIntS.f
 refine Ev.pos (by omega) ?_
 refine Ev.pos (by omega) ?_
 exact toIntS_loop l hl l.length 0 _ (by omega) (by simp) (fun j hj => by omega)
theorem eqIntS_loop (a b : List Int) (hb : b.length = a.length) (hl : a.length ≤ 35184372088832) : ∀ (d i : Nat), i + d = a.length → Ev (fun k => laws_eqIntS.l0 k a b (i : Int)) (decide (a.drop i = b.drop i)) := by
 intro d
 induction d with
 | zero =>
  intro i hi
  refine Ev.step (fun _ => laws_eqIntS.l0.eq_2 ..) ?_
  refine Ev.neg (by omega) ?_
  refine (Ev.now _).to ?_
  rw [List.drop_of_length_le (by omega), List.drop_of_length_le (by omega)]
  simp
 | succ d ih =>
  intro i hi
  refine Ev.step (fun _ => laws_eqIntS.l0.eq_2 ..) ?_
  refine Ev.pos (by omega) ?_
  refine Ev.pos (by omega) ?_
  refine Ev.pos (by omega) ?_
  rw [w64s (n := a.length) (by omega) (by omega), rdn, rdn]
  have e1 : a.drop i = gd a i :: a.drop (i + 1) := by rw [gd_lt (by omega)]; exact List.drop_eq_getElem_cons (by omega)
  have e2 : b.drop i = gd b i :: b.drop (i + 1) := by rw [gd_lt (by omega)]; exact List.drop_eq_getElem_cons (by omega)
  refine Ev.ite (fun h => ?_) (fun h => ?_)
  ·refine (ih (i + 1) (by omega)).to ?_
   rw [e1, e2, h]
   simp
  ·refine (Ev.now _).to ?_
   rw [e1, e2]
   simp [h]
theorem eqIntS_ev (a b : List Int) (hl : a.length ≤ 35184372088832) : Ev (fun k => laws_eqIntS.f k a b) (decide (a = b)) := by
 unfold laws_eqIntS.f
 refine Ev.ite (fun h => ?_) (fun h => ?_)
 ·exact eqIntS_loop a b (by omega) hl a.length 0 (by omega)
 ·refine (Ev.now _).to ?_
  have : a ≠ b := fun e => h (by rw [e])
  simp [this]
theorem eqIntS_same (a : List Int) (hl : a.length ≤ 35184372088832) : Ev (fun k => laws_eqIntS.f k a a) true := (eqIntS_ev a a hl).to (by simp)
def inB (n x : Int) : Bool := decide (0 ≤ x ∧ x < n)
def powI (n k : Int) : Int := n ^ k.toNat
def opB (n a : Int) (l : List Int) : Bool := decide (0 ≤ a ∧ a ≤ 3) && (decide ((l.length : Int) = powI n a) && l.all (inB n))
theorem impl_power_ev (n k : Int) (hn : 1 ≤ n ∧ n ≤ 8) (hk : 0 ≤ k ∧ k ≤ 3) : Ev (fun f => impl_power.f f n k) (powI n k) := by
 have h1 : n = 1 ∨ n = 2 ∨ n = 3 ∨ n = 4 ∨ n = 5 ∨ n = 6 ∨ n = 7 ∨ n = 8 := by omega
 have h2 : k = 0 ∨ k = 1 ∨ k = 2 ∨ k = 3 := by omega
 refine Ev.of (fun f => impl_power.mono n k f) (k := 5) ?_
 rcases h1 with rfl | rfl | rfl | rfl | rfl | rfl | rfl | rfl <;> rcases h2 with rfl | rfl | rfl | rfl <;> decide +kernel
theorem spec_l2Pow_ev (n k : Int) (hn : 1 ≤ n ∧ n ≤ 8) (hk : 0 ≤ k ∧ k ≤ 3) : Ev (fun f => spec_l2Pow.f f n k) (powI n k) := by
 have h1 : n = 1 ∨ n = 2 ∨ n = 3 ∨ n = 4 ∨ n = 5 ∨ n = 6 ∨ n = 7 ∨ n = 8 := by omega
 have h2 : k = 0 ∨ k = 1 ∨ k = 2 ∨ k = 3 := by omega
 refine Ev.of (fun f => spec_l2Pow.mono n k f) (k := 5) ?_
 rcases h1 with rfl | rfl | rfl | rfl | rfl | rfl | rfl | rfl <;> rcases h2 with rfl | rfl | rfl | rfl <;> decide +kernel
theorem impl_inSize_ev (l : List Int) (n : Int) (hl : l.length ≤ 35184372088832) : Ev (fun k => impl_inSize.f k l n) (l.all (inB n)) := by
 unfold impl_inSize.f
 refine all_loop l 0 (inB n) (fun k i => impl_inSize.l0 k n l (l.length : Int) i) ?_ ?_ ?_ l.length 0 (by omega)
 ·exact Ev.step (fun _ => impl_inSize.l0.eq_2 ..) (Ev.neg (by omega) (Ev.now _))
 ·intro i r hi hp h
  have hp' := of_decide_eq_true hp
  refine Ev.step (fun _ => impl_inSize.l0.eq_2 ..) ?_
  rw [w64s (n := l.length) (by omega) (by omega), rdn]
  change 0 ≤ gd l i ∧ gd l i < n at hp'
  exact Ev.pos (by omega) (Ev.pos (by omega) (Ev.pos (by omega) (Ev.neg (by omega) (Ev.neg (by omega) h))))
 ·intro i hi hp
  have hp' := of_decide_eq_false hp
  change ¬ (0 ≤ gd l i ∧ gd l i < n) at hp'
  refine Ev.step (fun _ => impl_inSize.l0.eq_2 ..) ?_
  rw [rdn]
  refine Ev.pos (by omega) (Ev.pos (by omega) (Ev.pos (by omega) (Ev.ite (fun _ => Ev.now _) (fun h1 => Ev.pos (by omega) (Ev.now _)))))
theorem impl_isOp_ev (n a : Int) (l : List Int) (hn : sizeB n = true) (hl : l.length ≤ 35184372088832) : Ev (fun k => impl_isOp.f k a l n) (opB n a l) := by
 have hn' := of_decide_eq_true hn
 unfold impl_isOp.f opB
 refine Ev.ite (fun h1 => Ev.ite (fun h2 => ?_) (fun h2 => (Ev.now _).to ?_)) (fun h1 => (Ev.now _).to ?_)
 ·refine (impl_power_ev n a hn' ⟨by omega, by omega⟩).bind (Ev.ite (fun h3 => ?_) (fun h3 => (Ev.now _).to ?_))
  ·refine (impl_inSize_ev l n hl).bind ((Ev.now _).to ?_)
   rw [decide_eq_true (show 0 ≤ a ∧ a ≤ 3 by omega), decide_eq_true h3]
   simp
  ·rw [decide_eq_false h3]
   simp
 ·rw [decide_eq_false (show ¬ (0 ≤ a ∧ a ≤ 3) by omega)]
  simp
 ·rw [decide_eq_false (show ¬ (0 ≤ a ∧ a ≤ 3) by omega)]
  simp
theorem spec_l2Op_ev (n a : Int) (l : List Int) (hn : sizeB n = true) (hl : l.length ≤ 35184372088832) : Ev (fun k => spec_l2Op.f k n a l) (opB n a l) := by
 have hn' := of_decide_eq_true hn
 have loop : Ev (fun k => spec_l2Op.l0 k n 0 a l) (l.all (inB n)) := by
  refine all_loop l 0 (inB n) (fun k i => spec_l2Op.l0 k n i a l) ?_ ?_ ?_ l.length 0 (by omega)
  ·exact Ev.step (fun _ => spec_l2Op.l0.eq_2 ..) (Ev.neg (by omega) (Ev.now _))
  ·intro i r hi hp h
   have hp' := of_decide_eq_true hp
   change 0 ≤ gd l i ∧ gd l i < n at hp'
   refine Ev.step (fun _ => spec_l2Op.l0.eq_2 ..) ?_
   rw [w64s (n := l.length) (by omega) (by omega), rdn, spec_l1In_eq, w64 (by omega) (by omega)]
   refine Ev.pos (by omega) (Ev.pos (by omega) (Ev.bind1 (Ev.pos (decide_eq_true (by omega)) h)))
  ·intro i hi hp
   have hp' := of_decide_eq_false hp
   change ¬ (0 ≤ gd l i ∧ gd l i < n) at hp'
   refine Ev.step (fun _ => spec_l2Op.l0.eq_2 ..) ?_
   rw [rdn, spec_l1In_eq, w64 (by omega) (by omega)]
   refine Ev.pos (by omega) (Ev.pos (by omega) (Ev.bind1 (Ev.neg (by rw [decide_eq_true_eq]; omega) (Ev.now _))))
 unfold spec_l2Op.f opB
 rw [spec_l1In_eq]
 refine Ev.bind1 (Ev.ite (fun h1 => ?_) (fun h1 => ?_))
 ·have h1' := of_decide_eq_true h1
  refine (spec_l2Pow_ev n a hn' h1').bind ?_
  refine Ev.step (fun _ => spec_l2Op.j0.eq_2 ..) (Ev.ite (fun h2 => (Ev.now _).to ?_) (fun h2 => loop.to ?_))
  ·have : ¬ ((l.length : Int) = powI n a) := by simpa using h2
   simp [this]
  ·have : (l.length : Int) = powI n a := by simpa using h2
   rw [decide_eq_true h1', decide_eq_true this]
   simp
 ·refine Ev.step (fun _ => spec_l2Op.j0.eq_2 ..) (Ev.pos rfl ((Ev.now _).to ?_))
  simp at h1 ⊢
  omega
def argsM (n : Int) : Nat → Int → List Int
 | 0, _ => []
 | k + 1, i => argsM n k (i / n) ++ [i % n]
def valM (n : Int) (l : List Int) : Int := l.foldl (fun at_ x => at_ * n + x) 0
theorem argsM_length (n : Int) : ∀ (k : Nat) (i : Int), (argsM n k i).length = k := by
 intro k
 induction k with
 | zero => intro i; rfl
 | succ k ih => intro i; simp [argsM, ih]
theorem argsM_in {n : Int} (hn : 1 ≤ n) : ∀ (k : Nat) (i : Int), 0 ≤ i → ∀ x ∈ argsM n k i, 0 ≤ x ∧ x < n := by
 intro k
 induction k with
 | zero => intro i _ x hx; simp [argsM] at hx
 | succ k ih =>
  intro i hi x hx
  simp only [argsM, List.mem_append, List.mem_singleton] at hx
  rcases hx with hx | rfl
  ·exact ih _ (Int.ediv_nonneg hi (by omega)) x hx
  ·exact ⟨Int.emod_nonneg _ (by omega), Int.emod_lt_of_pos _ (by omega)⟩
theorem valM_snoc (n : Int) (l : List Int) (x : Int) : valM n (l ++ [x]) = valM n l * n + x := by simp [valM]
theorem rev_ind {α : Type} {P : List α → Prop} (h0 : P []) (h1 : ∀ l x, P l → P (l ++ [x])) (l : List α) : P l := by
 have key : ∀ (n : Nat) (l : List α), l.length = n → P l := by
  intro n
  induction n with
  | zero =>
   intro l hl
   have : l = [] := List.eq_nil_of_length_eq_zero hl
   subst this
   exact h0
  | succ n ih =>
   intro l hl
   have hne : l ≠ [] := fun h => by subst h; simp at hl
   rw [← List.dropLast_concat_getLast hne]
   exact h1 _ _ (ih _ (by simp [hl]))
 exact key l.length l rfl
theorem valM_in {n : Int} (hn : 1 ≤ n) (l : List Int) : (∀ x ∈ l, 0 ≤ x ∧ x < n) → 0 ≤ valM n l ∧ valM n l < n ^ l.length := by
 induction l using rev_ind with
 | h0 => intro _; simp [valM]
 | h1 l x ih =>
  intro h
  obtain ⟨h1, h2⟩ := ih (fun y hy => h y (by simp [hy]))
  obtain ⟨h3, h4⟩ := h x (by simp)
  rw [valM_snoc, List.length_append, List.length_singleton, Int.pow_succ]
  have h5 : 0 ≤ valM n l * n := Int.mul_nonneg h1 (by omega)
  have h6 : (valM n l + 1) * n ≤ n ^ l.length * n := Int.mul_le_mul_of_nonneg_right (by omega) (by omega)
  rw [Int.add_mul] at h6
  omega
theorem div_in {i n : Int} (h0 : 0 ≤ i) (hi : i ≤ 1152921504606846976) (hn : 1 ≤ n) : wrap64 (Int.tdiv i n) = i / n ∧ 0 ≤ i / n ∧ i / n ≤ i := by
 have h1 : Int.tdiv i n = i / n := Int.tdiv_eq_ediv_of_nonneg h0
 have h2 : 0 ≤ i / n := Int.ediv_nonneg h0 (by omega)
 have h3 : i / n ≤ i := Int.ediv_le_self n h0
 exact ⟨by rw [h1, w64 (by omega) (by omega)], h2, h3⟩
theorem impl_argsAt_loop (n : Int) (hn : 1 ≤ n) (k : Nat) (hk : k ≤ 8796093022208) : ∀ (j : Nat) (i : Int) (x : List Int), j ≤ k → x.length = k → 0 ≤ i → i ≤ 1152921504606846976 → Ev (fun f => impl_argsAt.l0 f i n x ((j : Int) - 1)) (argsM n j i ++ x.drop j) := by
 intro j
 induction j with
 | zero =>
  intro i x _ _ _ _
  exact Ev.step (fun _ => impl_argsAt.l0.eq_2 ..) (Ev.neg (by omega) (Ev.now _))
 | succ j ih =>
  intro i x hj hx h0 hi
  obtain ⟨e1, e2, e3⟩ := div_in h0 hi hn
  refine Ev.step (fun _ => impl_argsAt.l0.eq_2 ..) (Ev.pos (by omega) (Ev.neg (by omega) (Ev.pos (by omega) (Ev.pos (by omega) ?_))))
  rw [e1, Int.tmod_eq_emod_of_nonneg h0, show (((j + 1 : Nat) : Int) - 1).toNat = j by omega, w64 (x := ((j + 1 : Nat) : Int) - 1 - 1) (by omega) (by omega), show (((j + 1 : Nat) : Int) - 1 - 1) = (j : Int) - 1 by omega]
  refine (ih (i / n) (x.set j (i % n)) (by omega) (by simpa using hx) e2 (by omega)).to ?_
  rw [argsM, List.append_assoc]
  congr 1
  rw [List.drop_eq_getElem_cons (by simp; omega), List.drop_set_of_lt (by omega)]
  simp
theorem impl_argsAt_ev (n : Int) (k : Nat) (i : Int) (hn : 1 ≤ n) (hk : k ≤ 3) (h0 : 0 ≤ i) (hi : i ≤ 1152921504606846976) : Ev (fun f => impl_argsAt.f f i (k : Int) n) (argsM n k i) := by
 unfold impl_argsAt.f
 refine Ev.pos (by omega) (Ev.pos (by omega) ?_)
 rw [w64 (by omega) (by omega)]
 exact (impl_argsAt_loop n hn k (by omega) k i _ (Nat.le_refl _) (by simp) h0 hi).to (by simp)
theorem spec_l2Args_loop (n : Int) (hn : 1 ≤ n) (k : Nat) (hk : k ≤ 8796093022208) : ∀ (j : Nat) (i : Int) (x : List Int), j ≤ k → x.length = k → 0 ≤ i → i ≤ 1152921504606846976 → Ev (fun f => spec_l2Args.l0 f n i x ((j : Int) - 1)) (argsM n j i ++ x.drop j) := by
 intro j
 induction j with
 | zero =>
  intro i x _ _ _ _
  exact Ev.step (fun _ => spec_l2Args.l0.eq_2 ..) (Ev.neg (by omega) (Ev.now _))
 | succ j ih =>
  intro i x hj hx h0 hi
  obtain ⟨e1, e2, e3⟩ := div_in h0 hi hn
  refine Ev.step (fun _ => spec_l2Args.l0.eq_2 ..) (Ev.pos (by omega) (Ev.neg (by omega) (Ev.pos (by omega) (Ev.pos (by omega) ?_))))
  rw [e1, Int.tmod_eq_emod_of_nonneg h0, show (((j + 1 : Nat) : Int) - 1).toNat = j by omega, w64 (x := ((j + 1 : Nat) : Int) - 1 - 1) (by omega) (by omega), show (((j + 1 : Nat) : Int) - 1 - 1) = (j : Int) - 1 by omega]
  refine (ih (i / n) (x.set j (i % n)) (by omega) (by simpa using hx) e2 (by omega)).to ?_
  rw [argsM, List.append_assoc]
  congr 1
  rw [List.drop_eq_getElem_cons (by simp; omega), List.drop_set_of_lt (by omega)]
  simp
theorem spec_l2Args_ev (n : Int) (k : Nat) (i : Int) (hn : 1 ≤ n) (hk : k ≤ 3) (h0 : 0 ≤ i) (hi : i ≤ 1152921504606846976) : Ev (fun f => spec_l2Args.f f n (k : Int) i) (argsM n k i) := by
 unfold spec_l2Args.f
 refine Ev.pos (by omega) (Ev.pos (by omega) ?_)
 rw [w64 (by omega) (by omega)]
 exact (spec_l2Args_loop n hn k (by omega) k i _ (Nat.le_refl _) (by simp) h0 hi).to (by simp)
theorem grow_in {n a x : Int} (hn : 1 ≤ n ∧ n ≤ 8) (ha : 0 ≤ a ∧ a ≤ 1048576) (hx : 0 ≤ x ∧ x < n) : wrap64 (wrap64 (a * n) + x) = a * n + x := by
 have h1 : 0 ≤ a * n := Int.mul_nonneg ha.1 (by omega)
 have h2 : a * n ≤ 1048576 * 8 := Int.mul_le_mul ha.2 hn.2 (by omega) (by omega)
 rw [w64 (x := a * n) (by omega) (by omega), w64 (by omega) (by omega)]
theorem pow_le3 {n : Int} (hn : 1 ≤ n ∧ n ≤ 8) {k : Nat} (hk : k ≤ 3) : n ^ k ≤ 512 := by
 have h1 : n = 1 ∨ n = 2 ∨ n = 3 ∨ n = 4 ∨ n = 5 ∨ n = 6 ∨ n = 7 ∨ n = 8 := by omega
 have h2 : k = 0 ∨ k = 1 ∨ k = 2 ∨ k = 3 := by omega
 rcases h1 with rfl | rfl | rfl | rfl | rfl | rfl | rfl | rfl <;> rcases h2 with rfl | rfl | rfl | rfl <;> decide
theorem impl_indexOf_loop (n : Int) (args : List Int) (hn : 1 ≤ n ∧ n ≤ 8) (ha : ∀ x ∈ args, 0 ≤ x ∧ x < n) (hl : args.length ≤ 3) : ∀ (d i : Nat), i + d = args.length → Ev (fun k => impl_indexOf.l0 k n (valM n (args.take i)) args (args.length : Int) (i : Int)) (valM n args) := by
 intro d
 induction d with
 | zero =>
  intro i hi
  refine Ev.step (fun _ => impl_indexOf.l0.eq_2 ..) (Ev.neg (by omega) ?_)
  rw [List.take_of_length_le (by omega)]
  exact Ev.now _
 | succ d ih =>
  intro i hi
  have hx := ha (gd args i) (by rw [gd_lt (by omega)]; exact List.getElem_mem _)
  have hvi := valM_in hn.1 (args.take i) (fun x h => ha x (List.mem_of_mem_take h))
  have h512 := pow_le3 hn (k := (args.take i).length) (by simp; omega)
  refine Ev.step (fun _ => impl_indexOf.l0.eq_2 ..) (Ev.pos (by omega) (Ev.pos (by omega) (Ev.pos (by omega) ?_)))
  rw [rdn, grow_in hn ⟨hvi.1, by omega⟩ hx, w64s (n := args.length) (by omega) (by omega), ← valM_snoc, take_snoc _ (by omega)]
  exact ih (i + 1) (by omega)
theorem impl_indexOf_ev (n : Int) (args : List Int) (hn : 1 ≤ n ∧ n ≤ 8) (ha : ∀ x ∈ args, 0 ≤ x ∧ x < n) (hl : args.length ≤ 3) : Ev (fun k => impl_indexOf.f k args n) (valM n args) := by
 unfold impl_indexOf.f
 exact impl_indexOf_loop n args hn ha hl args.length 0 (by omega)
theorem opB_of {n a : Int} {l : List Int} (h : opB n a l = true) : ∃ k : Nat, a = k ∧ k ≤ 3 ∧ (l.length : Int) = n ^ k ∧ ∀ x ∈ l, 0 ≤ x ∧ x < n := by
 simp only [opB, Bool.and_eq_true, decide_eq_true_eq, List.all_eq_true, inB] at h
 refine ⟨a.toNat, by omega, by omega, h.2.1, h.2.2⟩
theorem laws_szIntS_eq (l : List Int) (t : Int) (hl : l.length ≤ maxLen) (ht : 0 ≤ t ∧ t ≤ 1048576) : ∃ r, laws_szIntS.f l t = some r ∧ -1 ≤ r ∧ (0 ≤ r → r = t - l.length) ∧ (r < 0 → t < (l.length : Int)) := by
 unfold maxLen at hl
 unfold laws_szIntS.f
 rw [w64 (by omega) (by omega)]
 split
 ·exact ⟨-1, rfl, by omega, by omega, by omega⟩
 ·exact ⟨_, rfl, by omega, by omega, by omega⟩
theorem laws_szOp_eq (a : Int) (l : List Int) (t : Int) (hl : l.length ≤ maxLen) (ht : 0 ≤ t ∧ t ≤ 1048576) : ∃ r, laws_szOp.f a l t = some r ∧ -1 ≤ r ∧ (0 ≤ r → r = t - l.length) ∧ (r < 0 → t < (l.length : Int)) := by
 obtain ⟨r, hr, h1, h2, h3⟩ := laws_szIntS_eq l t hl ht
 unfold laws_szOp.f
 rw [hr]
 simp only [Option.bind_some]
 split
 ·exact ⟨-1, rfl, by omega, by omega, fun _ => h3 (by omega)⟩
 ·exact ⟨r, rfl, h1, h2, h3⟩
theorem laws_toOp_ev (a : Int) (l : List Int) (hl : l.length ≤ 35184372088832) : Ev (fun k => laws_toOp.f k a l) (a, l) := by
 unfold laws_toOp.f
 exact (toIntS_ev l hl).bind (Ev.now _)
theorem laws_eqOp_same (a : Int) (l : List Int) (hl : l.length ≤ 35184372088832) : Ev (fun k => laws_eqOp.f k a l a l) true := by
 unfold laws_eqOp.f
 exact Ev.pos rfl ((eqIntS_same l hl).bind (Ev.pos rfl (Ev.now _)))
theorem range_at {N i : Nat} (h : i < N) : (List.range N).getD i 0 = i := by simp [List.getD, h]
theorem powI_nat (n : Int) (k : Nat) : powI n (k : Int) = n ^ k := by simp [powI]
theorem pow_count {n : Int} (hn : 1 ≤ n ∧ n ≤ 8) {k : Nat} (hk : k ≤ 3) : ∃ N : Nat, n ^ k = N ∧ 1 ≤ N ∧ N ≤ 512 := by
 have h1 := pow_le3 hn hk
 have h2 : 0 < n ^ k := Int.pow_pos (by omega)
 exact ⟨(n ^ k).toNat, by omega, by omega, by omega⟩
theorem rdi (l : List Int) {i : Int} (h : 0 ≤ i) : rd l i = gd l i.toNat := by
 obtain ⟨j, rfl⟩ : ∃ j : Nat, i = (j : Int) := ⟨i.toNat, by omega⟩
 rw [rdn, Int.toNat_natCast]
theorem spec_l2Elements_ev (n : Int) (l : List Int) (hn : 1 ≤ n ∧ n ≤ 8) (hl : l.length ≤ 8796093022208) : Ev (fun k => spec_l2Elements.f k n l) (l.all (inB n)) := by
 unfold spec_l2Elements.f
 refine all_loop l 0 (inB n) (fun k i => spec_l2Elements.l0 k n l i) ?_ ?_ ?_ l.length 0 (by omega)
 ·exact Ev.step (fun _ => spec_l2Elements.l0.eq_2 ..) (Ev.neg (by omega) (Ev.now _))
 ·intro i r hi hp h
  have hp' := of_decide_eq_true hp
  change 0 ≤ gd l i ∧ gd l i < n at hp'
  refine Ev.step (fun _ => spec_l2Elements.l0.eq_2 ..) ?_
  rw [w64s (n := l.length) (by omega) (by omega), rdn, spec_l1In_eq, w64 (by omega) (by omega)]
  exact Ev.pos (by omega) (Ev.pos (by omega) (Ev.bind1 (Ev.pos (decide_eq_true (by omega)) h)))
 ·intro i hi hp
  have hp' := of_decide_eq_false hp
  change ¬ (0 ≤ gd l i ∧ gd l i < n) at hp'
  refine Ev.step (fun _ => spec_l2Elements.l0.eq_2 ..) ?_
  rw [rdn, spec_l1In_eq, w64 (by omega) (by omega)]
  exact Ev.pos (by omega) (Ev.pos (by omega) (Ev.bind1 (Ev.neg (by rw [decide_eq_true_eq]; omega) (Ev.now _))))
def projM (n : Int) (k p : Nat) : List Int := (List.range (n ^ k).toNat).map fun j : Nat => gd (argsM n k (j : Int)) p
theorem projM_length (n : Int) (k p : Nat) : (projM n k p).length = (n ^ k).toNat := by simp [projM]
theorem spec_l12Projection_ev (n : Int) (k p : Nat) (hn : 1 ≤ n ∧ n ≤ 8) (hk : k ≤ 3) (hp : p < k) : Ev (fun f => spec_l12Projection.f f n (k : Int) (p : Int)) (projM n k p) := by
 obtain ⟨N, hN, h1, h2⟩ := pow_count hn hk
 unfold spec_l12Projection.f
 have key := map_loop (List.range N) 0 (fun j : Nat => gd (argsM n k (j : Int)) p) (fun f out i => spec_l12Projection.l0 f n (k : Int) (p : Int) out i) (projM n k p) ?_ ?_ N 0 (by simp)
 ·exact key
 ·rw [List.length_range]
  have : projM n k p = (List.range N).map (fun j : Nat => gd (argsM n k (j : Int)) p) := by unfold projM; rw [hN, Int.toNat_natCast]
  rw [this]
  refine Ev.step (fun _ => spec_l12Projection.l0.eq_2 ..) ((spec_l2Pow_ev n k hn ⟨by omega, by omega⟩).bind ?_)
  rw [powI_nat, hN]
  exact Ev.neg (by omega) (Ev.now _)
 ·intro i out hi ho h
  rw [List.length_range] at hi
  rw [range_at hi] at h
  refine Ev.step (fun _ => spec_l12Projection.l0.eq_2 ..) ((spec_l2Pow_ev n k hn ⟨by omega, by omega⟩).bind ?_)
  rw [powI_nat, hN]
  refine Ev.pos (by omega) ((spec_l2Args_ev n k i hn.1 hk (by omega) (by omega)).bind ?_)
  rw [argsM_length, rdn, w64s (n := N) (by omega) (by omega)]
  exact Ev.pos (by omega) (Ev.pos (by omega) (Ev.pos (by omega) h))
theorem acc_loop {γ : Type} (n : Int) (m : Nat) (f : Nat → Int) (L : Nat → Int → Int → Option γ) (r : γ) (hend : Ev (fun k => L k (valM n ((List.range m).map f)) (m : Int)) r)
  (hstep : ∀ (j : Nat) (a : Int), j < m → a = valM n ((List.range j).map f) → Ev (fun k => L k (a * n + f j) ((j + 1 : Nat) : Int)) r → Ev (fun k => L k a (j : Int)) r) :
  ∀ (d j : Nat), j + d = m → Ev (fun k => L k (valM n ((List.range j).map f)) (j : Int)) r := by
 intro d
 induction d with
 | zero =>
  intro j hj
  have : j = m := by omega
  subst this
  exact hend
 | succ d ih =>
  intro j hj
  refine hstep j _ (by omega) rfl ?_
  have := ih (j + 1) (by omega)
  rw [List.range_succ, List.map_append, List.map_cons, List.map_nil, valM_snoc] at this
  exact this
def imgs (f : List Int) (l : List Int) : List Int := l.map fun x => gd f x.toNat
theorem imgs_length (f l : List Int) : (imgs f l).length = l.length := by simp [imgs]
theorem imgs_in {m : Int} {f l : List Int} (hf : ∀ i, i < f.length → 0 ≤ gd f i ∧ gd f i < m) (hl : ∀ x ∈ l, 0 ≤ x ∧ x < (f.length : Int)) : ∀ x ∈ imgs f l, 0 ≤ x ∧ x < m := by
 intro x hx
 obtain ⟨y, hy, rfl⟩ := List.mem_map.1 hx
 exact hf _ (by have := hl y hy; omega)
theorem imgs_at (f l : List Int) {i : Nat} (h : i < l.length) : gd (imgs f l) i = gd f (gd l i).toNat := by
 rw [gd_lt (by rw [imgs_length]; exact h), gd_lt h]
 simp [imgs]
theorem impl_compose_ev (l f : List Int) (hl : l.length ≤ 1048576) (hin : ∀ x ∈ l, 0 ≤ x ∧ x < (f.length : Int)) : Ev (fun k => impl_compose.f k l f) (imgs f l) := by
 unfold impl_compose.f
 refine Ev.pos (by omega) (Ev.pos (by omega) ?_)
 refine set_loop l 0 (fun x => gd f x.toNat) (fun k out i => impl_compose.l0 k f out l (l.length : Int) i) (imgs f l) ?_ ?_ l.length 0 _ (by omega) (by simp) (fun j hj => by omega)
 ·exact Ev.step (fun _ => impl_compose.l0.eq_2 ..) (Ev.neg (by omega) (Ev.now _))
 ·intro i out hi ho h
  have hx := hin (gd l i) (by rw [gd_lt hi]; exact List.getElem_mem hi)
  change Ev (fun k => impl_compose.l0 k f (out.set i (gd f (gd l i).toNat)) l (l.length : Int) ((i + 1 : Nat) : Int)) _ at h
  refine Ev.step (fun _ => impl_compose.l0.eq_2 ..) ?_
  rw [rdn, rdi f hx.1, w64s (n := l.length) (by omega) (by omega), Int.toNat_natCast]
  exact Ev.pos (by omega) (Ev.pos (by omega) (Ev.pos (by omega) (Ev.pos hx.1 (Ev.pos hx.2 (Ev.pos (by omega) h)))))
theorem markIntS_loop (l : List Int) (a : Int) (ha : 0 ≤ a) (hb : a + l.length ≤ 4611686018427387904) : ∀ (d i : Nat) (x : List Int), i + d = l.length → x.length = l.length → (∀ j, j < i → gd x j = a + j) → Ev (fun k => laws_markIntS.l0 k x (a + i) (i : Int)) (a + l.length, asc l.length a) := by
 intro d
 induction d with
 | zero =>
  intro i x hi hx h
  refine Ev.step (fun _ => laws_markIntS.l0.eq_2 ..) ?_
  refine Ev.neg (by omega) ?_
  have : x = asc l.length a := by
   apply List.ext_getElem (by simp [asc_length, hx])
   intro j h1 h2
   have e := h j (by omega)
   rw [← gd_lt h1, ← gd_lt h2, e, asc_at a (by omega)]
  subst this
  have : i = l.length := by omega
  subst this
  exact Ev.now _
 | succ d ih =>
  intro i x hi hx h
  refine Ev.step (fun _ => laws_markIntS.l0.eq_2 ..) ?_
  refine Ev.pos (by omega) ?_
  refine Ev.pos (by omega) ?_
  rw [w64s (n := l.length) (by omega) (by omega), w64 (by omega) (by omega), Int.toNat_natCast, show a + (i : Int) + 1 = a + ((i + 1 : Nat) : Int) by omega]
  refine ih (i + 1) _ (by omega) (by simpa using hx) ?_
  intro j hj
  by_cases e : j = i
  ·subst e
   simp [gd, List.getD, show j < x.length by omega]
  ·have := h j (by omega)
   simp only [gd, List.getD] at this ⊢
   rw [List.getElem?_set_ne (by omega)]
   exact this
theorem markIntS_ev (l : List Int) (a : Int) (ha : 0 ≤ a) (hb : a + l.length ≤ 4611686018427387904) : Ev (fun k => laws_markIntS.f k l a) (a + l.length, asc l.length a) := by
 unfold laws_markIntS.f
 have := markIntS_loop l a ha hb l.length 0 l (by omega) rfl (fun j hj => by omega)
 simpa using this
theorem heldIntS_loop (n : Nat) (a : Int) (ha : 0 ≤ a) (hb : a + n ≤ 4611686018427387904) : ∀ (d i : Nat), i + d = n → Ev (fun k => laws_heldIntS.l0 k (asc n a) (a + i) (i : Int)) (a + n) := by
 intro d
 induction d with
 | zero =>
  intro i hi
  refine Ev.step (fun _ => laws_heldIntS.l0.eq_2 ..) ?_
  refine Ev.neg (by rw [asc_length]; omega) ?_
  have : i = n := by omega
  subst this
  exact Ev.now _
 | succ d ih =>
  intro i hi
  refine Ev.step (fun _ => laws_heldIntS.l0.eq_2 ..) ?_
  refine Ev.pos (by rw [asc_length]; omega) ?_
  refine Ev.pos (by omega) ?_
  refine Ev.pos (by rw [rdn, asc_at a (by omega)]) ?_
  rw [w64s (n := n) (by omega) (by omega), w64 (by omega) (by omega), show a + (i : Int) + 1 = a + ((i + 1 : Nat) : Int) by omega]
  exact ih (i + 1) (by omega)
theorem heldIntS_ev (n : Nat) (a : Int) (ha : 0 ≤ a) (hb : a + n ≤ 4611686018427387904) : Ev (fun k => laws_heldIntS.f k (asc n a) a) (a + n) := by
 unfold laws_heldIntS.f
 have := heldIntS_loop n a ha hb n 0 (by omega)
 simpa using this
theorem rdLL (xs : List (List Int)) (i : Nat) : rd_L1 xs (i : Int) = xs.getD i [] := by simp [rd_L1]
def minT (n : Int) (t places : List Int) (k : Nat) : List Int := (List.range (n ^ k).toNat).map fun (i : Nat) => gd t (valM n (imgs (argsM n k (i : Int)) places)).toNat
structure MinOk (n : Int) (t places : List Int) (r k : Nat) : Prop where
 n1 : 1 ≤ n
 n8 : n ≤ 8
 r3 : r ≤ 3
 k1 : 1 ≤ k
 k3 : k ≤ 3
 tl : (t.length : Int) = n ^ r
 ti : ∀ x ∈ t, 0 ≤ x ∧ x < n
 pl : places.length = r
 pi : ∀ x ∈ places, 0 ≤ x ∧ x < (k : Int)
theorem min_at {n : Int} {t places : List Int} {r k : Nat} (h : MinOk n t places r k) (i : Nat) : (∀ x ∈ places, 0 ≤ x ∧ x < ((argsM n k (i : Int)).length : Int)) ∧ (∀ x ∈ imgs (argsM n k (i : Int)) places, 0 ≤ x ∧ x < n) ∧ 0 ≤ valM n (imgs (argsM n k (i : Int)) places) ∧ valM n (imgs (argsM n k (i : Int)) places) < (t.length : Int) := by
 have h1 : ∀ x ∈ places, 0 ≤ x ∧ x < ((argsM n k (i : Int)).length : Int) := fun x hx => by rw [argsM_length]; exact h.pi x hx
 have h2 : ∀ x ∈ imgs (argsM n k (i : Int)) places, 0 ≤ x ∧ x < n := imgs_in (fun j hj => by
  rw [gd_lt hj]
  exact argsM_in h.n1 k (i : Int) (by omega) _ (List.getElem_mem _)) h1
 have hv := valM_in h.n1 _ h2
 rw [imgs_length, h.pl, ← h.tl] at hv
 exact ⟨h1, h2, hv.1, hv.2⟩
theorem impl_minor_ev {n a : Int} {t places : List Int} {r k : Nat} (h : MinOk n t places r k) : Ev (fun g => impl_minor.f g n a t places (k : Int)) ((k : Int), minT n t places k) := by
 have hk := h.k3
 have hpow := pow_le3 ⟨h.n1, h.n8⟩ hk
 have hN : 0 < n ^ k := Int.pow_pos (by have := h.n1; omega)
 have hpl := h.pl
 have hr := h.r3
 unfold impl_minor.f
 refine map_loop (List.range (n ^ k).toNat) 0 (fun (i : Nat) => gd t (valM n (imgs (argsM n k (i : Int)) places)).toNat) (fun g tb i => impl_minor.l0 g n places (k : Int) i a t (k : Int) tb) _ ?_ ?_ (n ^ k).toNat 0 (by simp)
 ·rw [List.length_range]
  refine Ev.step (fun _ => impl_minor.l0.eq_2 ..) ((impl_power_ev n k ⟨h.n1, h.n8⟩ ⟨by omega, by omega⟩).bind ?_)
  rw [powI_nat]
  exact Ev.neg (by omega) (Ev.now _)
 ·intro i tb hi ho hh
  rw [List.length_range] at hi
  rw [range_at hi] at hh
  obtain ⟨m1, m2, m3, m4⟩ := min_at h i
  refine Ev.step (fun _ => impl_minor.l0.eq_2 ..) ((impl_power_ev n k ⟨h.n1, h.n8⟩ ⟨by omega, by omega⟩).bind ?_)
  rw [powI_nat]
  refine Ev.pos (by omega) ((impl_argsAt_ev n k i h.n1 hk (by omega) (by omega)).bind ((impl_compose_ev places _ (by omega) m1).bind ((impl_indexOf_ev n _ ⟨h.n1, h.n8⟩ m2 (by rw [imgs_length]; omega)).bind ?_)))
  rw [rdi t m3, w64s (i := i) (n := 1000) (by omega) (by omega)]
  exact Ev.pos m3 (Ev.pos m4 (Ev.pos (by omega) hh))
theorem map_gd (l : List Int) : (List.range l.length).map (gd l) = l := by
 refine ext_gd (by simp) (fun i hi => ?_)
 have hi' : i < l.length := by simpa using hi
 rw [gd_lt hi]
 simp
theorem getD_map {α : Type} (l : List Int) (f : Int → List α) {i : Nat} (h : i < l.length) : (l.map f).getD i [] = f (gd l i) := by
 rw [gd_lt h]
 simp [List.getD, h]
theorem spec_l12Minor_ev {n a : Int} {t places : List Int} {r k : Nat} (h : MinOk n t places r k) : Ev (fun g => spec_l12Minor.f g n a t places (k : Int)) ((k : Int), minT n t places k) := by
 have hk := h.k3
 have hn : 1 ≤ n ∧ n ≤ 8 := ⟨h.n1, h.n8⟩
 have hpow := pow_le3 hn hk
 have hN : 0 < n ^ k := Int.pow_pos (by omega)
 have hpl := h.pl
 have hr := h.r3
 unfold spec_l12Minor.f
 refine map_loop places 0 (fun p => projM n k p.toNat) (fun g out i => spec_l12Minor.l0 g n places (k : Int) out i a t) _ ?_ ?_ places.length 0 (by omega)
 ·refine Ev.step (fun _ => spec_l12Minor.l0.eq_2 ..) (Ev.neg (by omega) ((spec_l2Pow_ev n k hn ⟨by omega, by omega⟩).bind ?_))
  rw [powI_nat]
  refine (?_ : Ev (fun g => spec_l12Compose.f g n a t (places.map fun p => projM n k p.toNat) (n ^ k)) (minT n t places k)).bind (Ev.now _)
  unfold spec_l12Compose.f
  refine map_loop (List.range (n ^ k).toNat) 0 (fun (i : Nat) => gd t (valM n (imgs (argsM n k (i : Int)) places)).toNat) (fun g out i => spec_l12Compose.l0 g n (places.map fun p => projM n k p.toNat) (n ^ k) out i a t) _ ?_ ?_ (n ^ k).toNat 0 (by simp)
  ·rw [List.length_range]
   exact Ev.step (fun _ => spec_l12Compose.l0.eq_2 ..) (Ev.neg (by omega) (Ev.now _))
  ·intro i out hi ho hh
   rw [List.length_range] at hi
   rw [range_at hi] at hh
   obtain ⟨m1, m2, m3, m4⟩ := min_at h i
   have him := imgs_length (argsM n k (i : Int)) places
   have hfin : (List.range places.length).map (gd (imgs (argsM n k (i : Int)) places)) = imgs (argsM n k (i : Int)) places := by
    have := map_gd (imgs (argsM n k (i : Int)) places)
    rwa [him] at this
   refine Ev.step (fun _ => spec_l12Compose.l0.eq_2 ..) (Ev.pos (by omega) ?_)
   refine acc_loop n places.length (gd (imgs (argsM n k (i : Int)) places)) (fun g b j => spec_l12Compose.l1 g n (places.map fun p => projM n k p.toNat) (n ^ k) out (i : Int) b j a t) _ ?_ ?_ places.length 0 (by omega)
   ·rw [hfin]
    refine Ev.step (fun _ => spec_l12Compose.l1.eq_2 ..) (Ev.neg (by rw [List.length_map]; omega) (Ev.pos m3 (Ev.pos m4 (Ev.pos (by omega) ?_))))
    rw [rdi t m3, w64s (i := i) (n := 1000) (by omega) (by omega)]
    exact hh
   ·intro j b hj hb hh2
    have hin : ∀ x ∈ (List.range j).map (gd (imgs (argsM n k (i : Int)) places)), 0 ≤ x ∧ x < n := fun x hx => by
     obtain ⟨z, hz, rfl⟩ := List.mem_map.1 hx
     have hz' := List.mem_range.1 hz
     rw [gd_lt (by rw [him]; omega)]
     exact m2 _ (List.getElem_mem _)
    have hv := valM_in hn.1 _ hin
    have hp3 := pow_le3 hn (k := ((List.range j).map (gd (imgs (argsM n k (i : Int)) places))).length) (by simp; omega)
    rw [← hb] at hv
    have hpj := h.pi (gd places j) (by rw [gd_lt hj]; exact List.getElem_mem _)
    have hrow : rd (rd_L1 (places.map fun p => projM n k p.toNat) (j : Int)) (i : Int) = gd (imgs (argsM n k (i : Int)) places) j := by
     rw [rdLL, getD_map places _ hj, rdn, imgs_at _ _ hj]
     simp [projM, gd, List.getD, show i < (n ^ k).toNat from hi]
    have hxj := m2 (gd (imgs (argsM n k (i : Int)) places) j) (by rw [gd_lt (by rw [him]; exact hj)]; exact List.getElem_mem _)
    have hlen : ((rd_L1 (places.map fun p => projM n k p.toNat) (j : Int)).length : Int) = n ^ k := by
     rw [rdLL, getD_map places _ hj, projM_length]
     omega
    refine Ev.step (fun _ => spec_l12Compose.l1.eq_2 ..) (Ev.pos (by rw [List.length_map]; omega) (Ev.pos (by omega) (Ev.pos (by omega) (Ev.pos (by omega) ?_))))
    rw [hrow, grow_in hn ⟨hv.1, by omega⟩ hxj, w64s (i := j) (n := 1000) (by omega) (by omega)]
    exact hh2
 ·intro j out hj ho hh
  have hpj := h.pi (gd places j) (by rw [gd_lt hj]; exact List.getElem_mem _)
  obtain ⟨p, hp⟩ : ∃ p : Nat, gd places j = (p : Int) := ⟨(gd places j).toNat, by omega⟩
  change Ev (fun g => spec_l12Minor.l0 g n places (k : Int) (out ++ [projM n k (gd places j).toNat]) ((j + 1 : Nat) : Int) a t) _ at hh
  rw [hp, Int.toNat_natCast] at hh
  refine Ev.step (fun _ => spec_l12Minor.l0.eq_2 ..) (Ev.pos (by omega) (Ev.pos (by omega) ?_))
  rw [rdn, hp, w64s (i := j) (n := 1000) (by omega) (by omega)]
  exact (spec_l12Projection_ev n k p hn hk (by omega)).bind (Ev.pos (by omega) hh)
def minP (n a : Int) (t places : List Int) (k : Int) : Prop := (1 ≤ n ∧ n ≤ 8) ∧ opB n a t = true ∧ (1 ≤ k ∧ k ≤ 3) ∧ (places.length : Int) = a ∧ places.all (inB k) = true
noncomputable def minM (n a : Int) (t places : List Int) (k : Int) : Int × List Int × Bool := @ite _ (minP n a t places k) (Classical.propDecidable _) (k, minT n t places k.toNat, true) (0, [], false)
theorem minM_no {n a k : Int} {t places : List Int} (h : ¬ minP n a t places k) : minM n a t places k = (0, [], false) := by rw [minM, if_neg h]
theorem minM_yes {n a k : Int} {t places : List Int} (h : minP n a t places k) : minM n a t places k = (k, minT n t places k.toNat, true) := by rw [minM, if_pos h]
theorem min_ok {n a k : Int} {t places : List Int} (h : minP n a t places k) : ∃ r q : Nat, k = (q : Int) ∧ MinOk n t places r q := by
 obtain ⟨hn, h1, hk, hl, hp⟩ := h
 obtain ⟨r, rfl, f2, f3, f4⟩ := opB_of h1
 obtain ⟨q, rfl⟩ : ∃ q : Nat, k = (q : Int) := ⟨k.toNat, by omega⟩
 refine ⟨r, q, rfl, hn.1, hn.2, f2, by omega, by omega, f3, f4, by omega, ?_⟩
 simpa only [List.all_eq_true, inB, decide_eq_true_eq] using hp
theorem impl_MinorOf_ev (n a : Int) (t places : List Int) (k : Int) (ht : t.length ≤ 1048576) (hp : places.length ≤ 1048576) : Ev (fun g => impl_MinorOf.f g n a t places k) (minM n a t places k) := by
 unfold impl_MinorOf.f
 rw [impl_isSize_eq]
 refine Ev.bind1 (Ev.ite (fun h => ?_) (fun h => (Ev.now _).to (minM_no (fun h' => h (decide_eq_true h'.1))).symm))
 refine (impl_isOp_ev n a t h (by omega)).bind (Ev.ite (fun h1 => ?_) (fun h1 => (Ev.now _).to (minM_no (fun h' => h1 h'.2.1)).symm))
 refine Ev.ite (fun h2 => (Ev.now _).to (minM_no (fun h' => by have := h'.2.2.1; omega)).symm) (fun h2 => Ev.ite (fun h3 => (Ev.now _).to (minM_no (fun h' => by have := h'.2.2.1; omega)).symm) (fun h3 => ?_))
 refine Ev.ite (fun h4 => ?_) (fun h4 => (Ev.now _).to (minM_no (fun h' => h4 h'.2.2.2.1)).symm)
 refine (impl_inSize_ev places k (by omega)).bind (Ev.ite (fun h5 => ?_) (fun h5 => (Ev.now _).to (minM_no (fun h' => h5 h'.2.2.2.2)).symm))
 have hP : minP n a t places k := ⟨of_decide_eq_true h, h1, by omega, h4, h5⟩
 obtain ⟨r, q, rfl, ok⟩ := min_ok hP
 rw [minM_yes hP, Int.toNat_natCast]
 exact (impl_minor_ev ok).bind (Ev.now _)
theorem spec_MinorOf_ev (n a : Int) (t places : List Int) (k : Int) (ht : t.length ≤ 1048576) (hp : places.length ≤ 1048576) : Ev (fun g => spec_MinorOf.f g n a t places k) (minM n a t places k) := by
 unfold spec_MinorOf.f spec_l12Size.f
 rw [spec_l1In_eq]
 refine Ev.bind1 (Ev.ite (fun h => ?_) (fun h => (Ev.now _).to (minM_no (fun h' => h (decide_eq_true h'.1))).symm))
 refine (spec_l2Op_ev n a t h (by omega)).bind (Ev.ite (fun h1 => ?_) (fun h1 => (Ev.now _).to (minM_no (fun h' => h1 h'.2.1)).symm))
 refine Ev.ite (fun h4 => ?_) (fun h4 => (Ev.now _).to (minM_no (fun h' => h4 h'.2.2.2.1)).symm)
 rw [spec_l1In_eq]
 refine Ev.bind1 (Ev.ite (fun h2 => ?_) (fun h2 => (Ev.now _).to (minM_no (fun h' => h2 (decide_eq_true h'.2.2.1))).symm))
 have hk := of_decide_eq_true h2
 refine (spec_l2Elements_ev k places ⟨by omega, by omega⟩ (by omega)).bind (Ev.ite (fun h5 => ?_) (fun h5 => (Ev.now _).to (minM_no (fun h' => h5 h'.2.2.2.2)).symm))
 have hP : minP n a t places k := ⟨of_decide_eq_true h, h1, by omega, h4, h5⟩
 obtain ⟨r, q, rfl, ok⟩ := min_ok hP
 rw [minM_yes hP, Int.toNat_natCast]
 exact (spec_l12Minor_ev ok).bind (Ev.now _)
theorem minM_small (n a : Int) (t places : List Int) (k : Int) : (minM n a t places k).2.1.length ≤ 512 := by
 by_cases h : minP n a t places k
 ·obtain ⟨r, q, rfl, ok⟩ := min_ok h
  have := pow_le3 ⟨ok.n1, ok.n8⟩ ok.k3
  rw [minM_yes h, Int.toNat_natCast]
  simp only [minT, List.length_map, List.length_range]
  omega
 ·rw [minM_no h]
  simp
theorem laws_markOp_ev (s : Int) (l : List Int) (a : Int) (ha : 0 ≤ a) (hb : a + l.length ≤ 4611686018427387904) : Ev (fun k => laws_markOp.f k s l a) (a + l.length, asc l.length a) := by
 unfold laws_markOp.f
 exact (markIntS_ev l a ha hb).bind (Ev.now _)
theorem laws_heldOp_ev (s : Int) (n : Nat) (a : Int) (ha : 0 ≤ a) (hb : a + n ≤ 4611686018427387904) : Ev (fun k => laws_heldOp.f k s (asc n a) a) (a + n) := by
 unfold laws_heldOp.f
 exact (heldIntS_ev n a ha hb).bind (Ev.neg (by omega) (Ev.now _))
theorem FnExactMinorOf : Stmt.FnExactMinorOf := by
 intro a0 a1 l1 l2 a3 _ _ hm1 _ hm2 _ _ z2
 obtain ⟨t, e1, s1, s2, s3⟩ := laws_szOp_eq a1 l1 1048576 hm1 (by omega)
 by_cases ht : 0 ≤ t
 ·have b1 := s2 ht
  have z1 : l1.length ≤ 1048576 := by omega
  have hd := minM_small a0 a1 l1 l2 a3
  obtain ⟨k, f1, f2, f3, f4, f5, f6, f7, f8, f9, f10, f11⟩ := ((Evs.of (laws_toOp_ev a1 l1 (by omega))).and ((Evs.of (toIntS_ev l2 (by omega))).and ((Evs.of (spec_MinorOf_ev a0 a1 l1 l2 a3 z1 z2)).and ((Evs.of (impl_MinorOf_ev a0 a1 l1 l2 a3 z1 z2)).and
   ((Evs.of (laws_eqOp_same (minM a0 a1 l1 l2 a3).1 (minM a0 a1 l1 l2 a3).2.1 (by omega))).and ((Evs.of (laws_eqOp_same a1 l1 (by omega))).and ((Evs.of (eqIntS_same l2 (by omega))).and
   ((Evs.of (laws_markOp_ev a1 l1 1 (by omega) (by omega))).and ((Evs.of (markIntS_ev l2 (1 + (l1.length : Int)) (by omega) (by omega))).and ((Evs.of (laws_markOp_ev (minM a0 a1 l1 l2 a3).1 (minM a0 a1 l1 l2 a3).2.1 1 (by omega) (by omega))).and
   (Evs.of (laws_heldOp_ev (minM a0 a1 l1 l2 a3).1 (minM a0 a1 l1 l2 a3).2.1.length 1 (by omega) (by omega))))))))))))).ex
  exact ⟨k, t, e1, fun _ => ⟨a1, l1, l2, (minM a0 a1 l1 l2 a3).1, (minM a0 a1 l1 l2 a3).2.1, (minM a0 a1 l1 l2 a3).2.2, f1, f2, f3, f4, f5, f6, f7, f8, f9, f10, f11⟩⟩
 ·exact ⟨0, t, e1, fun h => absurd h ht⟩
end Go.Proofs.Ytccjheikjcpgmaa.Pure

namespace Go.Proofs.Ytccjheikjcpgmaa
open Go.RowKit Go.Proofs.YtccjheikjcpgmaaW.PrintWords Go.Proofs.YtccjheikjcpgmaaW.PrintLast Go.Proofs.YtccjheikjcpgmaaW.PrintMore Go.Proofs.Ytccjheikjcpgmaa.Live Go.Proofs.Ytccjheikjcpgmaa.Q
set_option linter.unusedVariables false
set_option linter.unusedSimpArgs false
set_option maxRecDepth 100000
set_option maxHeartbeats 8000000 in
theorem Walk.FnExactMinorOf (a0 : Int) (a1 : Int) (A1 : Option Addr) (c1 : Nat) (l1 : List (Int)) (A2 : Option Addr) (c2 : Nat) (l2 : List (Int)) (a3 : Int) (W : World) (hr1 : Kd.C (Kd.int .i64) W A1 l1.length l1) (hc1 : l1.length ≤ c1) (hr2 : Kd.C (Kd.int .i64) W A2 l2.length l2) (hc2 : l2.length ≤ c2) (g0 : (Lit.int .i64 a0).wf = true) (g1 : (Lit.int .i64 a1).wf = true) (hm1 : l1.length ≤ maxLen) (hg1 : ∀ x ∈ l1, (Lit.int .i64 x).wf = true) (hm2 : l2.length ≤ maxLen) (hg2 : ∀ x ∈ l2, (Lit.int .i64 x).wf = true) (g3 : (Lit.int .i64 a3).wf = true) :
  Calls Try.prog 6 #[.int .i64 a0, .agg #[.int .i64 a1, .slice A1 l1.length c1], .slice A2 l2.length c2, .int .i64 a3] W fun e w' => e = .returned (.bool true) ∧ Below W.heap.size W w' := by
 have P := fun z0 => Pure.FnExactMinorOf a0 a1 l1 l2 a3 g0 g1 hm1 hg1 hm2 hg2 g3 z0
 have hu35 := Try.underlying35
 have hu37 := Try.underlying37
 have hu41 := Try.underlying41
 have HR1 := Aside0.mk hr1
 have HC1 := Aside0.mk hc1
 have hm1_ : l1.length ≤ 9223372036854775807 := by unfold maxLen at hm1; omega
 have HR2 := Aside0.mk hr2
 have HC2 := Aside0.mk hc2
 have hm2_ : l2.length ≤ 9223372036854775807 := by unfold maxLen at hm2; omega
 clear hr1 hc1 hr2 hc2 g0 g1 hm1 hg1 hm2 hg2 g3
 by_cases cl1 : 1048576 < l2.length
 ·have q1 : decide (1048576 < (l2.length : Int)) = true := decide_eq_true (by omega)
  have qn1 : decide (1048576 < l2.length) = true := decide_eq_true cl1
  clear P
  go_enter Try.func6, Try.ntmps6
  obtain ⟨lox1, hix1, HLx1⟩ := Live.make_box (Live.nil W) (.cells #[.int .i64 a1, .slice A1 l1.length c1] 37) (W.heap.size) (by simp)
  go_wp2
  go_ret
  exact ⟨rfl, below_alloc (Below.refl _ _) _⟩
 have q1 : decide (1048576 < (l2.length : Int)) = false := decide_eq_false (by omega)
 have qn1 : decide (1048576 < l2.length) = false := decide_eq_false cl1
 replace P := P
 obtain ⟨k, P⟩ := P (by omega)
 obtain ⟨t0, hF0, P⟩ := P
 have F0 := Aside0.mk hF0
 clear hF0
 have HP3 := Aside0.mk P
 clear P
 by_cases d3 : t0 < 0
 ·have q3 : decide (t0 < 0) = true := decide_eq_true d3
  go_enter Try.func6, Try.ntmps6
  obtain ⟨lox1, hix1, HLx1⟩ := Live.make_box (Live.nil W) (.cells #[.int .i64 a1, .slice A1 l1.length c1] 37) (W.heap.size) (by simp)
  go_wp2_with fail
  (with_reducible refine (laws_szOp.calls a1 _ _ l1 1048576 t0 _ (Kd.C_below HR1.out (below_alloc (Below.refl _ _) _)) HC1.out F0.out).mono ?_)
  rintro e w2 ⟨rfl, hbw2⟩
  have HLw2 := Aside0.mk (HLx1.below hbw2)
  have HBw2 := Aside0.mk (below_step (below_alloc (Below.refl _ _) _) (hbw2))
  clear hbw2
  obtain ⟨hxb5_0_w2, hxb5_1_w2⟩ := cells2 (g := W.heap.size) (HLw2.out.get 0 rfl).1
  go_wp2
  go_ret
  exact ⟨rfl, HBw2.out⟩
 have q3 : decide (t0 < 0) = false := decide_eq_false d3
 have P := HP3.out (by omega)
 clear HP3
 obtain ⟨X0, X1, X2, X3, X4, X5, hF1, hF2, hF3, hF4, hF5, hF6, hF7, hF8, hF9, hF10, hF11⟩ := P
 have F1 := Aside0.mk hF1
 have F2 := Aside0.mk hF2
 have F3 := Aside0.mk hF3
 have F4 := Aside0.mk hF4
 have F5 := Aside0.mk hF5
 have F6 := Aside0.mk hF6
 have F7 := Aside0.mk hF7
 have F8 := Aside0.mk hF8
 have F9 := Aside0.mk hF9
 have F10 := Aside0.mk hF10
 have F11 := Aside0.mk hF11
 have HBD := Aside0.mk (show True from trivial)
 clear hF1 hF2 hF3 hF4 hF5 hF6 hF7 hF8 hF9 hF10 hF11
 have hneX0 : (X0 != X0) = false := bne_self_eq_false X0
 have hneX3 : (X3 != X3) = false := bne_self_eq_false X3
 have hneX5 : (X5 != X5) = false := bne_self_eq_false X5
 go_enter Try.func6, Try.ntmps6
 obtain ⟨lox1, hix1, HLx1⟩ := Live.make_box (Live.nil W) (.cells #[.int .i64 a1, .slice A1 l1.length c1] 37) (W.heap.size) (by simp)
 go_wp2_with fail
 (with_reducible refine (laws_szOp.calls a1 _ _ l1 1048576 t0 _ (Kd.C_below HR1.out (below_alloc (Below.refl _ _) _)) HC1.out F0.out).mono ?_)
 rintro e w2 ⟨rfl, hbw2⟩
 have HLw2 := Aside0.mk (HLx1.below hbw2)
 have HBw2 := Aside0.mk (below_step (below_alloc (Below.refl _ _) _) (hbw2))
 clear hbw2
 obtain ⟨hxb5_0_w2, hxb5_1_w2⟩ := cells2 (g := W.heap.size) (HLw2.out.get 0 rfl).1
 go_wp2_with fail
 (with_reducible refine (laws_toOp.calls k a1 _ _ l1 X0 X1 _ (Kd.C_below HR1.out (HBw2.out)) HC1.out F1.out).mono ?_)
 rintro e w3 ⟨vw3_0, rfl, how3_0, hbw3⟩
 obtain ⟨Aw3, cw3, rfl⟩ := Kd.R_slice how3_0
 obtain ⟨low3, hiw3, hlw3⟩ := Live.make_R HLw2.out hbw3 how3_0 (below_size (HBw2.out))
 have HLw3 := Aside0.mk hlw3
 clear hlw3 how3_0
 have HBw3 := Aside0.mk (below_step (HBw2.out) (hbw3))
 clear hbw3
 obtain ⟨hxb5_0_w3, hxb5_1_w3⟩ := cells2 (g := W.heap.size) (HLw3.out.get 1 rfl).1
 go_wp2_with fail
 (with_reducible refine (laws_toIntS.calls k _ _ l2 X2 _ (Kd.C_below HR2.out (HBw3.out)) HC2.out F2.out).mono ?_)
 rintro e w4 ⟨vw4_0, rfl, how4_0, hbw4⟩
 obtain ⟨Aw4, cw4, rfl⟩ := Kd.R_slice how4_0
 obtain ⟨low4, hiw4, hlw4⟩ := Live.make_R HLw3.out hbw4 how4_0 (below_size (HBw3.out))
 have HLw4 := Aside0.mk hlw4
 clear hlw4 how4_0
 have HBw4 := Aside0.mk (below_step (HBw3.out) (hbw4))
 clear hbw4
 obtain ⟨hxb5_0_w4, hxb5_1_w4⟩ := cells2 (g := W.heap.size) (HLw4.out.get 2 rfl).1
 go_wp2_with fail
 (with_reducible refine (spec_MinorOf.calls k a0 X0 _ _ X1 _ _ X2 a3 X3 X4 X5 _ (Kd.R_reads' (HLw4.out.get 1 rfl)).2.2 (Kd.R_reads' (HLw4.out.get 1 rfl)).2.1 (Kd.R_reads' (HLw4.out.get 0 rfl)).2.2 (Kd.R_reads' (HLw4.out.get 0 rfl)).2.1 F3.out).mono ?_)
 rintro e w5 ⟨vw5_0, rfl, how5_0, hbw5⟩
 obtain ⟨Aw5, cw5, rfl⟩ := Kd.R_slice how5_0
 obtain ⟨low5, hiw5, hlw5⟩ := Live.make_R HLw4.out hbw5 how5_0 (below_size (HBw4.out))
 have HLw5 := Aside0.mk hlw5
 clear hlw5 how5_0
 have HBw5 := Aside0.mk (below_step (HBw4.out) (hbw5))
 clear hbw5
 obtain ⟨hxb5_0_w5, hxb5_1_w5⟩ := cells2 (g := W.heap.size) (HLw5.out.get 3 rfl).1
 obtain ⟨lox6, hix6, HLx6⟩ := Live.make_box HLw5.out (.cells #[.int .i64 X3, .slice Aw5 X4.length cw5] 41) (w5.heap.size) (by simp)
 obtain ⟨hxb5_0_w5allocce, hxb5_1_w5allocce⟩ := cells2 (g := W.heap.size) (HLx6.get 4 rfl).1
 go_wp2_with fail
 (with_reducible refine (laws_toOp.calls k a1 _ _ l1 X0 X1 _ (Kd.C_below HR1.out (below_alloc (HBw5.out) _)) HC1.out F1.out).mono ?_)
 rintro e w7 ⟨vw7_0, rfl, how7_0, hbw7⟩
 obtain ⟨Aw7, cw7, rfl⟩ := Kd.R_slice how7_0
 obtain ⟨low7, hiw7, hlw7⟩ := Live.make_R HLx6 hbw7 how7_0 (below_size (below_alloc (HBw5.out) _))
 have HLw7 := Aside0.mk hlw7
 clear hlw7 how7_0
 have HBw7 := Aside0.mk (below_step (below_alloc (HBw5.out) _) (hbw7))
 clear hbw7
 obtain ⟨hxb5_0_w7, hxb5_1_w7⟩ := cells2 (g := W.heap.size) (HLw7.out.get 5 rfl).1
 obtain ⟨hxb10_0_w7, hxb10_1_w7⟩ := cells2 (g := w5.heap.size) (HLw7.out.get 1 rfl).1
 obtain ⟨lox8, hix8, HLx8⟩ := Live.make_box HLw7.out (.cells #[.int .i64 X0, .slice Aw7 X1.length cw7] 41) (w7.heap.size) (by simp)
 obtain ⟨hxb5_0_w7allocce, hxb5_1_w7allocce⟩ := cells2 (g := W.heap.size) (HLx8.get 6 rfl).1
 obtain ⟨hxb10_0_w7allocce, hxb10_1_w7allocce⟩ := cells2 (g := w5.heap.size) (HLx8.get 2 rfl).1
 go_wp2_with fail
 (with_reducible refine (laws_toIntS.calls k _ _ l2 X2 _ (Kd.C_below HR2.out (below_alloc (HBw7.out) _)) HC2.out F2.out).mono ?_)
 rintro e w9 ⟨vw9_0, rfl, how9_0, hbw9⟩
 obtain ⟨Aw9, cw9, rfl⟩ := Kd.R_slice how9_0
 obtain ⟨low9, hiw9, hlw9⟩ := Live.make_R HLx8 hbw9 how9_0 (below_size (below_alloc (HBw7.out) _))
 have HLw9 := Aside0.mk hlw9
 clear hlw9 how9_0
 have HBw9 := Aside0.mk (below_step (below_alloc (HBw7.out) _) (hbw9))
 clear hbw9
 obtain ⟨hxb5_0_w9, hxb5_1_w9⟩ := cells2 (g := W.heap.size) (HLw9.out.get 7 rfl).1
 obtain ⟨hxb10_0_w9, hxb10_1_w9⟩ := cells2 (g := w5.heap.size) (HLw9.out.get 3 rfl).1
 obtain ⟨hxb12_0_w9, hxb12_1_w9⟩ := cells2 (g := w7.heap.size) (HLw9.out.get 1 rfl).1
 go_wp2_with fail
 (with_reducible refine (impl_MinorOf.calls k a0 X0 _ _ X1 _ _ X2 a3 X3 X4 X5 _ (Kd.R_reads' (HLw9.out.get 2 rfl)).2.2 (Kd.R_reads' (HLw9.out.get 2 rfl)).2.1 (Kd.R_reads' (HLw9.out.get 0 rfl)).2.2 (Kd.R_reads' (HLw9.out.get 0 rfl)).2.1 F4.out).mono ?_)
 rintro e w10 ⟨vw10_0, rfl, how10_0, hbw10⟩
 obtain ⟨Aw10, cw10, rfl⟩ := Kd.R_slice how10_0
 obtain ⟨low10, hiw10, hlw10⟩ := Live.make_R HLw9.out hbw10 how10_0 (below_size (HBw9.out))
 have HLw10 := Aside0.mk hlw10
 clear hlw10 how10_0
 have HBw10 := Aside0.mk (below_step (HBw9.out) (hbw10))
 clear hbw10
 obtain ⟨hxb5_0_w10, hxb5_1_w10⟩ := cells2 (g := W.heap.size) (HLw10.out.get 8 rfl).1
 obtain ⟨hxb10_0_w10, hxb10_1_w10⟩ := cells2 (g := w5.heap.size) (HLw10.out.get 4 rfl).1
 obtain ⟨hxb12_0_w10, hxb12_1_w10⟩ := cells2 (g := w7.heap.size) (HLw10.out.get 2 rfl).1
 obtain ⟨lox11, hix11, HLx11⟩ := Live.make_box HLw10.out (.cells #[.int .i64 X3, .slice Aw10 X4.length cw10] 41) (w10.heap.size) (by simp)
 obtain ⟨hxb5_0_w10allocc, hxb5_1_w10allocc⟩ := cells2 (g := W.heap.size) (HLx11.get 9 rfl).1
 obtain ⟨hxb10_0_w10allocc, hxb10_1_w10allocc⟩ := cells2 (g := w5.heap.size) (HLx11.get 5 rfl).1
 obtain ⟨hxb12_0_w10allocc, hxb12_1_w10allocc⟩ := cells2 (g := w7.heap.size) (HLx11.get 3 rfl).1
 go_wp2_with fail
 (with_reducible refine (laws_eqOp.calls k X3 _ _ X4 X3 _ _ X4 true _ (Kd.R_reads' (HLx11.get 1 rfl)).2.2 (Kd.R_reads' (HLx11.get 1 rfl)).2.1 (Kd.R_reads' (HLx11.get 6 rfl)).2.2 (Kd.R_reads' (HLx11.get 6 rfl)).2.1 F5.out).mono ?_)
 rintro e w12 ⟨rfl, hbw12⟩
 have HLw12 := Aside0.mk (HLx11.below hbw12)
 have HBw12 := Aside0.mk (below_step (below_alloc (HBw10.out) _) (hbw12))
 clear hbw12
 obtain ⟨hxb5_0_w12, hxb5_1_w12⟩ := cells2 (g := W.heap.size) (HLw12.out.get 9 rfl).1
 obtain ⟨hxb10_0_w12, hxb10_1_w12⟩ := cells2 (g := w5.heap.size) (HLw12.out.get 5 rfl).1
 obtain ⟨hxb12_0_w12, hxb12_1_w12⟩ := cells2 (g := w7.heap.size) (HLw12.out.get 3 rfl).1
 obtain ⟨hxb14_0_w12, hxb14_1_w12⟩ := cells2 (g := w10.heap.size) (HLw12.out.get 0 rfl).1
 go_wp2_with fail
 go_region_held3 (fun w' => w'.cell? ⟨W.heap.size, 0, none⟩ = some (.int .i64 a1) ∧ w'.cell? ⟨W.heap.size, 1, none⟩ = some (.slice A1 l1.length c1) ∧ w'.cell? ⟨w5.heap.size, 0, none⟩ = some (.int .i64 X3) ∧ w'.cell? ⟨w5.heap.size, 1, none⟩ = some (.slice Aw5 X4.length cw5) ∧ w'.cell? ⟨w7.heap.size, 0, none⟩ = some (.int .i64 X0) ∧ w'.cell? ⟨w7.heap.size, 1, none⟩ = some (.slice Aw7 X1.length cw7) ∧ w'.cell? ⟨w10.heap.size, 0, none⟩ = some (.int .i64 X3) ∧ w'.cell? ⟨w10.heap.size, 1, none⟩ = some (.slice Aw10 X4.length cw10)) (first | (simp [*]; done) | go_keep) (first | (go_at_call 16; (with_reducible refine (laws_toOp.calls k a1 _ _ l1 X0 X1 _ (Kd.C_below HR1.out (below_drew1 (HBw12.out))) HC1.out F1.out).mono ?_); rintro e w13 ⟨vw13_0, rfl, how13_0, hbw13⟩; obtain ⟨Aw13, cw13, rfl⟩ := Kd.R_slice how13_0; obtain ⟨low13, hiw13, hlw13⟩ := Live.make_R (Live.drew HLw12.out) hbw13 how13_0 (below_size (below_drew1 (HBw12.out))); have HLw13 := Aside0.mk hlw13; clear hlw13 how13_0; have HBw13 := Aside0.mk (below_step (below_drew1 (HBw12.out)) (hbw13)); clear hbw13; obtain ⟨hxb5_0_w13, hxb5_1_w13⟩ := cells2 (g := W.heap.size) (HLw13.out.get 10 rfl).1; obtain ⟨hxb10_0_w13, hxb10_1_w13⟩ := cells2 (g := w5.heap.size) (HLw13.out.get 6 rfl).1; obtain ⟨hxb12_0_w13, hxb12_1_w13⟩ := cells2 (g := w7.heap.size) (HLw13.out.get 4 rfl).1; obtain ⟨hxb14_0_w13, hxb14_1_w13⟩ := cells2 (g := w10.heap.size) (HLw13.out.get 1 rfl).1) | (go_at_call 18; (with_reducible refine (laws_eqOp.calls k X0 _ _ X1 X0 _ _ X1 true _ (Kd.R_reads' (HLw13.out.get 5 rfl)).2.2 (Kd.R_reads' (HLw13.out.get 5 rfl)).2.1 (Kd.R_reads' (HLw13.out.get 0 rfl)).2.2 (Kd.R_reads' (HLw13.out.get 0 rfl)).2.1 F6.out).mono ?_); rintro e w14 ⟨rfl, hbw14⟩; have HLw14 := Aside0.mk (HLw13.out.below hbw14); have HBw14 := Aside0.mk (below_step (HBw13.out) (hbw14)); clear hbw14; obtain ⟨hxb5_0_w14, hxb5_1_w14⟩ := cells2 (g := W.heap.size) (HLw14.out.get 10 rfl).1; obtain ⟨hxb10_0_w14, hxb10_1_w14⟩ := cells2 (g := w5.heap.size) (HLw14.out.get 6 rfl).1; obtain ⟨hxb12_0_w14, hxb12_1_w14⟩ := cells2 (g := w7.heap.size) (HLw14.out.get 4 rfl).1; obtain ⟨hxb14_0_w14, hxb14_1_w14⟩ := cells2 (g := w10.heap.size) (HLw14.out.get 1 rfl).1))
 go_wp2_with fail
 (with_reducible refine (laws_toIntS.calls k _ _ l2 X2 _ (Kd.C_below HR2.out (HBw14.out)) HC2.out F2.out).mono ?_)
 rintro e w15 ⟨vw15_0, rfl, how15_0, hbw15⟩
 obtain ⟨Aw15, cw15, rfl⟩ := Kd.R_slice how15_0
 obtain ⟨low15, hiw15, hlw15⟩ := Live.make_R HLw14.out hbw15 how15_0 (below_size (HBw14.out))
 have HLw15 := Aside0.mk hlw15
 clear hlw15 how15_0
 have HBw15 := Aside0.mk (below_step (HBw14.out) (hbw15))
 clear hbw15
 obtain ⟨hxb5_0_w15, hxb5_1_w15⟩ := cells2 (g := W.heap.size) (HLw15.out.get 11 rfl).1
 obtain ⟨hxb10_0_w15, hxb10_1_w15⟩ := cells2 (g := w5.heap.size) (HLw15.out.get 7 rfl).1
 obtain ⟨hxb12_0_w15, hxb12_1_w15⟩ := cells2 (g := w7.heap.size) (HLw15.out.get 5 rfl).1
 obtain ⟨hxb14_0_w15, hxb14_1_w15⟩ := cells2 (g := w10.heap.size) (HLw15.out.get 2 rfl).1
 go_wp2_with fail
 (with_reducible refine (laws_eqIntS.calls k _ _ X2 _ _ X2 true _ (Kd.R_reads' (HLw15.out.get 4 rfl)).2.2 (Kd.R_reads' (HLw15.out.get 4 rfl)).2.1 (Kd.R_reads' (HLw15.out.get 0 rfl)).2.2 (Kd.R_reads' (HLw15.out.get 0 rfl)).2.1 F7.out).mono ?_)
 rintro e w16 ⟨rfl, hbw16⟩
 have HLw16 := Aside0.mk (HLw15.out.below hbw16.below)
 have HBw16 := Aside0.mk (below_step (HBw15.out) (hbw16.below))
 clear hbw16
 obtain ⟨hxb5_0_w16, hxb5_1_w16⟩ := cells2 (g := W.heap.size) (HLw16.out.get 11 rfl).1
 obtain ⟨hxb10_0_w16, hxb10_1_w16⟩ := cells2 (g := w5.heap.size) (HLw16.out.get 7 rfl).1
 obtain ⟨hxb12_0_w16, hxb12_1_w16⟩ := cells2 (g := w7.heap.size) (HLw16.out.get 5 rfl).1
 obtain ⟨hxb14_0_w16, hxb14_1_w16⟩ := cells2 (g := w10.heap.size) (HLw16.out.get 2 rfl).1
 go_wp2_with fail
 (with_reducible refine (laws_markOp.calls k X0 (fun k => low7 ≤ k ∧ k < hiw7) _ X1 1 _ _ W _ (HBw16.out) (HLw16.out.get 6 rfl) F8.out).mono ?_)
 rintro e w17 ⟨rfl, hm1, hm2, hm3⟩
 have HLw17 := Aside0.mk (Live.mark HLw16.out 6 rfl hm3 (seg_R (Kd.R_mono (Kd.R_tight rfl hm1) (fun k hk => (HLw16.out.get 6 rfl).1 k hk.symm)) (fun k hk _ _ => hk) (Nat.le_refl _)))
 have HBw17 := Aside0.mk hm2
 clear hm1 hm2 hm3
 obtain ⟨hxb5_0_w17, hxb5_1_w17⟩ := cells2 (g := W.heap.size) (HLw17.out.get 11 rfl).1
 obtain ⟨hxb10_0_w17, hxb10_1_w17⟩ := cells2 (g := w5.heap.size) (HLw17.out.get 7 rfl).1
 obtain ⟨hxb12_0_w17, hxb12_1_w17⟩ := cells2 (g := w7.heap.size) (HLw17.out.get 5 rfl).1
 obtain ⟨hxb14_0_w17, hxb14_1_w17⟩ := cells2 (g := w10.heap.size) (HLw17.out.get 2 rfl).1
 go_wp2_with fail
 (with_reducible refine (laws_markIntS.calls k (fun k => low9 ≤ k ∧ k < hiw9) _ X2 (1 + (X1.length : Int)) _ _ W _ (HBw17.out) (HLw17.out.get 4 rfl) F9.out).mono ?_)
 rintro e w18 ⟨rfl, hm1, hm2, hm3⟩
 have HLw18 := Aside0.mk (Live.mark HLw17.out 4 rfl hm3 (seg_R (Kd.R_mono (Kd.R_tight rfl hm1) (fun k hk => (HLw17.out.get 4 rfl).1 k hk.symm)) (fun k hk _ _ => hk) (Nat.le_refl _)))
 have HBw18 := Aside0.mk hm2
 clear hm1 hm2 hm3
 obtain ⟨hxb5_0_w18, hxb5_1_w18⟩ := cells2 (g := W.heap.size) (HLw18.out.get 11 rfl).1
 obtain ⟨hxb10_0_w18, hxb10_1_w18⟩ := cells2 (g := w5.heap.size) (HLw18.out.get 7 rfl).1
 obtain ⟨hxb12_0_w18, hxb12_1_w18⟩ := cells2 (g := w7.heap.size) (HLw18.out.get 5 rfl).1
 obtain ⟨hxb14_0_w18, hxb14_1_w18⟩ := cells2 (g := w10.heap.size) (HLw18.out.get 2 rfl).1
 go_wp2_with fail
 (with_reducible refine (laws_eqOp.calls k X3 _ _ X4 X3 _ _ X4 true _ (Kd.R_reads' (HLw18.out.get 3 rfl)).2.2 (Kd.R_reads' (HLw18.out.get 3 rfl)).2.1 (Kd.R_reads' (HLw18.out.get 8 rfl)).2.2 (Kd.R_reads' (HLw18.out.get 8 rfl)).2.1 F5.out).mono ?_)
 rintro e w19 ⟨rfl, hbw19⟩
 have HLw19 := Aside0.mk (HLw18.out.below hbw19)
 have HBw19 := Aside0.mk (below_step (HBw18.out) (hbw19))
 clear hbw19
 obtain ⟨hxb5_0_w19, hxb5_1_w19⟩ := cells2 (g := W.heap.size) (HLw19.out.get 11 rfl).1
 obtain ⟨hxb10_0_w19, hxb10_1_w19⟩ := cells2 (g := w5.heap.size) (HLw19.out.get 7 rfl).1
 obtain ⟨hxb12_0_w19, hxb12_1_w19⟩ := cells2 (g := w7.heap.size) (HLw19.out.get 5 rfl).1
 obtain ⟨hxb14_0_w19, hxb14_1_w19⟩ := cells2 (g := w10.heap.size) (HLw19.out.get 2 rfl).1
 go_wp2_with fail
 (with_reducible refine (laws_markOp.calls k X3 (fun k => low10 ≤ k ∧ k < hiw10) _ X4 1 _ _ W _ (HBw19.out) (HLw19.out.get 3 rfl) F10.out).mono ?_)
 rintro e w20 ⟨rfl, hm1, hm2, hm3⟩
 have HLw20 := Aside0.mk (Live.mark HLw19.out 3 rfl hm3 (seg_R (Kd.R_mono (Kd.R_tight rfl hm1) (fun k hk => (HLw19.out.get 3 rfl).1 k hk.symm)) (fun k hk _ _ => hk) (Nat.le_refl _)))
 have HBw20 := Aside0.mk hm2
 clear hm1 hm2 hm3
 obtain ⟨hxb5_0_w20, hxb5_1_w20⟩ := cells2 (g := W.heap.size) (HLw20.out.get 11 rfl).1
 obtain ⟨hxb10_0_w20, hxb10_1_w20⟩ := cells2 (g := w5.heap.size) (HLw20.out.get 7 rfl).1
 obtain ⟨hxb12_0_w20, hxb12_1_w20⟩ := cells2 (g := w7.heap.size) (HLw20.out.get 5 rfl).1
 obtain ⟨hxb14_0_w20, hxb14_1_w20⟩ := cells2 (g := w10.heap.size) (HLw20.out.get 2 rfl).1
 go_wp2_with fail
 have r_ := (Kd.R_reads' (HLw20.out.get 3 rfl)).2
 have q_ := laws_heldOp.calls k X3 _ _ (asc X4.length 1) 1 (1 + (X4.length : Int)) _ (by first | exact r_.2 | (rw [asc_length]; exact r_.2)) (by first | exact r_.1 | (rw [asc_length]; exact r_.1)) F11.out
 rw [asc_length] at q_
 (with_reducible refine q_.mono ?_)
 clear q_ r_
 rintro e w21 ⟨rfl, hbw21⟩
 have HLw21 := Aside0.mk (HLw20.out.below hbw21)
 have HBw21 := Aside0.mk (below_step (HBw20.out) (hbw21))
 clear hbw21
 obtain ⟨hxb5_0_w21, hxb5_1_w21⟩ := cells2 (g := W.heap.size) (HLw21.out.get 11 rfl).1
 obtain ⟨hxb10_0_w21, hxb10_1_w21⟩ := cells2 (g := w5.heap.size) (HLw21.out.get 7 rfl).1
 obtain ⟨hxb12_0_w21, hxb12_1_w21⟩ := cells2 (g := w7.heap.size) (HLw21.out.get 5 rfl).1
 obtain ⟨hxb14_0_w21, hxb14_1_w21⟩ := cells2 (g := w10.heap.size) (HLw21.out.get 2 rfl).1
 go_wp2_with fail
 (with_reducible refine (laws_toOp.calls k a1 _ _ l1 X0 X1 _ (Kd.C_below HR1.out (HBw21.out)) HC1.out F1.out).mono ?_)
 rintro e w22 ⟨vw22_0, rfl, how22_0, hbw22⟩
 obtain ⟨Aw22, cw22, rfl⟩ := Kd.R_slice how22_0
 obtain ⟨low22, hiw22, hlw22⟩ := Live.make_R HLw21.out hbw22 how22_0 (below_size (HBw21.out))
 have HLw22 := Aside0.mk hlw22
 clear hlw22 how22_0
 have HBw22 := Aside0.mk (below_step (HBw21.out) (hbw22))
 clear hbw22
 obtain ⟨hxb5_0_w22, hxb5_1_w22⟩ := cells2 (g := W.heap.size) (HLw22.out.get 12 rfl).1
 obtain ⟨hxb10_0_w22, hxb10_1_w22⟩ := cells2 (g := w5.heap.size) (HLw22.out.get 8 rfl).1
 obtain ⟨hxb12_0_w22, hxb12_1_w22⟩ := cells2 (g := w7.heap.size) (HLw22.out.get 6 rfl).1
 obtain ⟨hxb14_0_w22, hxb14_1_w22⟩ := cells2 (g := w10.heap.size) (HLw22.out.get 3 rfl).1
 go_wp2_with fail
 (with_reducible refine (laws_toIntS.calls k _ _ l2 X2 _ (Kd.C_below HR2.out (HBw22.out)) HC2.out F2.out).mono ?_)
 rintro e w23 ⟨vw23_0, rfl, how23_0, hbw23⟩
 obtain ⟨Aw23, cw23, rfl⟩ := Kd.R_slice how23_0
 obtain ⟨low23, hiw23, hlw23⟩ := Live.make_R HLw22.out hbw23 how23_0 (below_size (HBw22.out))
 have HLw23 := Aside0.mk hlw23
 clear hlw23 how23_0
 have HBw23 := Aside0.mk (below_step (HBw22.out) (hbw23))
 clear hbw23
 obtain ⟨hxb5_0_w23, hxb5_1_w23⟩ := cells2 (g := W.heap.size) (HLw23.out.get 13 rfl).1
 obtain ⟨hxb10_0_w23, hxb10_1_w23⟩ := cells2 (g := w5.heap.size) (HLw23.out.get 9 rfl).1
 obtain ⟨hxb12_0_w23, hxb12_1_w23⟩ := cells2 (g := w7.heap.size) (HLw23.out.get 7 rfl).1
 obtain ⟨hxb14_0_w23, hxb14_1_w23⟩ := cells2 (g := w10.heap.size) (HLw23.out.get 4 rfl).1
 go_wp2_with fail
 (with_reducible refine (impl_MinorOf.calls k a0 X0 _ _ X1 _ _ X2 a3 X3 X4 X5 _ (Kd.R_reads' (HLw23.out.get 1 rfl)).2.2 (Kd.R_reads' (HLw23.out.get 1 rfl)).2.1 (Kd.R_reads' (HLw23.out.get 0 rfl)).2.2 (Kd.R_reads' (HLw23.out.get 0 rfl)).2.1 F4.out).mono ?_)
 rintro e w24 ⟨vw24_0, rfl, how24_0, hbw24⟩
 obtain ⟨Aw24, cw24, rfl⟩ := Kd.R_slice how24_0
 obtain ⟨low24, hiw24, hlw24⟩ := Live.make_R HLw23.out hbw24 how24_0 (below_size (HBw23.out))
 have HLw24 := Aside0.mk hlw24
 clear hlw24 how24_0
 have HBw24 := Aside0.mk (below_step (HBw23.out) (hbw24))
 clear hbw24
 obtain ⟨hxb5_0_w24, hxb5_1_w24⟩ := cells2 (g := W.heap.size) (HLw24.out.get 14 rfl).1
 obtain ⟨hxb10_0_w24, hxb10_1_w24⟩ := cells2 (g := w5.heap.size) (HLw24.out.get 10 rfl).1
 obtain ⟨hxb12_0_w24, hxb12_1_w24⟩ := cells2 (g := w7.heap.size) (HLw24.out.get 8 rfl).1
 obtain ⟨hxb14_0_w24, hxb14_1_w24⟩ := cells2 (g := w10.heap.size) (HLw24.out.get 5 rfl).1
 obtain ⟨lox25, hix25, HLx25⟩ := Live.make_box HLw24.out (.cells #[.int .i64 X3, .slice Aw24 X4.length cw24] 41) (w24.heap.size) (by simp)
 obtain ⟨hxb5_0_w24allocc, hxb5_1_w24allocc⟩ := cells2 (g := W.heap.size) (HLx25.get 15 rfl).1
 obtain ⟨hxb10_0_w24allocc, hxb10_1_w24allocc⟩ := cells2 (g := w5.heap.size) (HLx25.get 11 rfl).1
 obtain ⟨hxb12_0_w24allocc, hxb12_1_w24allocc⟩ := cells2 (g := w7.heap.size) (HLx25.get 9 rfl).1
 obtain ⟨hxb14_0_w24allocc, hxb14_1_w24allocc⟩ := cells2 (g := w10.heap.size) (HLx25.get 6 rfl).1
 go_wp2_with fail
 (with_reducible refine (laws_eqOp.calls k X3 _ _ X4 X3 _ _ X4 true _ (Kd.R_reads' (HLx25.get 1 rfl)).2.2 (Kd.R_reads' (HLx25.get 1 rfl)).2.1 (Kd.R_reads' (HLx25.get 12 rfl)).2.2 (Kd.R_reads' (HLx25.get 12 rfl)).2.1 F5.out).mono ?_)
 rintro e w26 ⟨rfl, hbw26⟩
 have HLw26 := Aside0.mk (HLx25.below hbw26)
 have HBw26 := Aside0.mk (below_step (below_alloc (HBw24.out) _) (hbw26))
 clear hbw26
 obtain ⟨hxb5_0_w26, hxb5_1_w26⟩ := cells2 (g := W.heap.size) (HLw26.out.get 15 rfl).1
 obtain ⟨hxb10_0_w26, hxb10_1_w26⟩ := cells2 (g := w5.heap.size) (HLw26.out.get 11 rfl).1
 obtain ⟨hxb12_0_w26, hxb12_1_w26⟩ := cells2 (g := w7.heap.size) (HLw26.out.get 9 rfl).1
 obtain ⟨hxb14_0_w26, hxb14_1_w26⟩ := cells2 (g := w10.heap.size) (HLw26.out.get 6 rfl).1
 obtain ⟨hxb19_0_w26, hxb19_1_w26⟩ := cells2 (g := w24.heap.size) (HLw26.out.get 0 rfl).1
 go_wp2_with fail
 have r_ := (Kd.R_reads' (HLw26.out.get 7 rfl)).2
 have q_ := laws_heldOp.calls k X3 _ _ (asc X4.length 1) 1 (1 + (X4.length : Int)) _ (by first | exact r_.2 | (rw [asc_length]; exact r_.2)) (by first | exact r_.1 | (rw [asc_length]; exact r_.1)) F11.out
 rw [asc_length] at q_
 (with_reducible refine q_.mono ?_)
 clear q_ r_
 rintro e w27 ⟨rfl, hbw27⟩
 have HLw27 := Aside0.mk (HLw26.out.below hbw27)
 have HBw27 := Aside0.mk (below_step (HBw26.out) (hbw27))
 clear hbw27
 obtain ⟨hxb5_0_w27, hxb5_1_w27⟩ := cells2 (g := W.heap.size) (HLw27.out.get 15 rfl).1
 obtain ⟨hxb10_0_w27, hxb10_1_w27⟩ := cells2 (g := w5.heap.size) (HLw27.out.get 11 rfl).1
 obtain ⟨hxb12_0_w27, hxb12_1_w27⟩ := cells2 (g := w7.heap.size) (HLw27.out.get 9 rfl).1
 obtain ⟨hxb14_0_w27, hxb14_1_w27⟩ := cells2 (g := w10.heap.size) (HLw27.out.get 6 rfl).1
 obtain ⟨hxb19_0_w27, hxb19_1_w27⟩ := cells2 (g := w24.heap.size) (HLw27.out.get 0 rfl).1
 go_wp2
 go_ret
 exact ⟨rfl, HBw27.out⟩
end Go.Proofs.Ytccjheikjcpgmaa
