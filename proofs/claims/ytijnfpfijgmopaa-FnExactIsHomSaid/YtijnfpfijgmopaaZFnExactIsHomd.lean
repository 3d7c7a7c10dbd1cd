/- Part 4 of the proof of the law FnExactIsHom: functions and lists that say what the Go code computes, and that it does; no condition beside those that each theorem states. -/
import Derived.Test.YtijnfpfijgmopaaZFnExactIsHomc
import Derived.Test.YtijnfpfijgmopaaZFnExactIsHomWSized
namespace Go.Proofs.Ytijnfpfijgmopaa.Q
open Go.RowKit Go.Proofs.YtijnfpfijgmopaaW.PrintWords Go.Proofs.YtijnfpfijgmopaaW.PrintLast Go.Proofs.YtijnfpfijgmopaaW.PrintMore
attribute [local go_sem] max2_int min2_int max_two min_two max_three min_three max_four min_four
set_option linter.unusedVariables false
set_option linter.unusedSimpArgs false
def laws_FnExactIsHom.j0 : Nat → List Int → List Int → Bool → Int → List (S109) → Int → List (S109) → Int → List (S87) → Int → List (S87) → Option (Bool)
  | 0, _, _, _, _, _, _, _, _, _, _, _ => none
  | k + 1, x2, x12, x58, x1059000, x1059001, x1060000, x1060001, x1080000, x1080001, x1085000, x1085001 => if x58 = true then (some false) else ((laws_toAlgebra.f k x1059000 x1059001).bind fun bt1090 => ((laws_eqAlgebra.f k x1080000 x1080001 bt1090.1 bt1090.2).bind fun t1094 => (if t1094 = true then ((laws_toAlgebra.f k x1060000 x1060001).bind fun bt1095 => ((laws_eqAlgebra.f k x1085000 x1085001 bt1095.1 bt1095.2).bind fun t1099 => (if t1099 = true then ((laws_toIntS.f k x2).bind fun t1100 => ((laws_eqIntS.f k x12 t1100).bind fun t1103 => (if t1103 = true then (some true) else (some false)))) else (some false)))) else (some false))))
def laws_FnExactIsHom.f (k : Nat) (a0_0 : Int) (l0_1 : List (S109)) (a1_0 : Int) (l1_1 : List (S109)) (l2 : List Int) : Option (Bool) := if (l2.length : Int) > 1048576 then (some true) else ((laws_szAlgebra.f k a0_0 l0_1 1048576).bind fun t1060 => (if t1060 < 0 then (some true) else ((laws_szAlgebra.f k a1_0 l1_1 t1060).bind fun t1061 => (if t1061 < 0 then (some true) else ((laws_toAlgebra.f k a0_0 l0_1).bind fun bt1062 => ((laws_toAlgebra.f k a1_0 l1_1).bind fun bt1066 => ((laws_toIntS.f k l2).bind fun t1070 => ((spec_IsHom.f k bt1062.1 bt1062.2 bt1066.1 bt1066.2 t1070).bind fun bt1073 => ((laws_toAlgebra.f k a0_0 l0_1).bind fun bt1075 => ((laws_toAlgebra.f k a1_0 l1_1).bind fun bt1080 => ((laws_toIntS.f k l2).bind fun t1085 => ((impl_IsHom.f k bt1075.1 bt1075.2 bt1080.1 bt1080.2 t1085).bind fun bt1088 => (if (bt1088.1 != bt1073.1) = true then (laws_FnExactIsHom.j0 k l2 t1085 true a0_0 l0_1 a1_0 l1_1 bt1075.1 bt1075.2 bt1080.1 bt1080.2) else (laws_FnExactIsHom.j0 k l2 t1085 (bt1088.2 != bt1073.2) a0_0 l0_1 a1_0 l1_1 bt1075.1 bt1075.2 bt1080.1 bt1080.2))))))))))))))
theorem laws_FnExactIsHom.mono_l : ∀ k, (∀ y0 y1 y2 y3 y4 y5 y6 y7 y8 y9 y10, LeO (laws_FnExactIsHom.j0 k y0 y1 y2 y3 y4 y5 y6 y7 y8 y9 y10) (laws_FnExactIsHom.j0 (k + 1) y0 y1 y2 y3 y4 y5 y6 y7 y8 y9 y10))
  | 0 => fun _ _ _ _ _ _ _ _ _ _ _ r h => by simp [laws_FnExactIsHom.j0] at h
  | k + 1 => by
    have ih0 := laws_FnExactIsHom.mono_l k
    · intro y0 y1 y2 y3 y4 y5 y6 y7 y8 y9 y10
      unfold laws_FnExactIsHom.j0
      repeat' first
      | (with_reducible exact ih0 _ _ _ _ _ _ _ _ _ _ _)
      | (with_reducible exact impl_IsHom.mono _ _ _ _ _ _)
      | (with_reducible exact laws_eqAlgebra.mono _ _ _ _ _)
      | (with_reducible exact laws_eqIntS.mono _ _ _)
      | (with_reducible exact laws_szAlgebra.mono _ _ _ _)
      | (with_reducible exact laws_toAlgebra.mono _ _ _)
      | (with_reducible exact laws_toIntS.mono _ _)
      | (with_reducible exact spec_IsHom.mono _ _ _ _ _ _)
      | (with_reducible exact LeO.refl _)
      | (with_reducible exact LeO.none _)
      | (with_reducible refine LeO.ite ?_ ?_)
      | (with_reducible refine LeO.bind ?_ (fun _ => ?_))
      | exact ih0 _ _ _ _ _ _ _ _ _ _ _
      | exact impl_IsHom.mono _ _ _ _ _ _
      | exact laws_eqAlgebra.mono _ _ _ _ _
      | exact laws_eqIntS.mono _ _ _
      | exact laws_szAlgebra.mono _ _ _ _
      | exact laws_toAlgebra.mono _ _ _
      | exact laws_toIntS.mono _ _
      | exact spec_IsHom.mono _ _ _ _ _ _
      | exact LeO.none _
      | refine LeO.ite ?_ ?_
      | refine LeO.bind ?_ (fun _ => ?_)
theorem laws_FnExactIsHom.mono : ∀ a0 a1 a2 a3 a4 k, LeO (laws_FnExactIsHom.f k a0 a1 a2 a3 a4) (laws_FnExactIsHom.f (k + 1) a0 a1 a2 a3 a4) := by
  intro a0 a1 a2 a3 a4 k
  have ih0 := laws_FnExactIsHom.mono_l k
  unfold laws_FnExactIsHom.f
  repeat' first
      | (with_reducible exact ih0 _ _ _ _ _ _ _ _ _ _ _)
      | (with_reducible exact impl_IsHom.mono _ _ _ _ _ _)
      | (with_reducible exact laws_eqAlgebra.mono _ _ _ _ _)
      | (with_reducible exact laws_eqIntS.mono _ _ _)
      | (with_reducible exact laws_szAlgebra.mono _ _ _ _)
      | (with_reducible exact laws_toAlgebra.mono _ _ _)
      | (with_reducible exact laws_toIntS.mono _ _)
      | (with_reducible exact spec_IsHom.mono _ _ _ _ _ _)
      | (with_reducible exact LeO.refl _)
      | (with_reducible exact LeO.none _)
      | (with_reducible refine LeO.ite ?_ ?_)
      | (with_reducible refine LeO.bind ?_ (fun _ => ?_))
      | exact ih0 _ _ _ _ _ _ _ _ _ _ _
      | exact impl_IsHom.mono _ _ _ _ _ _
      | exact laws_eqAlgebra.mono _ _ _ _ _
      | exact laws_eqIntS.mono _ _ _
      | exact laws_szAlgebra.mono _ _ _ _
      | exact laws_toAlgebra.mono _ _ _
      | exact laws_toIntS.mono _ _
      | exact spec_IsHom.mono _ _ _ _ _ _
      | exact LeO.none _
      | refine LeO.ite ?_ ?_
      | refine LeO.bind ?_ (fun _ => ?_)
def laws_FnExactIsHom.T10 : Bool × List (List Nat × List Nat) := (true, [([], []), ([0], [0]), ([], []), ([2, 1], [2]), ([], []), ([4, 3], [4]), ([1, 3, 5, 5], [1, 3, 5]), ([6], [6]), ([7], [7]), ([7], [7]), ([8, 6, 0, 1, 2, 3, 4, 5, 6, 7, 8], [8]), ([9, 10, 0, 1, 2, 3, 4, 5, 6, 7, 8, 9, 10], [9])])
def laws_FnExactIsHom.B10 : List Nat := [0, 1, 0, 7, 0, 31, 63, 127, 255, 255, 511, 2047]
theorem laws_FnExactIsHom.tab10 : rtab .any (opsOf Try.f9 10) = laws_FnExactIsHom.T10 := by kernel_rfl
theorem laws_FnExactIsHom.bits10 : waitsOk laws_FnExactIsHom.T10.2 laws_FnExactIsHom.B10 = true := by kernel_rfl
set_option maxHeartbeats 8000000 in
set_option maxRecDepth 100000 in
theorem laws_FnExactIsHom.calls (k : Nat) (a0_0 : Int) (A0_1 : Option Addr) (c0_1 : Nat) (l0_1 : List (S109)) (a1_0 : Int) (A1_1 : Option Addr) (c1_1 : Nat) (l1_1 : List (S109)) (A2 : Option Addr) (c2 : Nat) (l2 : List Int) (r : Bool) (w : World) (hr0_1 : Kd.C k109 w A0_1 l0_1.length l0_1) (hc0_1 : l0_1.length ≤ c0_1) (hr1_1 : Kd.C k109 w A1_1 l1_1.length l1_1) (hc1_1 : l1_1.length ≤ c1_1) (hr2 : Kd.C (Kd.int .i64) w A2 l2.length l2) (hc2 : l2.length ≤ c2) (h : laws_FnExactIsHom.f k a0_0 l0_1 a1_0 l1_1 l2 = some r) :
    Calls Try.prog 9 #[.agg #[.int .i64 a0_0, .slice A0_1 l0_1.length c0_1], .agg #[.int .i64 a1_0, .slice A1_1 l1_1.length c1_1], .slice A2 l2.length c2] w fun e w' => e = .returned (.bool r) ∧ Below w.heap.size w w' := by
  have hu24 := Try.underlying24
  have hu30 := Try.underlying30
  have HR0_1 := Aside0.mk hr0_1
  have HC0_1 := Aside0.mk hc0_1
  clear hr0_1 hc0_1
  have HR1_1 := Aside0.mk hr1_1
  have HC1_1 := Aside0.mk hc1_1
  clear hr1_1 hc1_1
  have HR2 := Aside0.mk hr2
  have HC2 := Aside0.mk hc2
  clear hr2 hc2
  have HB := Aside0.mk (Below.refl w.heap.size w)
  have H : (if (l2.length : Int) > 1048576 then (some true) else ((laws_szAlgebra.f k a0_0 l0_1 1048576).bind fun t1060 => (if t1060 < 0 then (some true) else ((laws_szAlgebra.f k a1_0 l1_1 t1060).bind fun t1061 => (if t1061 < 0 then (some true) else ((laws_toAlgebra.f k a0_0 l0_1).bind fun bt1062 => ((laws_toAlgebra.f k a1_0 l1_1).bind fun bt1066 => ((laws_toIntS.f k l2).bind fun t1070 => ((spec_IsHom.f k bt1062.1 bt1062.2 bt1066.1 bt1066.2 t1070).bind fun bt1073 => ((laws_toAlgebra.f k a0_0 l0_1).bind fun bt1075 => ((laws_toAlgebra.f k a1_0 l1_1).bind fun bt1080 => ((laws_toIntS.f k l2).bind fun t1085 => ((impl_IsHom.f k bt1075.1 bt1075.2 bt1080.1 bt1080.2 t1085).bind fun bt1088 => (if (bt1088.1 != bt1073.1) = true then (laws_FnExactIsHom.j0 k l2 t1085 true a0_0 l0_1 a1_0 l1_1 bt1075.1 bt1075.2 bt1080.1 bt1080.2) else (laws_FnExactIsHom.j0 k l2 t1085 (bt1088.2 != bt1073.2) a0_0 l0_1 a1_0 l1_1 bt1075.1 bt1075.2 bt1080.1 bt1080.2))))))))))))))) = some r := h
  clear h
  by_cases c4 : (l2.length : Int) > 1048576
  · rw [if_pos c4] at H
    have c4b0 : decide (1048576 < (l2.length : Int)) = true := decide_eq_true c4
    have c4b1 : decide (1048576 < l2.length) = true := decide_eq_true (by omega)
    clear c4
    obtain rfl := Option.some.inj H
    go_enter Try.func9, Try.ntmps9
    go_wp2_with (first | ((with_reducible refine gate_dst (N := 3) rfl ?_); refine box_event ?hg (N := 3) ?hd (cs := #[.int .i64 a0_0, .slice A0_1 l0_1.length c0_1]) (t := 24) ?hr ?_; (case hd => rfl); (case hg => rfl); (case hr => first | (go_simp; done) | (go_simp; rfl)); intro gb1058 hg w5 hbox hb; have n0_ := Aside0.mk (below_step (by repeat (first | (with_reducible first | exact HB.out | apply below_alloc | apply pw_below_drewN | apply below_drew1) | exact HB.out)) hb); have n1_ := Aside0.mk (hbox); have n2_ := Aside0.mk ((by rw [hg]; exact (below_size (by repeat (first | (with_reducible first | exact HB.out | apply below_alloc | apply pw_below_drewN | apply below_drew1) | exact HB.out))) : w.heap.size ≤ gb1058)); have n3_ := Aside0.mk ((by rw [hg]; exact (below_size (by repeat (first | (with_reducible first | exact HB.out | apply below_alloc | apply pw_below_drewN | apply below_drew1) | exact HB.out))) : w.heap.size ≤ gb1058)); clear HB; have HB := n0_; have BK1058 := n1_; have GW1058 := n2_; have GE1058 := n3_; clear n0_ n1_ n2_ n3_; clear hb hbox hg) | ((with_reducible refine gate_dst (N := 4) rfl ?_); refine box_event ?hg (N := 4) ?hd (cs := #[.int .i64 a1_0, .slice A1_1 l1_1.length c1_1]) (t := 24) ?hr ?_; (case hd => rfl); (case hg => rfl); (case hr => first | (go_simp; done) | (go_simp; rfl)); intro gb1059 hg w6 hbox hb; have n0_ := Aside0.mk (blk_below (g := gb1058) (o := .cells #[.int .i64 a0_0, .slice A0_1 l0_1.length c0_1] 24 (0, 0)) (by (with_reducible repeat (first | refine blk_drewN ?_ _ | refine blk_drew ?_ | refine blk_alloc ?_ _)); exact BK1058.out) hb); have n1_ := Aside0.mk (below_step (by repeat (first | (with_reducible first | exact HB.out | apply below_alloc | apply pw_below_drewN | apply below_drew1 | refine below_set ?_ GE1058.out) | exact HB.out)) hb); have n2_ := Aside0.mk (hbox); have n3_ := Aside0.mk ((by rw [hg]; exact (below_size (by repeat (first | (with_reducible first | exact HB.out | apply below_alloc | apply pw_below_drewN | apply below_drew1 | refine below_set ?_ GE1058.out) | exact HB.out))) : w.heap.size ≤ gb1059)); have n4_ := Aside0.mk ((by rw [hg]; exact (below_size (by repeat (first | (with_reducible first | exact HB.out | apply below_alloc | apply pw_below_drewN | apply below_drew1 | refine below_set ?_ GE1058.out) | exact HB.out))) : w.heap.size ≤ gb1059)); have n5_ := Aside0.mk ((by rw [hg]; exact Nat.ne_of_lt (blk_lt (g := gb1058) (o := .cells #[.int .i64 a0_0, .slice A0_1 l0_1.length c0_1] 24 (0, 0)) (by (with_reducible repeat (first | refine blk_drewN ?_ _ | refine blk_drew ?_ | refine blk_alloc ?_ _)); exact BK1058.out)) : gb1058 ≠ gb1059)); have n6_ := Aside0.mk ((by rw [hg]; exact Nat.ne_of_gt (blk_lt (g := gb1058) (o := .cells #[.int .i64 a0_0, .slice A0_1 l0_1.length c0_1] 24 (0, 0)) (by (with_reducible repeat (first | refine blk_drewN ?_ _ | refine blk_drew ?_ | refine blk_alloc ?_ _)); exact BK1058.out)) : gb1059 ≠ gb1058)); clear BK1058; clear HB; have BK1058 := n0_; have HB := n1_; have BK1059 := n2_; have GW1059 := n3_; have GE1059 := n4_; have NB1058_1059 := n5_; have NB1059_1058 := n6_; clear n0_ n1_ n2_ n3_ n4_ n5_ n6_; clear hb hbox hg))
    go_ret
    exact ⟨by first | rfl | (simp [errW_none, errW_some] <;> rfl) | (simp [*, errW_none, errW_some] <;> rfl), by repeat (first | (with_reducible first | exact HB.out | apply below_alloc | apply pw_below_drewN | apply below_drew1 | refine below_set ?_ GE1058.out | refine below_set ?_ GE1059.out) | exact HB.out)⟩
  · rw [if_neg c4] at H
    have c4b0 : decide (1048576 < (l2.length : Int)) = false := decide_eq_false c4
    have c4b1 : decide (1048576 < l2.length) = false := decide_eq_false (by omega)
    clear c4
    replace H := Option.bind_eq_some_iff.mp H
    obtain ⟨t1060, A70, H⟩ := H
    replace H : (if t1060 < 0 then (some true) else ((laws_szAlgebra.f k a1_0 l1_1 t1060).bind fun t1061 => (if t1061 < 0 then (some true) else ((laws_toAlgebra.f k a0_0 l0_1).bind fun bt1062 => ((laws_toAlgebra.f k a1_0 l1_1).bind fun bt1066 => ((laws_toIntS.f k l2).bind fun t1070 => ((spec_IsHom.f k bt1062.1 bt1062.2 bt1066.1 bt1066.2 t1070).bind fun bt1073 => ((laws_toAlgebra.f k a0_0 l0_1).bind fun bt1075 => ((laws_toAlgebra.f k a1_0 l1_1).bind fun bt1080 => ((laws_toIntS.f k l2).bind fun t1085 => ((impl_IsHom.f k bt1075.1 bt1075.2 bt1080.1 bt1080.2 t1085).bind fun bt1088 => (if (bt1088.1 != bt1073.1) = true then (laws_FnExactIsHom.j0 k l2 t1085 true a0_0 l0_1 a1_0 l1_1 bt1075.1 bt1075.2 bt1080.1 bt1080.2) else (laws_FnExactIsHom.j0 k l2 t1085 (bt1088.2 != bt1073.2) a0_0 l0_1 a1_0 l1_1 bt1075.1 bt1075.2 bt1080.1 bt1080.2))))))))))))) = some r := H
    have A7 := Aside0.mk A70
    clear A70
    by_cases c8 : t1060 < 0
    · rw [if_pos c8] at H
      have c8b0 : decide (t1060 < 0) = true := decide_eq_true c8
      clear c8
      obtain rfl := Option.some.inj H
      go_enter Try.func9, Try.ntmps9
      go_wp2_with (first | ((with_reducible refine gate_dst (N := 3) rfl ?_); refine box_event ?hg (N := 3) ?hd (cs := #[.int .i64 a0_0, .slice A0_1 l0_1.length c0_1]) (t := 24) ?hr ?_; (case hd => rfl); (case hg => rfl); (case hr => first | (go_simp; done) | (go_simp; rfl)); intro gb1058 hg w9 hbox hb; have n0_ := Aside0.mk (below_step (by repeat (first | (with_reducible first | exact HB.out | apply below_alloc | apply pw_below_drewN | apply below_drew1) | exact HB.out)) hb); have n1_ := Aside0.mk (hbox); have n2_ := Aside0.mk ((by rw [hg]; exact (below_size (by repeat (first | (with_reducible first | exact HB.out | apply below_alloc | apply pw_below_drewN | apply below_drew1) | exact HB.out))) : w.heap.size ≤ gb1058)); have n3_ := Aside0.mk ((by rw [hg]; exact (below_size (by repeat (first | (with_reducible first | exact HB.out | apply below_alloc | apply pw_below_drewN | apply below_drew1) | exact HB.out))) : w.heap.size ≤ gb1058)); clear HB; have HB := n0_; have BK1058 := n1_; have GW1058 := n2_; have GE1058 := n3_; clear n0_ n1_ n2_ n3_; clear hb hbox hg) | ((with_reducible refine gate_dst (N := 4) rfl ?_); refine box_event ?hg (N := 4) ?hd (cs := #[.int .i64 a1_0, .slice A1_1 l1_1.length c1_1]) (t := 24) ?hr ?_; (case hd => rfl); (case hg => rfl); (case hr => first | (go_simp; done) | (go_simp; rfl)); intro gb1059 hg w10 hbox hb; have n0_ := Aside0.mk (blk_below (g := gb1058) (o := .cells #[.int .i64 a0_0, .slice A0_1 l0_1.length c0_1] 24 (0, 0)) (by (with_reducible repeat (first | refine blk_drewN ?_ _ | refine blk_drew ?_ | refine blk_alloc ?_ _)); exact BK1058.out) hb); have n1_ := Aside0.mk (below_step (by repeat (first | (with_reducible first | exact HB.out | apply below_alloc | apply pw_below_drewN | apply below_drew1 | refine below_set ?_ GE1058.out) | exact HB.out)) hb); have n2_ := Aside0.mk (hbox); have n3_ := Aside0.mk ((by rw [hg]; exact (below_size (by repeat (first | (with_reducible first | exact HB.out | apply below_alloc | apply pw_below_drewN | apply below_drew1 | refine below_set ?_ GE1058.out) | exact HB.out))) : w.heap.size ≤ gb1059)); have n4_ := Aside0.mk ((by rw [hg]; exact (below_size (by repeat (first | (with_reducible first | exact HB.out | apply below_alloc | apply pw_below_drewN | apply below_drew1 | refine below_set ?_ GE1058.out) | exact HB.out))) : w.heap.size ≤ gb1059)); have n5_ := Aside0.mk ((by rw [hg]; exact Nat.ne_of_lt (blk_lt (g := gb1058) (o := .cells #[.int .i64 a0_0, .slice A0_1 l0_1.length c0_1] 24 (0, 0)) (by (with_reducible repeat (first | refine blk_drewN ?_ _ | refine blk_drew ?_ | refine blk_alloc ?_ _)); exact BK1058.out)) : gb1058 ≠ gb1059)); have n6_ := Aside0.mk ((by rw [hg]; exact Nat.ne_of_gt (blk_lt (g := gb1058) (o := .cells #[.int .i64 a0_0, .slice A0_1 l0_1.length c0_1] 24 (0, 0)) (by (with_reducible repeat (first | refine blk_drewN ?_ _ | refine blk_drew ?_ | refine blk_alloc ?_ _)); exact BK1058.out)) : gb1059 ≠ gb1058)); clear BK1058; clear HB; have BK1058 := n0_; have HB := n1_; have BK1059 := n2_; have GW1059 := n3_; have GE1059 := n4_; have NB1058_1059 := n5_; have NB1059_1058 := n6_; clear n0_ n1_ n2_ n3_ n4_ n5_ n6_; clear hb hbox hg; have hnb11 := NB1058_1059.out; have hnc11 := NB1059_1058.out; have hcz12_0 : w10.cell? ⟨gb1058, 0, none⟩ = some (.int .i64 a0_0) := (blk_cell BK1058.out 0).trans rfl; have hcz12_1 : w10.cell? ⟨gb1058, 1, none⟩ = some (.slice A0_1 l0_1.length c0_1) := (blk_cell BK1058.out 1).trans rfl; have hfz12_0 := blk_frozen BK1058.out 0; have hfz12_1 := blk_frozen BK1058.out 1) | ((with_reducible refine gate_callee (f := 15) rfl ?_); refine goesL_ (some 20) rfl rfl Try.func15 (by kernel_rfl) rfl #[.agg #[.int .i64 a0_0, .slice A0_1 l0_1.length c0_1], .int .i64 1048576] rfl (by (try simp only [List.map_toArray, List.map_cons, List.map_nil]); first | done | rfl | (simp only [List.length_drop, List.length_take]; rfl)) ?_; (with_reducible refine (laws_szAlgebra.calls k a0_0 _ _ l0_1 1048576 t1060 _ ?side1 ?side2 A7.out).mono ?_); (case side1 => repeat (first | exact (Kd.C_below HR0_1.out HB.out) | (with_reducible refine Kd.C_alloc ?_ _) | (with_reducible refine Kd.C_drewN ?_ _) | (with_reducible refine Kd.C_drew ?_))); (case side2 => exact HC0_1.out); rintro e w13 ⟨rfl, hb⟩; refine ⟨_, rfl, ?_⟩; have n0_ := Aside0.mk (blk_below (g := gb1058) (o := .cells #[.int .i64 a0_0, .slice A0_1 l0_1.length c0_1] 24 (0, 0)) (by (with_reducible repeat (first | refine blk_drewN ?_ _ | refine blk_drew ?_ | refine blk_alloc ?_ _)); exact BK1058.out) hb); have n1_ := Aside0.mk (blk_below (g := gb1059) (o := .cells #[.int .i64 a1_0, .slice A1_1 l1_1.length c1_1] 24 (0, 0)) (by (with_reducible repeat (first | refine blk_drewN ?_ _ | refine blk_drew ?_ | refine blk_alloc ?_ _)); exact BK1059.out) hb); have n2_ := Aside0.mk (below_step (by repeat (first | (with_reducible first | exact HB.out | apply below_alloc | apply pw_below_drewN | apply below_drew1 | refine below_set ?_ GE1058.out | refine below_set ?_ GE1059.out) | exact HB.out)) hb); clear BK1058; clear BK1059; clear HB; have BK1058 := n0_; have BK1059 := n1_; have HB := n2_; clear n0_ n1_ n2_; (try clear hb); (try clear hb2); (try clear hk); (try clear hi)))
      go_ret
      exact ⟨by first | rfl | (simp [errW_none, errW_some] <;> rfl) | (simp [*, errW_none, errW_some] <;> rfl), by repeat (first | (with_reducible first | exact HB.out | apply below_alloc | apply pw_below_drewN | apply below_drew1 | refine below_set ?_ GE1058.out | refine below_set ?_ GE1059.out) | exact HB.out)⟩
    · rw [if_neg c8] at H
      have c8b0 : decide (t1060 < 0) = false := decide_eq_false c8
      clear c8
      replace H := Option.bind_eq_some_iff.mp H
      obtain ⟨t1061, A140, H⟩ := H
      replace H : (if t1061 < 0 then (some true) else ((laws_toAlgebra.f k a0_0 l0_1).bind fun bt1062 => ((laws_toAlgebra.f k a1_0 l1_1).bind fun bt1066 => ((laws_toIntS.f k l2).bind fun t1070 => ((spec_IsHom.f k bt1062.1 bt1062.2 bt1066.1 bt1066.2 t1070).bind fun bt1073 => ((laws_toAlgebra.f k a0_0 l0_1).bind fun bt1075 => ((laws_toAlgebra.f k a1_0 l1_1).bind fun bt1080 => ((laws_toIntS.f k l2).bind fun t1085 => ((impl_IsHom.f k bt1075.1 bt1075.2 bt1080.1 bt1080.2 t1085).bind fun bt1088 => (if (bt1088.1 != bt1073.1) = true then (laws_FnExactIsHom.j0 k l2 t1085 true a0_0 l0_1 a1_0 l1_1 bt1075.1 bt1075.2 bt1080.1 bt1080.2) else (laws_FnExactIsHom.j0 k l2 t1085 (bt1088.2 != bt1073.2) a0_0 l0_1 a1_0 l1_1 bt1075.1 bt1075.2 bt1080.1 bt1080.2))))))))))) = some r := H
      have A14 := Aside0.mk A140
      clear A140
      by_cases c15 : t1061 < 0
      · rw [if_pos c15] at H
        have c15b0 : decide (t1061 < 0) = true := decide_eq_true c15
        clear c15
        obtain rfl := Option.some.inj H
        go_enter Try.func9, Try.ntmps9
        go_wp2_with (first | ((with_reducible refine gate_dst (N := 3) rfl ?_); refine box_event ?hg (N := 3) ?hd (cs := #[.int .i64 a0_0, .slice A0_1 l0_1.length c0_1]) (t := 24) ?hr ?_; (case hd => rfl); (case hg => rfl); (case hr => first | (go_simp; done) | (go_simp; rfl)); intro gb1058 hg w16 hbox hb; have n0_ := Aside0.mk (below_step (by repeat (first | (with_reducible first | exact HB.out | apply below_alloc | apply pw_below_drewN | apply below_drew1) | exact HB.out)) hb); have n1_ := Aside0.mk (hbox); have n2_ := Aside0.mk ((by rw [hg]; exact (below_size (by repeat (first | (with_reducible first | exact HB.out | apply below_alloc | apply pw_below_drewN | apply below_drew1) | exact HB.out))) : w.heap.size ≤ gb1058)); have n3_ := Aside0.mk ((by rw [hg]; exact (below_size (by repeat (first | (with_reducible first | exact HB.out | apply below_alloc | apply pw_below_drewN | apply below_drew1) | exact HB.out))) : w.heap.size ≤ gb1058)); clear HB; have HB := n0_; have BK1058 := n1_; have GW1058 := n2_; have GE1058 := n3_; clear n0_ n1_ n2_ n3_; clear hb hbox hg) | ((with_reducible refine gate_dst (N := 4) rfl ?_); refine box_event ?hg (N := 4) ?hd (cs := #[.int .i64 a1_0, .slice A1_1 l1_1.length c1_1]) (t := 24) ?hr ?_; (case hd => rfl); (case hg => rfl); (case hr => first | (go_simp; done) | (go_simp; rfl)); intro gb1059 hg w17 hbox hb; have n0_ := Aside0.mk (blk_below (g := gb1058) (o := .cells #[.int .i64 a0_0, .slice A0_1 l0_1.length c0_1] 24 (0, 0)) (by (with_reducible repeat (first | refine blk_drewN ?_ _ | refine blk_drew ?_ | refine blk_alloc ?_ _)); exact BK1058.out) hb); have n1_ := Aside0.mk (below_step (by repeat (first | (with_reducible first | exact HB.out | apply below_alloc | apply pw_below_drewN | apply below_drew1 | refine below_set ?_ GE1058.out) | exact HB.out)) hb); have n2_ := Aside0.mk (hbox); have n3_ := Aside0.mk ((by rw [hg]; exact (below_size (by repeat (first | (with_reducible first | exact HB.out | apply below_alloc | apply pw_below_drewN | apply below_drew1 | refine below_set ?_ GE1058.out) | exact HB.out))) : w.heap.size ≤ gb1059)); have n4_ := Aside0.mk ((by rw [hg]; exact (below_size (by repeat (first | (with_reducible first | exact HB.out | apply below_alloc | apply pw_below_drewN | apply below_drew1 | refine below_set ?_ GE1058.out) | exact HB.out))) : w.heap.size ≤ gb1059)); have n5_ := Aside0.mk ((by rw [hg]; exact Nat.ne_of_lt (blk_lt (g := gb1058) (o := .cells #[.int .i64 a0_0, .slice A0_1 l0_1.length c0_1] 24 (0, 0)) (by (with_reducible repeat (first | refine blk_drewN ?_ _ | refine blk_drew ?_ | refine blk_alloc ?_ _)); exact BK1058.out)) : gb1058 ≠ gb1059)); have n6_ := Aside0.mk ((by rw [hg]; exact Nat.ne_of_gt (blk_lt (g := gb1058) (o := .cells #[.int .i64 a0_0, .slice A0_1 l0_1.length c0_1] 24 (0, 0)) (by (with_reducible repeat (first | refine blk_drewN ?_ _ | refine blk_drew ?_ | refine blk_alloc ?_ _)); exact BK1058.out)) : gb1059 ≠ gb1058)); clear BK1058; clear HB; have BK1058 := n0_; have HB := n1_; have BK1059 := n2_; have GW1059 := n3_; have GE1059 := n4_; have NB1058_1059 := n5_; have NB1059_1058 := n6_; clear n0_ n1_ n2_ n3_ n4_ n5_ n6_; clear hb hbox hg; have hnb18 := NB1058_1059.out; have hnc18 := NB1059_1058.out; have hcz19_0 : w17.cell? ⟨gb1058, 0, none⟩ = some (.int .i64 a0_0) := (blk_cell BK1058.out 0).trans rfl; have hcz19_1 : w17.cell? ⟨gb1058, 1, none⟩ = some (.slice A0_1 l0_1.length c0_1) := (blk_cell BK1058.out 1).trans rfl; have hfz19_0 := blk_frozen BK1058.out 0; have hfz19_1 := blk_frozen BK1058.out 1) | ((with_reducible refine gate_callee (f := 15) rfl ?_); refine goesL_ (some 20) rfl rfl Try.func15 (by kernel_rfl) rfl #[.agg #[.int .i64 a0_0, .slice A0_1 l0_1.length c0_1], .int .i64 1048576] rfl (by (try simp only [List.map_toArray, List.map_cons, List.map_nil]); first | done | rfl | (simp only [List.length_drop, List.length_take]; rfl)) ?_; (with_reducible refine (laws_szAlgebra.calls k a0_0 _ _ l0_1 1048576 t1060 _ ?side1 ?side2 A7.out).mono ?_); (case side1 => repeat (first | exact (Kd.C_below HR0_1.out HB.out) | (with_reducible refine Kd.C_alloc ?_ _) | (with_reducible refine Kd.C_drewN ?_ _) | (with_reducible refine Kd.C_drew ?_))); (case side2 => exact HC0_1.out); rintro e w20 ⟨rfl, hb⟩; refine ⟨_, rfl, ?_⟩; have n0_ := Aside0.mk (blk_below (g := gb1058) (o := .cells #[.int .i64 a0_0, .slice A0_1 l0_1.length c0_1] 24 (0, 0)) (by (with_reducible repeat (first | refine blk_drewN ?_ _ | refine blk_drew ?_ | refine blk_alloc ?_ _)); exact BK1058.out) hb); have n1_ := Aside0.mk (blk_below (g := gb1059) (o := .cells #[.int .i64 a1_0, .slice A1_1 l1_1.length c1_1] 24 (0, 0)) (by (with_reducible repeat (first | refine blk_drewN ?_ _ | refine blk_drew ?_ | refine blk_alloc ?_ _)); exact BK1059.out) hb); have n2_ := Aside0.mk (below_step (by repeat (first | (with_reducible first | exact HB.out | apply below_alloc | apply pw_below_drewN | apply below_drew1 | refine below_set ?_ GE1058.out | refine below_set ?_ GE1059.out) | exact HB.out)) hb); clear BK1058; clear BK1059; clear HB; have BK1058 := n0_; have BK1059 := n1_; have HB := n2_; clear n0_ n1_ n2_; (try clear hb); (try clear hb2); (try clear hk); (try clear hi); have hcz21_0 : w20.cell? ⟨gb1059, 0, none⟩ = some (.int .i64 a1_0) := (blk_cell BK1059.out 0).trans rfl; have hcz21_1 : w20.cell? ⟨gb1059, 1, none⟩ = some (.slice A1_1 l1_1.length c1_1) := (blk_cell BK1059.out 1).trans rfl; have hfz21_0 := blk_frozen BK1059.out 0; have hfz21_1 := blk_frozen BK1059.out 1) | ((with_reducible refine gate_callee (f := 15) rfl ?_); refine goesL_ (some 25) rfl rfl Try.func15 (by kernel_rfl) rfl #[.agg #[.int .i64 a1_0, .slice A1_1 l1_1.length c1_1], .int .i64 t1060] rfl (by (try simp only [List.map_toArray, List.map_cons, List.map_nil]); first | done | rfl | (simp only [List.length_drop, List.length_take]; rfl)) ?_; (with_reducible refine (laws_szAlgebra.calls k a1_0 _ _ l1_1 t1060 t1061 _ ?side1 ?side2 A14.out).mono ?_); (case side1 => repeat (first | exact (Kd.C_below HR1_1.out HB.out) | (with_reducible refine Kd.C_alloc ?_ _) | (with_reducible refine Kd.C_drewN ?_ _) | (with_reducible refine Kd.C_drew ?_))); (case side2 => exact HC1_1.out); rintro e w22 ⟨rfl, hb⟩; refine ⟨_, rfl, ?_⟩; have n0_ := Aside0.mk (blk_below (g := gb1058) (o := .cells #[.int .i64 a0_0, .slice A0_1 l0_1.length c0_1] 24 (0, 0)) (by (with_reducible repeat (first | refine blk_drewN ?_ _ | refine blk_drew ?_ | refine blk_alloc ?_ _)); exact BK1058.out) hb); have n1_ := Aside0.mk (blk_below (g := gb1059) (o := .cells #[.int .i64 a1_0, .slice A1_1 l1_1.length c1_1] 24 (0, 0)) (by (with_reducible repeat (first | refine blk_drewN ?_ _ | refine blk_drew ?_ | refine blk_alloc ?_ _)); exact BK1059.out) hb); have n2_ := Aside0.mk (below_step (by repeat (first | (with_reducible first | exact HB.out | apply below_alloc | apply pw_below_drewN | apply below_drew1 | refine below_set ?_ GE1058.out | refine below_set ?_ GE1059.out) | exact HB.out)) hb); clear BK1058; clear BK1059; clear HB; have BK1058 := n0_; have BK1059 := n1_; have HB := n2_; clear n0_ n1_ n2_; (try clear hb); (try clear hb2); (try clear hk); (try clear hi)))
        go_ret
        exact ⟨by first | rfl | (simp [errW_none, errW_some] <;> rfl) | (simp [*, errW_none, errW_some] <;> rfl), by repeat (first | (with_reducible first | exact HB.out | apply below_alloc | apply pw_below_drewN | apply below_drew1 | refine below_set ?_ GE1058.out | refine below_set ?_ GE1059.out) | exact HB.out)⟩
      · rw [if_neg c15] at H
        have c15b0 : decide (t1061 < 0) = false := decide_eq_false c15
        clear c15
        replace H := Option.bind_eq_some_iff.mp H
        obtain ⟨⟨t1062, t1063⟩, A230, H⟩ := H
        replace H : ((laws_toAlgebra.f k a1_0 l1_1).bind fun bt1066 => ((laws_toIntS.f k l2).bind fun t1070 => ((spec_IsHom.f k t1062 t1063 bt1066.1 bt1066.2 t1070).bind fun bt1073 => ((laws_toAlgebra.f k a0_0 l0_1).bind fun bt1075 => ((laws_toAlgebra.f k a1_0 l1_1).bind fun bt1080 => ((laws_toIntS.f k l2).bind fun t1085 => ((impl_IsHom.f k bt1075.1 bt1075.2 bt1080.1 bt1080.2 t1085).bind fun bt1088 => (if (bt1088.1 != bt1073.1) = true then (laws_FnExactIsHom.j0 k l2 t1085 true a0_0 l0_1 a1_0 l1_1 bt1075.1 bt1075.2 bt1080.1 bt1080.2) else (laws_FnExactIsHom.j0 k l2 t1085 (bt1088.2 != bt1073.2) a0_0 l0_1 a1_0 l1_1 bt1075.1 bt1075.2 bt1080.1 bt1080.2))))))))) = some r := H
        have A23 := Aside0.mk A230
        clear A230
        replace H := Option.bind_eq_some_iff.mp H
        obtain ⟨⟨t1066, t1067⟩, A240, H⟩ := H
        replace H : ((laws_toIntS.f k l2).bind fun t1070 => ((spec_IsHom.f k t1062 t1063 t1066 t1067 t1070).bind fun bt1073 => ((laws_toAlgebra.f k a0_0 l0_1).bind fun bt1075 => ((laws_toAlgebra.f k a1_0 l1_1).bind fun bt1080 => ((laws_toIntS.f k l2).bind fun t1085 => ((impl_IsHom.f k bt1075.1 bt1075.2 bt1080.1 bt1080.2 t1085).bind fun bt1088 => (if (bt1088.1 != bt1073.1) = true then (laws_FnExactIsHom.j0 k l2 t1085 true a0_0 l0_1 a1_0 l1_1 bt1075.1 bt1075.2 bt1080.1 bt1080.2) else (laws_FnExactIsHom.j0 k l2 t1085 (bt1088.2 != bt1073.2) a0_0 l0_1 a1_0 l1_1 bt1075.1 bt1075.2 bt1080.1 bt1080.2)))))))) = some r := H
        have A24 := Aside0.mk A240
        clear A240
        replace H := Option.bind_eq_some_iff.mp H
        obtain ⟨t1070, A250, H⟩ := H
        replace H : ((spec_IsHom.f k t1062 t1063 t1066 t1067 t1070).bind fun bt1073 => ((laws_toAlgebra.f k a0_0 l0_1).bind fun bt1075 => ((laws_toAlgebra.f k a1_0 l1_1).bind fun bt1080 => ((laws_toIntS.f k l2).bind fun t1085 => ((impl_IsHom.f k bt1075.1 bt1075.2 bt1080.1 bt1080.2 t1085).bind fun bt1088 => (if (bt1088.1 != bt1073.1) = true then (laws_FnExactIsHom.j0 k l2 t1085 true a0_0 l0_1 a1_0 l1_1 bt1075.1 bt1075.2 bt1080.1 bt1080.2) else (laws_FnExactIsHom.j0 k l2 t1085 (bt1088.2 != bt1073.2) a0_0 l0_1 a1_0 l1_1 bt1075.1 bt1075.2 bt1080.1 bt1080.2))))))) = some r := H
        have A25 := Aside0.mk A250
        clear A250
        replace H := Option.bind_eq_some_iff.mp H
        obtain ⟨⟨t1073, t1074⟩, A260, H⟩ := H
        replace H : ((laws_toAlgebra.f k a0_0 l0_1).bind fun bt1075 => ((laws_toAlgebra.f k a1_0 l1_1).bind fun bt1080 => ((laws_toIntS.f k l2).bind fun t1085 => ((impl_IsHom.f k bt1075.1 bt1075.2 bt1080.1 bt1080.2 t1085).bind fun bt1088 => (if (bt1088.1 != t1073) = true then (laws_FnExactIsHom.j0 k l2 t1085 true a0_0 l0_1 a1_0 l1_1 bt1075.1 bt1075.2 bt1080.1 bt1080.2) else (laws_FnExactIsHom.j0 k l2 t1085 (bt1088.2 != t1074) a0_0 l0_1 a1_0 l1_1 bt1075.1 bt1075.2 bt1080.1 bt1080.2)))))) = some r := H
        have A26 := Aside0.mk A260
        clear A260
        replace H := Option.bind_eq_some_iff.mp H
        obtain ⟨⟨t1075, t1076⟩, A270, H⟩ := H
        replace H : ((laws_toAlgebra.f k a1_0 l1_1).bind fun bt1080 => ((laws_toIntS.f k l2).bind fun t1085 => ((impl_IsHom.f k t1075 t1076 bt1080.1 bt1080.2 t1085).bind fun bt1088 => (if (bt1088.1 != t1073) = true then (laws_FnExactIsHom.j0 k l2 t1085 true a0_0 l0_1 a1_0 l1_1 t1075 t1076 bt1080.1 bt1080.2) else (laws_FnExactIsHom.j0 k l2 t1085 (bt1088.2 != t1074) a0_0 l0_1 a1_0 l1_1 t1075 t1076 bt1080.1 bt1080.2))))) = some r := H
        have A27 := Aside0.mk A270
        clear A270
        replace H := Option.bind_eq_some_iff.mp H
        obtain ⟨⟨t1080, t1081⟩, A280, H⟩ := H
        replace H : ((laws_toIntS.f k l2).bind fun t1085 => ((impl_IsHom.f k t1075 t1076 t1080 t1081 t1085).bind fun bt1088 => (if (bt1088.1 != t1073) = true then (laws_FnExactIsHom.j0 k l2 t1085 true a0_0 l0_1 a1_0 l1_1 t1075 t1076 t1080 t1081) else (laws_FnExactIsHom.j0 k l2 t1085 (bt1088.2 != t1074) a0_0 l0_1 a1_0 l1_1 t1075 t1076 t1080 t1081)))) = some r := H
        have A28 := Aside0.mk A280
        clear A280
        replace H := Option.bind_eq_some_iff.mp H
        obtain ⟨t1085, A290, H⟩ := H
        replace H : ((impl_IsHom.f k t1075 t1076 t1080 t1081 t1085).bind fun bt1088 => (if (bt1088.1 != t1073) = true then (laws_FnExactIsHom.j0 k l2 t1085 true a0_0 l0_1 a1_0 l1_1 t1075 t1076 t1080 t1081) else (laws_FnExactIsHom.j0 k l2 t1085 (bt1088.2 != t1074) a0_0 l0_1 a1_0 l1_1 t1075 t1076 t1080 t1081))) = some r := H
        have A29 := Aside0.mk A290
        clear A290
        replace H := Option.bind_eq_some_iff.mp H
        obtain ⟨⟨t1088, t1089⟩, A300, H⟩ := H
        replace H : (if (t1088 != t1073) = true then (laws_FnExactIsHom.j0 k l2 t1085 true a0_0 l0_1 a1_0 l1_1 t1075 t1076 t1080 t1081) else (laws_FnExactIsHom.j0 k l2 t1085 (t1089 != t1074) a0_0 l0_1 a1_0 l1_1 t1075 t1076 t1080 t1081)) = some r := H
        have A30 := Aside0.mk A300
        clear A300
        have HC31 := Aside0.mk H
        clear H
        go_enter Try.func9, Try.ntmps9
        try go_wp2_with (first | ((with_reducible refine gate_dst (N := 3) rfl ?_); refine box_event ?hg (N := 3) ?hd (cs := #[.int .i64 a0_0, .slice A0_1 l0_1.length c0_1]) (t := 24) ?hr ?_; (case hd => rfl); (case hg => rfl); (case hr => first | (go_simp; done) | (go_simp; rfl)); intro gb1058 hg w32 hbox hb; have n0_ := Aside0.mk (below_step (by repeat (first | (with_reducible first | exact HB.out | apply below_alloc | apply pw_below_drewN | apply below_drew1) | exact HB.out)) hb); have n1_ := Aside0.mk (hbox); have n2_ := Aside0.mk ((by rw [hg]; exact (below_size (by repeat (first | (with_reducible first | exact HB.out | apply below_alloc | apply pw_below_drewN | apply below_drew1) | exact HB.out))) : w.heap.size ≤ gb1058)); have n3_ := Aside0.mk ((by rw [hg]; exact (below_size (by repeat (first | (with_reducible first | exact HB.out | apply below_alloc | apply pw_below_drewN | apply below_drew1) | exact HB.out))) : w.heap.size ≤ gb1058)); clear HB; have HB := n0_; have BK1058 := n1_; have GW1058 := n2_; have GE1058 := n3_; clear n0_ n1_ n2_ n3_; clear hb hbox hg) | ((with_reducible refine gate_dst (N := 4) rfl ?_); refine box_event ?hg (N := 4) ?hd (cs := #[.int .i64 a1_0, .slice A1_1 l1_1.length c1_1]) (t := 24) ?hr ?_; (case hd => rfl); (case hg => rfl); (case hr => first | (go_simp; done) | (go_simp; rfl)); intro gb1059 hg w33 hbox hb; have n0_ := Aside0.mk (blk_below (g := gb1058) (o := .cells #[.int .i64 a0_0, .slice A0_1 l0_1.length c0_1] 24 (0, 0)) (by (with_reducible repeat (first | refine blk_drewN ?_ _ | refine blk_drew ?_ | refine blk_alloc ?_ _)); exact BK1058.out) hb); have n1_ := Aside0.mk (below_step (by repeat (first | (with_reducible first | exact HB.out | apply below_alloc | apply pw_below_drewN | apply below_drew1 | refine below_set ?_ GE1058.out) | exact HB.out)) hb); have n2_ := Aside0.mk (hbox); have n3_ := Aside0.mk ((by rw [hg]; exact (below_size (by repeat (first | (with_reducible first | exact HB.out | apply below_alloc | apply pw_below_drewN | apply below_drew1 | refine below_set ?_ GE1058.out) | exact HB.out))) : w.heap.size ≤ gb1059)); have n4_ := Aside0.mk ((by rw [hg]; exact (below_size (by repeat (first | (with_reducible first | exact HB.out | apply below_alloc | apply pw_below_drewN | apply below_drew1 | refine below_set ?_ GE1058.out) | exact HB.out))) : w.heap.size ≤ gb1059)); have n5_ := Aside0.mk ((by rw [hg]; exact Nat.ne_of_lt (blk_lt (g := gb1058) (o := .cells #[.int .i64 a0_0, .slice A0_1 l0_1.length c0_1] 24 (0, 0)) (by (with_reducible repeat (first | refine blk_drewN ?_ _ | refine blk_drew ?_ | refine blk_alloc ?_ _)); exact BK1058.out)) : gb1058 ≠ gb1059)); have n6_ := Aside0.mk ((by rw [hg]; exact Nat.ne_of_gt (blk_lt (g := gb1058) (o := .cells #[.int .i64 a0_0, .slice A0_1 l0_1.length c0_1] 24 (0, 0)) (by (with_reducible repeat (first | refine blk_drewN ?_ _ | refine blk_drew ?_ | refine blk_alloc ?_ _)); exact BK1058.out)) : gb1059 ≠ gb1058)); clear BK1058; clear HB; have BK1058 := n0_; have HB := n1_; have BK1059 := n2_; have GW1059 := n3_; have GE1059 := n4_; have NB1058_1059 := n5_; have NB1059_1058 := n6_; clear n0_ n1_ n2_ n3_ n4_ n5_ n6_; clear hb hbox hg; have hnb34 := NB1058_1059.out; have hnc34 := NB1059_1058.out; have hcz35_0 : w33.cell? ⟨gb1058, 0, none⟩ = some (.int .i64 a0_0) := (blk_cell BK1058.out 0).trans rfl; have hcz35_1 : w33.cell? ⟨gb1058, 1, none⟩ = some (.slice A0_1 l0_1.length c0_1) := (blk_cell BK1058.out 1).trans rfl; have hfz35_0 := blk_frozen BK1058.out 0; have hfz35_1 := blk_frozen BK1058.out 1) | ((with_reducible refine gate_callee (f := 15) rfl ?_); refine goesL_ (some 20) rfl rfl Try.func15 (by kernel_rfl) rfl #[.agg #[.int .i64 a0_0, .slice A0_1 l0_1.length c0_1], .int .i64 1048576] rfl (by (try simp only [List.map_toArray, List.map_cons, List.map_nil]); first | done | rfl | (simp only [List.length_drop, List.length_take]; rfl)) ?_; (with_reducible refine (laws_szAlgebra.calls k a0_0 _ _ l0_1 1048576 t1060 _ ?side1 ?side2 A7.out).mono ?_); (case side1 => repeat (first | exact (Kd.C_below HR0_1.out HB.out) | (with_reducible refine Kd.C_alloc ?_ _) | (with_reducible refine Kd.C_drewN ?_ _) | (with_reducible refine Kd.C_drew ?_))); (case side2 => exact HC0_1.out); rintro e w36 ⟨rfl, hb⟩; refine ⟨_, rfl, ?_⟩; have n0_ := Aside0.mk (blk_below (g := gb1058) (o := .cells #[.int .i64 a0_0, .slice A0_1 l0_1.length c0_1] 24 (0, 0)) (by (with_reducible repeat (first | refine blk_drewN ?_ _ | refine blk_drew ?_ | refine blk_alloc ?_ _)); exact BK1058.out) hb); have n1_ := Aside0.mk (blk_below (g := gb1059) (o := .cells #[.int .i64 a1_0, .slice A1_1 l1_1.length c1_1] 24 (0, 0)) (by (with_reducible repeat (first | refine blk_drewN ?_ _ | refine blk_drew ?_ | refine blk_alloc ?_ _)); exact BK1059.out) hb); have n2_ := Aside0.mk (below_step (by repeat (first | (with_reducible first | exact HB.out | apply below_alloc | apply pw_below_drewN | apply below_drew1 | refine below_set ?_ GE1058.out | refine below_set ?_ GE1059.out) | exact HB.out)) hb); clear BK1058; clear BK1059; clear HB; have BK1058 := n0_; have BK1059 := n1_; have HB := n2_; clear n0_ n1_ n2_; (try clear hb); (try clear hb2); (try clear hk); (try clear hi); have hcz37_0 : w36.cell? ⟨gb1059, 0, none⟩ = some (.int .i64 a1_0) := (blk_cell BK1059.out 0).trans rfl; have hcz37_1 : w36.cell? ⟨gb1059, 1, none⟩ = some (.slice A1_1 l1_1.length c1_1) := (blk_cell BK1059.out 1).trans rfl; have hfz37_0 := blk_frozen BK1059.out 0; have hfz37_1 := blk_frozen BK1059.out 1) | ((with_reducible refine gate_callee (f := 15) rfl ?_); refine goesL_ (some 25) rfl rfl Try.func15 (by kernel_rfl) rfl #[.agg #[.int .i64 a1_0, .slice A1_1 l1_1.length c1_1], .int .i64 t1060] rfl (by (try simp only [List.map_toArray, List.map_cons, List.map_nil]); first | done | rfl | (simp only [List.length_drop, List.length_take]; rfl)) ?_; (with_reducible refine (laws_szAlgebra.calls k a1_0 _ _ l1_1 t1060 t1061 _ ?side1 ?side2 A14.out).mono ?_); (case side1 => repeat (first | exact (Kd.C_below HR1_1.out HB.out) | (with_reducible refine Kd.C_alloc ?_ _) | (with_reducible refine Kd.C_drewN ?_ _) | (with_reducible refine Kd.C_drew ?_))); (case side2 => exact HC1_1.out); rintro e w38 ⟨rfl, hb⟩; refine ⟨_, rfl, ?_⟩; have n0_ := Aside0.mk (blk_below (g := gb1058) (o := .cells #[.int .i64 a0_0, .slice A0_1 l0_1.length c0_1] 24 (0, 0)) (by (with_reducible repeat (first | refine blk_drewN ?_ _ | refine blk_drew ?_ | refine blk_alloc ?_ _)); exact BK1058.out) hb); have n1_ := Aside0.mk (blk_below (g := gb1059) (o := .cells #[.int .i64 a1_0, .slice A1_1 l1_1.length c1_1] 24 (0, 0)) (by (with_reducible repeat (first | refine blk_drewN ?_ _ | refine blk_drew ?_ | refine blk_alloc ?_ _)); exact BK1059.out) hb); have n2_ := Aside0.mk (below_step (by repeat (first | (with_reducible first | exact HB.out | apply below_alloc | apply pw_below_drewN | apply below_drew1 | refine below_set ?_ GE1058.out | refine below_set ?_ GE1059.out) | exact HB.out)) hb); clear BK1058; clear BK1059; clear HB; have BK1058 := n0_; have BK1059 := n1_; have HB := n2_; clear n0_ n1_ n2_; (try clear hb); (try clear hb2); (try clear hk); (try clear hi)))
        have n0_ := Aside0.mk (blk_drew BK1058.out)
        have n1_ := Aside0.mk (blk_drew BK1059.out)
        have n2_ := Aside0.mk (below_drew1 HB.out)
        clear BK1058
        clear BK1059
        clear HB
        have BK1058 := n0_
        have BK1059 := n1_
        have HB := n2_
        clear n0_ n1_ n2_
        refine start_ (n := 12) (S := fun w' => w'.cell? ⟨gb1058, 0, none⟩ = some (.int .i64 a0_0) ∧ w'.cell? ⟨gb1058, 1, none⟩ = some (.slice A0_1 l0_1.length c0_1) ∧ w'.cell? ⟨gb1059, 0, none⟩ = some (.int .i64 a1_0) ∧ w'.cell? ⟨gb1059, 1, none⟩ = some (.slice A1_1 l1_1.length c1_1)) (ds := []) #[false, false, false, false, false, false, false, false, false, false, false, false] (by kernel_rfl) rfl rfl ⟨(blk_cell BK1058.out 0).trans rfl, (blk_cell BK1058.out 1).trans rfl, (blk_cell BK1059.out 0).trans rfl, (blk_cell BK1059.out 1).trans rfl⟩ (fun hHeld => ?_); refine with_tabW laws_FnExactIsHom.tab10 laws_FnExactIsHom.bits10 (fun HT_ HW_ => ?_)
        generalize w38.drew = w39 at BK1058 BK1059 HB hHeld ⊢
        refine pure_ (i := 4) (N := some 33) (v := ?_) (a' := ?_) #[false, false, false, false, true, false, false, false, false, false, false, false] rfl rfl (any_of HT_.out (by kernel_rfl)) (fun _ _ _ h => h) (Or.inl ⟨by rfl, ?_⟩) ?_ ?_
        rotate_left
        · intro w'
          go_simp
          with_reducible rfl
        rotate_left
        · simp only [Act.put, List.setIfInBounds_toArray, List.set_cons_zero, List.set_cons_succ, i64_w, i32_w]
          rfl
        refine take_ (i := 0) (N := some 29) (v := ?_) (a' := ?_) #[true, false, false, false, true, false, false, false, false, false, false, false] rfl rfl (take_ofW HT_.out HW_.out (by kernel_rfl)) (fun _ _ _ h => h) (Or.inl ⟨by rfl, ?_⟩) hHeld ?_ ?_
        rotate_left
        · rintro w' ⟨s0, s1, s2, s3⟩
          go_simp
          with_reducible rfl
        rotate_left
        · simp only [Act.put, List.setIfInBounds_toArray, List.set_cons_zero, List.set_cons_succ, i64_w, i32_w]
          rfl
        refine take_ (i := 2) (N := some 31) (v := ?_) (a' := ?_) #[true, false, true, false, true, false, false, false, false, false, false, false] rfl rfl (take_ofW HT_.out HW_.out (by kernel_rfl)) (fun _ _ _ h => h) (Or.inl ⟨by rfl, ?_⟩) hHeld ?_ ?_
        rotate_left
        · rintro w' ⟨s0, s1, s2, s3⟩
          go_simp
          with_reducible rfl
        rotate_left
        · simp only [Act.put, List.setIfInBounds_toArray, List.set_cons_zero, List.set_cons_succ, i64_w, i32_w]
          rfl
        refine one_ (i := 1) (N := some 30) #[true, true, true, false, true, false, false, false, false, false, false, false] rfl rfl (one_of HT_.out (by kernel_rfl)) (by decide) (fun K hK => ?_)
        refine goes_ Try.func17 (by kernel_rfl) rfl #[.agg #[.int .i64 a0_0, .slice A0_1 l0_1.length c0_1]] (by rfl) rfl rfl (by (try simp only [List.map_toArray, List.map_cons, List.map_nil]); first | done | rfl | (simp only [List.length_drop, List.length_take]; rfl)) ?_
        with_reducible refine (laws_toAlgebra.calls k a0_0 _ _ l0_1 t1062 t1063 _ ?side1 ?side2 A23.out).mono ?_
        (case side1 => repeat (first | exact (Kd.C_below HR0_1.out HB.out) | (with_reducible refine Kd.C_alloc ?_ _) | (with_reducible refine Kd.C_drewN ?_ _) | (with_reducible refine Kd.C_drew ?_)))
        (case side2 => exact HC0_1.out)
        rintro e w40 ⟨v1064, rfl, ho0, hb⟩
        refine ⟨_, rfl, ?_⟩
        have n0_ := Aside0.mk (Kd.S_lower ho0 (below_size (by repeat (first | (with_reducible first | exact HB.out | apply below_alloc | apply pw_below_drewN | apply below_drew1 | refine below_set ?_ GE1058.out | refine below_set ?_ GE1059.out) | exact HB.out))))
        have n1_ := Aside0.mk (blk_below (g := gb1058) (o := .cells #[.int .i64 a0_0, .slice A0_1 l0_1.length c0_1] 24 (0, 0)) (by (with_reducible repeat (first | refine blk_drewN ?_ _ | refine blk_drew ?_ | refine blk_alloc ?_ _)); exact BK1058.out) hb)
        have n2_ := Aside0.mk (blk_below (g := gb1059) (o := .cells #[.int .i64 a1_0, .slice A1_1 l1_1.length c1_1] 24 (0, 0)) (by (with_reducible repeat (first | refine blk_drewN ?_ _ | refine blk_drew ?_ | refine blk_alloc ?_ _)); exact BK1059.out) hb)
        have n3_ := Aside0.mk (below_step (by repeat (first | (with_reducible first | exact HB.out | apply below_alloc | apply pw_below_drewN | apply below_drew1 | refine below_set ?_ GE1058.out | refine below_set ?_ GE1059.out) | exact HB.out)) hb)
        clear BK1058
        clear BK1059
        clear HB
        have HO1065 := n0_
        have BK1058 := n1_
        have BK1059 := n2_
        have HB := n3_
        clear n0_ n1_ n2_ n3_
        (try clear hb)
        (try clear hb2)
        (try clear hk)
        (try clear hi)
        (try clear ho0)
        refine hK.out _ _ ⟨(blk_cell BK1058.out 0).trans rfl, (blk_cell BK1058.out 1).trans rfl, (blk_cell BK1059.out 0).trans rfl, (blk_cell BK1059.out 1).trans rfl⟩ (fun hHeld => ?_)
        clear hK K
        refine norm_ (a' := ?_) ?_ ?_
        rotate_left
        · show Act.put _ (some 30) _ = _
          simp only [Act.put, List.setIfInBounds_toArray, List.set_cons_zero, List.set_cons_succ, i64_w, i32_w]
          rfl
        refine one_ (i := 3) (N := some 32) #[true, true, true, true, true, false, false, false, false, false, false, false] rfl rfl (one_of HT_.out (by kernel_rfl)) (by decide) (fun K hK => ?_)
        refine goes_ Try.func17 (by kernel_rfl) rfl #[.agg #[.int .i64 a1_0, .slice A1_1 l1_1.length c1_1]] (by rfl) rfl rfl (by (try simp only [List.map_toArray, List.map_cons, List.map_nil]); first | done | rfl | (simp only [List.length_drop, List.length_take]; rfl)) ?_
        with_reducible refine (laws_toAlgebra.calls k a1_0 _ _ l1_1 t1066 t1067 _ ?side1 ?side2 A24.out).mono ?_
        (case side1 => repeat (first | exact (Kd.C_below HR1_1.out HB.out) | (with_reducible refine Kd.C_alloc ?_ _) | (with_reducible refine Kd.C_drewN ?_ _) | (with_reducible refine Kd.C_drew ?_)))
        (case side2 => exact HC1_1.out)
        rintro e w41 ⟨v1068, rfl, ho0, hb⟩
        refine ⟨_, rfl, ?_⟩
        have n0_ := Aside0.mk (Kd.S_elder' (by (with_reducible repeat (first | apply Kd.S_alloc | apply Kd.S_drewN | apply Kd.S_drew)); exact HO1065.out) (Kd.S_base ho0) hb)
        have n1_ := Aside0.mk (Kd.S_lower (Kd.S_new' ho0 (Kd.S_lt (by (with_reducible repeat (first | apply Kd.S_alloc | apply Kd.S_drewN | apply Kd.S_drew)); exact HO1065.out))) (below_size (by repeat (first | (with_reducible first | exact HB.out | apply below_alloc | apply pw_below_drewN | apply below_drew1 | refine below_set ?_ GE1058.out | refine below_set ?_ GE1059.out) | exact HB.out))))
        have n2_ := Aside0.mk (blk_below (g := gb1058) (o := .cells #[.int .i64 a0_0, .slice A0_1 l0_1.length c0_1] 24 (0, 0)) (by (with_reducible repeat (first | refine blk_drewN ?_ _ | refine blk_drew ?_ | refine blk_alloc ?_ _)); exact BK1058.out) hb)
        have n3_ := Aside0.mk (blk_below (g := gb1059) (o := .cells #[.int .i64 a1_0, .slice A1_1 l1_1.length c1_1] 24 (0, 0)) (by (with_reducible repeat (first | refine blk_drewN ?_ _ | refine blk_drew ?_ | refine blk_alloc ?_ _)); exact BK1059.out) hb)
        have n4_ := Aside0.mk (below_step (by repeat (first | (with_reducible first | exact HB.out | apply below_alloc | apply pw_below_drewN | apply below_drew1 | refine below_set ?_ GE1058.out | refine below_set ?_ GE1059.out) | exact HB.out)) hb)
        clear HO1065
        clear BK1058
        clear BK1059
        clear HB
        have HO1065 := n0_
        have HO1069 := n1_
        have BK1058 := n2_
        have BK1059 := n3_
        have HB := n4_
        clear n0_ n1_ n2_ n3_ n4_
        (try clear hb)
        (try clear hb2)
        (try clear hk)
        (try clear hi)
        (try clear ho0)
        refine hK.out _ _ ⟨(blk_cell BK1058.out 0).trans rfl, (blk_cell BK1058.out 1).trans rfl, (blk_cell BK1059.out 0).trans rfl, (blk_cell BK1059.out 1).trans rfl⟩ (fun hHeld => ?_)
        clear hK K
        refine norm_ (a' := ?_) ?_ ?_
        rotate_left
        · show Act.put _ (some 32) _ = _
          simp only [Act.put, List.setIfInBounds_toArray, List.set_cons_zero, List.set_cons_succ, i64_w, i32_w]
          rfl
        refine one_ (i := 5) (N := some 34) #[true, true, true, true, true, true, false, false, false, false, false, false] rfl rfl (one_of HT_.out (by kernel_rfl)) (by decide) (fun K hK => ?_)
        refine goes_ Try.func51 (by kernel_rfl) rfl #[.slice A2 l2.length c2] (by rfl) rfl rfl (by (try simp only [List.map_toArray, List.map_cons, List.map_nil]); first | done | rfl | (simp only [List.length_drop, List.length_take]; rfl)) ?_
        with_reducible refine (laws_toIntS.calls k _ _ l2 t1070 _ ?side1 ?side2 A25.out).mono ?_
        (case side1 => repeat (first | exact (Kd.C_below HR2.out HB.out) | (with_reducible refine Kd.C_alloc ?_ _) | (with_reducible refine Kd.C_drewN ?_ _) | (with_reducible refine Kd.C_drew ?_)))
        (case side2 => exact HC2.out)
        rintro e w42 ⟨v1071, rfl, ho0, hb⟩
        refine ⟨_, rfl, ?_⟩
        have n0_ := Aside0.mk (Kd.S_elder' (by (with_reducible repeat (first | apply Kd.S_alloc | apply Kd.S_drewN | apply Kd.S_drew)); exact HO1065.out) (Kd.R_base ho0) hb)
        have n1_ := Aside0.mk (Kd.S_elder' (by (with_reducible repeat (first | apply Kd.S_alloc | apply Kd.S_drewN | apply Kd.S_drew)); exact HO1069.out) (Kd.R_base ho0) hb)
        have n2_ := Aside0.mk (Kd.R_lower ho0 (below_size (by repeat (first | (with_reducible first | exact HB.out | apply below_alloc | apply pw_below_drewN | apply below_drew1 | refine below_set ?_ GE1058.out | refine below_set ?_ GE1059.out) | exact HB.out))))
        have n3_ := Aside0.mk (blk_below (g := gb1058) (o := .cells #[.int .i64 a0_0, .slice A0_1 l0_1.length c0_1] 24 (0, 0)) (by (with_reducible repeat (first | refine blk_drewN ?_ _ | refine blk_drew ?_ | refine blk_alloc ?_ _)); exact BK1058.out) hb)
        have n4_ := Aside0.mk (blk_below (g := gb1059) (o := .cells #[.int .i64 a1_0, .slice A1_1 l1_1.length c1_1] 24 (0, 0)) (by (with_reducible repeat (first | refine blk_drewN ?_ _ | refine blk_drew ?_ | refine blk_alloc ?_ _)); exact BK1059.out) hb)
        have n5_ := Aside0.mk (below_step (by repeat (first | (with_reducible first | exact HB.out | apply below_alloc | apply pw_below_drewN | apply below_drew1 | refine below_set ?_ GE1058.out | refine below_set ?_ GE1059.out) | exact HB.out)) hb)
        clear HO1065
        clear HO1069
        clear BK1058
        clear BK1059
        clear HB
        have HO1065 := n0_
        have HO1069 := n1_
        have HO1072 := n2_
        have BK1058 := n3_
        have BK1059 := n4_
        have HB := n5_
        clear n0_ n1_ n2_ n3_ n4_ n5_
        (try clear hb)
        (try clear hb2)
        (try clear hk)
        (try clear hi)
        (try clear ho0)
        obtain ⟨Ao43, co43, eo43⟩ := Kd.S_slice HO1065.out
        (first | subst eo43 | (injection eo43 with f1_ f2_ f3_; have f4_ := f1_.symm; have f5_ := f3_.symm; clear f1_ f2_ f3_; subst f4_; subst f5_))
        obtain ⟨Ao44, co44, eo44⟩ := Kd.S_slice HO1069.out
        (first | subst eo44 | (injection eo44 with f1_ f2_ f3_; have f4_ := f1_.symm; have f5_ := f3_.symm; clear f1_ f2_ f3_; subst f4_; subst f5_))
        obtain ⟨Ao45, co45, eo45⟩ := Kd.R_slice HO1072.out
        (first | subst eo45 | (injection eo45 with f1_ f2_ f3_; have f4_ := f1_.symm; have f5_ := f3_.symm; clear f1_ f2_ f3_; subst f4_; subst f5_))
        refine hK.out _ _ ⟨(blk_cell BK1058.out 0).trans rfl, (blk_cell BK1058.out 1).trans rfl, (blk_cell BK1059.out 0).trans rfl, (blk_cell BK1059.out 1).trans rfl⟩ (fun hHeld => ?_)
        clear hK K
        refine norm_ (a' := ?_) ?_ ?_
        rotate_left
        · show Act.put _ (some 34) _ = _
          simp only [Act.put, List.setIfInBounds_toArray, List.set_cons_zero, List.set_cons_succ, i64_w, i32_w]
          rfl
        refine one_ (i := 6) (N := some 35) #[true, true, true, true, true, true, true, false, false, false, false, false] rfl rfl (one_of HT_.out (by kernel_rfl)) (by decide) (fun K hK => ?_)
        refine goes_ Try.func50 (by kernel_rfl) rfl #[.agg #[.int .i64 t1062, .slice Ao43 t1063.length co43], .agg #[.int .i64 t1066, .slice Ao44 t1067.length co44], .slice Ao45 t1070.length co45] (by rfl) rfl rfl (by (try simp only [List.map_toArray, List.map_cons, List.map_nil]); first | done | rfl | (simp only [List.length_drop, List.length_take]; rfl)) ?_
        with_reducible refine (spec_IsHom.calls k t1062 _ _ t1063 t1066 _ _ t1067 _ _ t1070 t1073 t1074 _ ?side1 ?side2 ?side3 ?side4 ?side5 ?side6 A26.out).mono ?_
        (case side1 => repeat (first | exact (Kd.S_reads' HO1065.out).2.2 | (with_reducible refine Kd.C_alloc ?_ _) | (with_reducible refine Kd.C_drewN ?_ _) | (with_reducible refine Kd.C_drew ?_)))
        (case side2 => exact (Kd.S_reads' HO1065.out).2.1)
        (case side3 => repeat (first | exact (Kd.S_reads' HO1069.out).2.2 | (with_reducible refine Kd.C_alloc ?_ _) | (with_reducible refine Kd.C_drewN ?_ _) | (with_reducible refine Kd.C_drew ?_)))
        (case side4 => exact (Kd.S_reads' HO1069.out).2.1)
        (case side5 => repeat (first | exact (Kd.R_reads' HO1072.out).2.2 | (with_reducible refine Kd.C_alloc ?_ _) | (with_reducible refine Kd.C_drewN ?_ _) | (with_reducible refine Kd.C_drew ?_)))
        (case side6 => exact (Kd.R_reads' HO1072.out).2.1)
        rintro e w46 ⟨rfl, hb⟩
        refine ⟨_, rfl, ?_⟩
        have n0_ := Aside0.mk (Kd.S_below (by (with_reducible repeat (first | apply Kd.S_alloc | apply Kd.S_drewN | apply Kd.S_drew)); exact HO1065.out) hb)
        have n1_ := Aside0.mk (Kd.S_below (by (with_reducible repeat (first | apply Kd.S_alloc | apply Kd.S_drewN | apply Kd.S_drew)); exact HO1069.out) hb)
        have n2_ := Aside0.mk (Kd.R_below (by (with_reducible repeat (first | apply Kd.R_alloc | apply Kd.R_drewN | apply Kd.R_drew)); exact HO1072.out) hb)
        have n3_ := Aside0.mk (blk_below (g := gb1058) (o := .cells #[.int .i64 a0_0, .slice A0_1 l0_1.length c0_1] 24 (0, 0)) (by (with_reducible repeat (first | refine blk_drewN ?_ _ | refine blk_drew ?_ | refine blk_alloc ?_ _)); exact BK1058.out) hb)
        have n4_ := Aside0.mk (blk_below (g := gb1059) (o := .cells #[.int .i64 a1_0, .slice A1_1 l1_1.length c1_1] 24 (0, 0)) (by (with_reducible repeat (first | refine blk_drewN ?_ _ | refine blk_drew ?_ | refine blk_alloc ?_ _)); exact BK1059.out) hb)
        have n5_ := Aside0.mk (below_step (by repeat (first | (with_reducible first | exact HB.out | apply below_alloc | apply pw_below_drewN | apply below_drew1 | refine below_set ?_ GE1058.out | refine below_set ?_ GE1059.out) | exact HB.out)) hb)
        clear HO1065
        clear HO1069
        clear HO1072
        clear BK1058
        clear BK1059
        clear HB
        have HO1065 := n0_
        have HO1069 := n1_
        have HO1072 := n2_
        have BK1058 := n3_
        have BK1059 := n4_
        have HB := n5_
        clear n0_ n1_ n2_ n3_ n4_ n5_
        (try clear hb)
        (try clear hb2)
        (try clear hk)
        (try clear hi)
        refine hK.out _ _ ⟨(blk_cell BK1058.out 0).trans rfl, (blk_cell BK1058.out 1).trans rfl, (blk_cell BK1059.out 0).trans rfl, (blk_cell BK1059.out 1).trans rfl⟩ (fun hHeld => ?_)
        clear hK K
        refine norm_ (a' := ?_) ?_ ?_
        rotate_left
        · show Act.put _ (some 35) _ = _
          simp only [Act.put, List.setIfInBounds_toArray, List.set_cons_zero, List.set_cons_succ, i64_w, i32_w]
          rfl
        refine pure_ (i := 7) (N := some 28) (v := ?_) (a' := ?_) #[true, true, true, true, true, true, true, true, false, false, false, false] rfl rfl (any_of HT_.out (by kernel_rfl)) (fun _ _ _ h => h) (Or.inl ⟨by rfl, ?_⟩) ?_ ?_
        rotate_left
        · intro w'
          go_simp
          with_reducible rfl
        rotate_left
        · simp only [Act.put, List.setIfInBounds_toArray, List.set_cons_zero, List.set_cons_succ, i64_w, i32_w]
          rfl
        refine pure_ (i := 8) (N := some 36) (v := ?_) (a' := ?_) #[true, true, true, true, true, true, true, true, true, false, false, false] rfl rfl (any_of HT_.out (by kernel_rfl)) (fun _ _ _ h => h) (Or.inl ⟨by rfl, ?_⟩) ?_ ?_
        rotate_left
        · intro w'
          go_simp
          with_reducible rfl
        rotate_left
        · simp only [Act.put, List.setIfInBounds_toArray, List.set_cons_zero, List.set_cons_succ, i64_w, i32_w]
          rfl
        refine pure_ (i := 9) (N := some 37) (v := ?_) (a' := ?_) #[true, true, true, true, true, true, true, true, true, true, false, false] rfl rfl (any_of HT_.out (by kernel_rfl)) (fun _ _ _ h => h) (Or.inl ⟨by rfl, ?_⟩) ?_ ?_
        rotate_left
        · intro w'
          go_simp
          with_reducible rfl
        rotate_left
        · simp only [Act.put, List.setIfInBounds_toArray, List.set_cons_zero, List.set_cons_succ, i64_w, i32_w]
          rfl
        refine pure_ (i := 10) (N := some 8) (v := ?_) (a' := ?_) #[true, true, true, true, true, true, true, true, true, true, true, false] rfl rfl (any_of HT_.out (by kernel_rfl)) (fun _ _ _ h => h) (Or.inl ⟨by rfl, ?_⟩) ?_ ?_
        rotate_left
        · intro w'
          go_simp
          with_reducible rfl
        rotate_left
        · simp only [Act.put, List.setIfInBounds_toArray, List.set_cons_zero, List.set_cons_succ, i64_w, i32_w]
          rfl
        refine pure_ (i := 11) (N := some 9) (v := ?_) (a' := ?_) #[true, true, true, true, true, true, true, true, true, true, true, true] rfl rfl (any_of HT_.out (by kernel_rfl)) (fun _ _ _ h => h) (Or.inl ⟨by rfl, ?_⟩) ?_ ?_
        rotate_left
        · intro w'
          go_simp
          with_reducible rfl
        rotate_left
        · simp only [Act.put, List.setIfInBounds_toArray, List.set_cons_zero, List.set_cons_succ, i64_w, i32_w]
          rfl
        refine done_ (done_of HT_.out (by kernel_rfl)) ?_
        have hcz47_0 : w46.cell? ⟨gb1058, 0, none⟩ = some (.int .i64 a0_0) := (blk_cell BK1058.out 0).trans rfl
        have hcz47_1 : w46.cell? ⟨gb1058, 1, none⟩ = some (.slice A0_1 l0_1.length c0_1) := (blk_cell BK1058.out 1).trans rfl
        have hfz47_0 := blk_frozen BK1058.out 0
        have hfz47_1 := blk_frozen BK1058.out 1
        go_upto_region 15 with (first | ((with_reducible refine gate_callee (f := 17) rfl ?_); refine goesL_ (some 39) rfl rfl Try.func17 (by kernel_rfl) rfl #[.agg #[.int .i64 a0_0, .slice A0_1 l0_1.length c0_1]] rfl (by (try simp only [List.map_toArray, List.map_cons, List.map_nil]); first | done | rfl | (simp only [List.length_drop, List.length_take]; rfl)) ?_; (with_reducible refine (laws_toAlgebra.calls k a0_0 _ _ l0_1 t1075 t1076 _ ?side1 ?side2 A27.out).mono ?_); (case side1 => repeat (first | exact (Kd.C_below HR0_1.out HB.out) | (with_reducible refine Kd.C_alloc ?_ _) | (with_reducible refine Kd.C_drewN ?_ _) | (with_reducible refine Kd.C_drew ?_))); (case side2 => exact HC0_1.out); rintro e w48 ⟨v1077, rfl, ho0, hb⟩; refine ⟨_, rfl, ?_⟩; have n0_ := Aside0.mk (Kd.S_elder' (by (with_reducible repeat (first | apply Kd.S_alloc | apply Kd.S_drewN | apply Kd.S_drew)); exact HO1065.out) (Kd.S_base ho0) hb); have n1_ := Aside0.mk (Kd.S_elder' (by (with_reducible repeat (first | apply Kd.S_alloc | apply Kd.S_drewN | apply Kd.S_drew)); exact HO1069.out) (Kd.S_base ho0) hb); have n2_ := Aside0.mk (Kd.R_below (by (with_reducible repeat (first | apply Kd.R_alloc | apply Kd.R_drewN | apply Kd.R_drew)); exact HO1072.out) hb); have n3_ := Aside0.mk (Kd.S_lower (Kd.S_new' (Kd.S_new' (Kd.S_new' ho0 (Kd.S_lt (by (with_reducible repeat (first | apply Kd.S_alloc | apply Kd.S_drewN | apply Kd.S_drew)); exact HO1065.out))) (Kd.S_lt (by (with_reducible repeat (first | apply Kd.S_alloc | apply Kd.S_drewN | apply Kd.S_drew)); exact HO1069.out))) (Kd.R_lt (by (with_reducible repeat (first | apply Kd.R_alloc | apply Kd.R_drewN | apply Kd.R_drew)); exact HO1072.out))) (below_size (by repeat (first | (with_reducible first | exact HB.out | apply below_alloc | apply pw_below_drewN | apply below_drew1 | refine below_set ?_ GE1058.out | refine below_set ?_ GE1059.out) | exact HB.out)))); have n4_ := Aside0.mk (blk_below (g := gb1058) (o := .cells #[.int .i64 a0_0, .slice A0_1 l0_1.length c0_1] 24 (0, 0)) (by (with_reducible repeat (first | refine blk_drewN ?_ _ | refine blk_drew ?_ | refine blk_alloc ?_ _)); exact BK1058.out) hb); have n5_ := Aside0.mk (blk_below (g := gb1059) (o := .cells #[.int .i64 a1_0, .slice A1_1 l1_1.length c1_1] 24 (0, 0)) (by (with_reducible repeat (first | refine blk_drewN ?_ _ | refine blk_drew ?_ | refine blk_alloc ?_ _)); exact BK1059.out) hb); have n6_ := Aside0.mk (below_step (by repeat (first | (with_reducible first | exact HB.out | apply below_alloc | apply pw_below_drewN | apply below_drew1 | refine below_set ?_ GE1058.out | refine below_set ?_ GE1059.out) | exact HB.out)) hb); clear HO1065; clear HO1069; clear HO1072; clear BK1058; clear BK1059; clear HB; have HO1065 := n0_; have HO1069 := n1_; have HO1072 := n2_; have HO1078 := n3_; have BK1058 := n4_; have BK1059 := n5_; have HB := n6_; clear n0_ n1_ n2_ n3_ n4_ n5_ n6_; (try clear hb); (try clear hb2); (try clear hk); (try clear hi); (try clear ho0)) | ((with_reducible refine gate_dst (N := 10) rfl ?_); refine box_event ?hg (N := 10) ?hd (cs := #[.int .i64 0, .slice none 0 0]) (t := 30) ?hr ?_; (case hd => rfl); (case hg => rfl); (case hr => first | (go_simp; done) | (go_simp; rfl)); intro gb1079 hg w49 hbox hb; have n0_ := Aside0.mk (Kd.S_below (by (with_reducible repeat (first | apply Kd.S_alloc | apply Kd.S_drewN | apply Kd.S_drew)); exact HO1065.out) hb); have n1_ := Aside0.mk (Kd.S_below (by (with_reducible repeat (first | apply Kd.S_alloc | apply Kd.S_drewN | apply Kd.S_drew)); exact HO1069.out) hb); have n2_ := Aside0.mk (Kd.R_below (by (with_reducible repeat (first | apply Kd.R_alloc | apply Kd.R_drewN | apply Kd.R_drew)); exact HO1072.out) hb); have n3_ := Aside0.mk (Kd.S_below (by (with_reducible repeat (first | apply Kd.S_alloc | apply Kd.S_drewN | apply Kd.S_drew)); exact HO1078.out) hb); have n4_ := Aside0.mk (blk_below (g := gb1058) (o := .cells #[.int .i64 a0_0, .slice A0_1 l0_1.length c0_1] 24 (0, 0)) (by (with_reducible repeat (first | refine blk_drewN ?_ _ | refine blk_drew ?_ | refine blk_alloc ?_ _)); exact BK1058.out) hb); have n5_ := Aside0.mk (blk_below (g := gb1059) (o := .cells #[.int .i64 a1_0, .slice A1_1 l1_1.length c1_1] 24 (0, 0)) (by (with_reducible repeat (first | refine blk_drewN ?_ _ | refine blk_drew ?_ | refine blk_alloc ?_ _)); exact BK1059.out) hb); have n6_ := Aside0.mk (below_step (by repeat (first | (with_reducible first | exact HB.out | apply below_alloc | apply pw_below_drewN | apply below_drew1 | refine below_set ?_ GE1058.out | refine below_set ?_ GE1059.out) | exact HB.out)) hb); have n7_ := Aside0.mk (hbox); have n8_ := Aside0.mk ((by rw [hg]; exact (below_size (by repeat (first | (with_reducible first | exact HB.out | apply below_alloc | apply pw_below_drewN | apply below_drew1 | refine below_set ?_ GE1058.out | refine below_set ?_ GE1059.out) | exact HB.out))) : w.heap.size ≤ gb1079)); have n9_ := Aside0.mk ((by rw [hg]; exact (below_size (by repeat (first | (with_reducible first | exact HB.out | apply below_alloc | apply pw_below_drewN | apply below_drew1 | refine below_set ?_ GE1058.out | refine below_set ?_ GE1059.out) | exact HB.out))) : w.heap.size ≤ gb1079)); have n10_ := Aside0.mk ((by rw [hg]; exact Nat.ne_of_lt (blk_lt (g := gb1058) (o := .cells #[.int .i64 a0_0, .slice A0_1 l0_1.length c0_1] 24 (0, 0)) (by (with_reducible repeat (first | refine blk_drewN ?_ _ | refine blk_drew ?_ | refine blk_alloc ?_ _)); exact BK1058.out)) : gb1058 ≠ gb1079)); have n11_ := Aside0.mk ((by rw [hg]; exact Nat.ne_of_gt (blk_lt (g := gb1058) (o := .cells #[.int .i64 a0_0, .slice A0_1 l0_1.length c0_1] 24 (0, 0)) (by (with_reducible repeat (first | refine blk_drewN ?_ _ | refine blk_drew ?_ | refine blk_alloc ?_ _)); exact BK1058.out)) : gb1079 ≠ gb1058)); have n12_ := Aside0.mk ((by rw [hg]; exact Nat.ne_of_lt (blk_lt (g := gb1059) (o := .cells #[.int .i64 a1_0, .slice A1_1 l1_1.length c1_1] 24 (0, 0)) (by (with_reducible repeat (first | refine blk_drewN ?_ _ | refine blk_drew ?_ | refine blk_alloc ?_ _)); exact BK1059.out)) : gb1059 ≠ gb1079)); have n13_ := Aside0.mk ((by rw [hg]; exact Nat.ne_of_gt (blk_lt (g := gb1059) (o := .cells #[.int .i64 a1_0, .slice A1_1 l1_1.length c1_1] 24 (0, 0)) (by (with_reducible repeat (first | refine blk_drewN ?_ _ | refine blk_drew ?_ | refine blk_alloc ?_ _)); exact BK1059.out)) : gb1079 ≠ gb1059)); clear HO1065; clear HO1069; clear HO1072; clear HO1078; clear BK1058; clear BK1059; clear HB; have HO1065 := n0_; have HO1069 := n1_; have HO1072 := n2_; have HO1078 := n3_; have BK1058 := n4_; have BK1059 := n5_; have HB := n6_; have BK1079 := n7_; have GW1079 := n8_; have GE1079 := n9_; have NB1058_1079 := n10_; have NB1079_1058 := n11_; have NB1059_1079 := n12_; have NB1079_1059 := n13_; clear n0_ n1_ n2_ n3_ n4_ n5_ n6_ n7_ n8_ n9_ n10_ n11_ n12_ n13_; clear hb hbox hg; have hnb50 := NB1079_1058.out; have hnc50 := NB1058_1079.out; have hnb51 := NB1079_1059.out; have hnc51 := NB1059_1079.out; have hcz52_0 : w49.cell? ⟨gb1079, 0, none⟩ = some (.int .i64 0) := (blk_cell BK1079.out 0).trans rfl; have hcz52_1 : w49.cell? ⟨gb1079, 1, none⟩ = some (.slice none 0 0) := (blk_cell BK1079.out 1).trans rfl; have hfz52_0 := blk_frozen BK1079.out 0; have hfz52_1 := blk_frozen BK1079.out 1; obtain ⟨Ao53, co53, eo53⟩ := Kd.S_slice HO1078.out; subst eo53; have hcz54_0 : w49.cell? ⟨gb1059, 0, none⟩ = some (.int .i64 a1_0) := (blk_cell BK1059.out 0).trans rfl; have hcz54_1 : w49.cell? ⟨gb1059, 1, none⟩ = some (.slice A1_1 l1_1.length c1_1) := (blk_cell BK1059.out 1).trans rfl; have hfz54_0 := blk_frozen BK1059.out 0; have hfz54_1 := blk_frozen BK1059.out 1) | ((with_reducible refine gate_callee (f := 17) rfl ?_); refine goesL_ (some 41) rfl rfl Try.func17 (by kernel_rfl) rfl #[.agg #[.int .i64 a1_0, .slice A1_1 l1_1.length c1_1]] rfl (by (try simp only [List.map_toArray, List.map_cons, List.map_nil]); first | done | rfl | (simp only [List.length_drop, List.length_take]; rfl)) ?_; (with_reducible refine (laws_toAlgebra.calls k a1_0 _ _ l1_1 t1080 t1081 _ ?side1 ?side2 A28.out).mono ?_); (case side1 => exact Kd.C_below HR1_1.out (by repeat (first | (with_reducible first | exact HB.out | apply below_alloc | apply pw_below_drewN | apply below_drew1 | refine below_set ?_ GE1058.out | refine below_set ?_ GE1059.out | refine below_set ?_ GE1079.out) | exact HB.out))); (case side2 => exact HC1_1.out); rintro e w55 ⟨v1082, rfl, ho0, hb⟩; refine ⟨_, rfl, ?_⟩; have n0_ := Aside0.mk (Kd.S_elder' (by (with_reducible repeat (first | apply Kd.S_alloc | apply Kd.S_drewN | apply Kd.S_drew)); exact (Kd.S_mono (Kd.S_far (p := ⟨gb1079, 1, none⟩) (Kd.S_far (p := ⟨gb1079, 0, none⟩) (Kd.S_types HO1065.out BK1079.out (by decide)) (fun _ hk => hk.2) (.int .i64 t1075)) (fun _ hk => hk.2) (.slice Ao53 t1076.length co53)) (fun _ h_ => h_.1))) (Kd.S_base ho0) hb); have n1_ := Aside0.mk (Kd.S_elder' (by (with_reducible repeat (first | apply Kd.S_alloc | apply Kd.S_drewN | apply Kd.S_drew)); exact (Kd.S_mono (Kd.S_far (p := ⟨gb1079, 1, none⟩) (Kd.S_far (p := ⟨gb1079, 0, none⟩) (Kd.S_types HO1069.out BK1079.out (by decide)) (fun _ hk => hk.2) (.int .i64 t1075)) (fun _ hk => hk.2) (.slice Ao53 t1076.length co53)) (fun _ h_ => h_.1))) (Kd.S_base ho0) hb); have n2_ := Aside0.mk (Kd.R_below (by (with_reducible repeat (first | apply Kd.R_alloc | apply Kd.R_drewN | apply Kd.R_drew)); exact (Kd.R_mono (Kd.R_far (p := ⟨gb1079, 1, none⟩) (Kd.R_far (p := ⟨gb1079, 0, none⟩) (Kd.R_types HO1072.out BK1079.out (by decide)) (fun _ hk => hk.2) (.int .i64 t1075)) (fun _ hk => hk.2) (.slice Ao53 t1076.length co53)) (fun _ h_ => h_.1))) hb); have n3_ := Aside0.mk (Kd.S_elder' (by (with_reducible repeat (first | apply Kd.S_alloc | apply Kd.S_drewN | apply Kd.S_drew)); exact (Kd.S_mono (Kd.S_far (p := ⟨gb1079, 1, none⟩) (Kd.S_far (p := ⟨gb1079, 0, none⟩) (Kd.S_types HO1078.out BK1079.out (by decide)) (fun _ hk => hk.2) (.int .i64 t1075)) (fun _ hk => hk.2) (.slice Ao53 t1076.length co53)) (fun _ h_ => h_.1))) (Kd.S_base ho0) hb); have n4_ := Aside0.mk (Kd.S_lower (Kd.S_new' (Kd.S_new' (Kd.S_new' (Kd.S_new' ho0 (Kd.S_lt (by (with_reducible repeat (first | apply Kd.S_alloc | apply Kd.S_drewN | apply Kd.S_drew)); exact (Kd.S_mono (Kd.S_far (p := ⟨gb1079, 1, none⟩) (Kd.S_far (p := ⟨gb1079, 0, none⟩) (Kd.S_types HO1065.out BK1079.out (by decide)) (fun _ hk => hk.2) (.int .i64 t1075)) (fun _ hk => hk.2) (.slice Ao53 t1076.length co53)) (fun _ h_ => h_.1))))) (Kd.S_lt (by (with_reducible repeat (first | apply Kd.S_alloc | apply Kd.S_drewN | apply Kd.S_drew)); exact (Kd.S_mono (Kd.S_far (p := ⟨gb1079, 1, none⟩) (Kd.S_far (p := ⟨gb1079, 0, none⟩) (Kd.S_types HO1069.out BK1079.out (by decide)) (fun _ hk => hk.2) (.int .i64 t1075)) (fun _ hk => hk.2) (.slice Ao53 t1076.length co53)) (fun _ h_ => h_.1))))) (Kd.R_lt (by (with_reducible repeat (first | apply Kd.R_alloc | apply Kd.R_drewN | apply Kd.R_drew)); exact (Kd.R_mono (Kd.R_far (p := ⟨gb1079, 1, none⟩) (Kd.R_far (p := ⟨gb1079, 0, none⟩) (Kd.R_types HO1072.out BK1079.out (by decide)) (fun _ hk => hk.2) (.int .i64 t1075)) (fun _ hk => hk.2) (.slice Ao53 t1076.length co53)) (fun _ h_ => h_.1))))) (Kd.S_lt (by (with_reducible repeat (first | apply Kd.S_alloc | apply Kd.S_drewN | apply Kd.S_drew)); exact (Kd.S_mono (Kd.S_far (p := ⟨gb1079, 1, none⟩) (Kd.S_far (p := ⟨gb1079, 0, none⟩) (Kd.S_types HO1078.out BK1079.out (by decide)) (fun _ hk => hk.2) (.int .i64 t1075)) (fun _ hk => hk.2) (.slice Ao53 t1076.length co53)) (fun _ h_ => h_.1))))) (below_size (by repeat (first | (with_reducible first | exact HB.out | apply below_alloc | apply pw_below_drewN | apply below_drew1 | refine below_set ?_ GE1058.out | refine below_set ?_ GE1059.out | refine below_set ?_ GE1079.out) | exact HB.out)))); have n5_ := Aside0.mk (blk_below (g := gb1058) (o := .cells #[.int .i64 a0_0, .slice A0_1 l0_1.length c0_1] 24 (0, 0)) (by (with_reducible repeat (first | refine blk_drewN ?_ _ | refine blk_drew ?_ | refine blk_alloc ?_ _)); refine blk_far ?_ NB1058_1079.out _; (with_reducible repeat (first | refine blk_drewN ?_ _ | refine blk_drew ?_ | refine blk_alloc ?_ _)); refine blk_far ?_ NB1058_1079.out _; (with_reducible repeat (first | refine blk_drewN ?_ _ | refine blk_drew ?_ | refine blk_alloc ?_ _)); exact BK1058.out) hb); have n6_ := Aside0.mk (blk_below (g := gb1059) (o := .cells #[.int .i64 a1_0, .slice A1_1 l1_1.length c1_1] 24 (0, 0)) (by (with_reducible repeat (first | refine blk_drewN ?_ _ | refine blk_drew ?_ | refine blk_alloc ?_ _)); refine blk_far ?_ NB1059_1079.out _; (with_reducible repeat (first | refine blk_drewN ?_ _ | refine blk_drew ?_ | refine blk_alloc ?_ _)); refine blk_far ?_ NB1059_1079.out _; (with_reducible repeat (first | refine blk_drewN ?_ _ | refine blk_drew ?_ | refine blk_alloc ?_ _)); exact BK1059.out) hb); have n7_ := Aside0.mk (blk_below (g := gb1079) (o := .cells #[.int .i64 t1075, .slice Ao53 t1076.length co53] 30 (0, 0)) (by (with_reducible repeat (first | refine blk_drewN ?_ _ | refine blk_drew ?_ | refine blk_alloc ?_ _)); refine blk_put (cs := #[.int .i64 t1075, .slice none 0 0]) ?_ 1 _ rfl; (with_reducible repeat (first | refine blk_drewN ?_ _ | refine blk_drew ?_ | refine blk_alloc ?_ _)); refine blk_put (cs := #[.int .i64 0, .slice none 0 0]) ?_ 0 _ rfl; (with_reducible repeat (first | refine blk_drewN ?_ _ | refine blk_drew ?_ | refine blk_alloc ?_ _)); exact BK1079.out) hb); have n8_ := Aside0.mk (below_step (by repeat (first | (with_reducible first | exact HB.out | apply below_alloc | apply pw_below_drewN | apply below_drew1 | refine below_set ?_ GE1058.out | refine below_set ?_ GE1059.out | refine below_set ?_ GE1079.out) | exact HB.out)) hb); clear HO1065; clear HO1069; clear HO1072; clear HO1078; clear BK1058; clear BK1059; clear BK1079; clear HB; have HO1065 := n0_; have HO1069 := n1_; have HO1072 := n2_; have HO1078 := n3_; have HO1083 := n4_; have BK1058 := n5_; have BK1059 := n6_; have BK1079 := n7_; have HB := n8_; clear n0_ n1_ n2_ n3_ n4_ n5_ n6_ n7_ n8_; (try clear hb); (try clear hb2); (try clear hk); (try clear hi); (try clear ho0)) | ((with_reducible refine gate_dst (N := 11) rfl ?_); refine box_event ?hg (N := 11) ?hd (cs := #[.int .i64 0, .slice none 0 0]) (t := 30) ?hr ?_; (case hd => rfl); (case hg => rfl); (case hr => first | (go_simp; done) | (go_simp; rfl)); intro gb1084 hg w56 hbox hb; have n0_ := Aside0.mk (Kd.S_below (by (with_reducible repeat (first | apply Kd.S_alloc | apply Kd.S_drewN | apply Kd.S_drew)); exact HO1065.out) hb); have n1_ := Aside0.mk (Kd.S_below (by (with_reducible repeat (first | apply Kd.S_alloc | apply Kd.S_drewN | apply Kd.S_drew)); exact HO1069.out) hb); have n2_ := Aside0.mk (Kd.R_below (by (with_reducible repeat (first | apply Kd.R_alloc | apply Kd.R_drewN | apply Kd.R_drew)); exact HO1072.out) hb); have n3_ := Aside0.mk (Kd.S_below (by (with_reducible repeat (first | apply Kd.S_alloc | apply Kd.S_drewN | apply Kd.S_drew)); exact HO1078.out) hb); have n4_ := Aside0.mk (Kd.S_below (by (with_reducible repeat (first | apply Kd.S_alloc | apply Kd.S_drewN | apply Kd.S_drew)); exact HO1083.out) hb); have n5_ := Aside0.mk (blk_below (g := gb1058) (o := .cells #[.int .i64 a0_0, .slice A0_1 l0_1.length c0_1] 24 (0, 0)) (by (with_reducible repeat (first | refine blk_drewN ?_ _ | refine blk_drew ?_ | refine blk_alloc ?_ _)); exact BK1058.out) hb); have n6_ := Aside0.mk (blk_below (g := gb1059) (o := .cells #[.int .i64 a1_0, .slice A1_1 l1_1.length c1_1] 24 (0, 0)) (by (with_reducible repeat (first | refine blk_drewN ?_ _ | refine blk_drew ?_ | refine blk_alloc ?_ _)); exact BK1059.out) hb); have n7_ := Aside0.mk (blk_below (g := gb1079) (o := .cells #[.int .i64 t1075, .slice Ao53 t1076.length co53] 30 (0, 0)) (by (with_reducible repeat (first | refine blk_drewN ?_ _ | refine blk_drew ?_ | refine blk_alloc ?_ _)); exact BK1079.out) hb); have n8_ := Aside0.mk (below_step (by repeat (first | (with_reducible first | exact HB.out | apply below_alloc | apply pw_below_drewN | apply below_drew1 | refine below_set ?_ GE1058.out | refine below_set ?_ GE1059.out | refine below_set ?_ GE1079.out) | exact HB.out)) hb); have n9_ := Aside0.mk (hbox); have n10_ := Aside0.mk ((by rw [hg]; exact (below_size (by repeat (first | (with_reducible first | exact HB.out | apply below_alloc | apply pw_below_drewN | apply below_drew1 | refine below_set ?_ GE1058.out | refine below_set ?_ GE1059.out | refine below_set ?_ GE1079.out) | exact HB.out))) : w.heap.size ≤ gb1084)); have n11_ := Aside0.mk ((by rw [hg]; exact (below_size (by repeat (first | (with_reducible first | exact HB.out | apply below_alloc | apply pw_below_drewN | apply below_drew1 | refine below_set ?_ GE1058.out | refine below_set ?_ GE1059.out | refine below_set ?_ GE1079.out) | exact HB.out))) : w.heap.size ≤ gb1084)); have n12_ := Aside0.mk ((by rw [hg]; exact Nat.ne_of_lt (blk_lt (g := gb1058) (o := .cells #[.int .i64 a0_0, .slice A0_1 l0_1.length c0_1] 24 (0, 0)) (by (with_reducible repeat (first | refine blk_drewN ?_ _ | refine blk_drew ?_ | refine blk_alloc ?_ _)); exact BK1058.out)) : gb1058 ≠ gb1084)); have n13_ := Aside0.mk ((by rw [hg]; exact Nat.ne_of_gt (blk_lt (g := gb1058) (o := .cells #[.int .i64 a0_0, .slice A0_1 l0_1.length c0_1] 24 (0, 0)) (by (with_reducible repeat (first | refine blk_drewN ?_ _ | refine blk_drew ?_ | refine blk_alloc ?_ _)); exact BK1058.out)) : gb1084 ≠ gb1058)); have n14_ := Aside0.mk ((by rw [hg]; exact Nat.ne_of_lt (blk_lt (g := gb1059) (o := .cells #[.int .i64 a1_0, .slice A1_1 l1_1.length c1_1] 24 (0, 0)) (by (with_reducible repeat (first | refine blk_drewN ?_ _ | refine blk_drew ?_ | refine blk_alloc ?_ _)); exact BK1059.out)) : gb1059 ≠ gb1084)); have n15_ := Aside0.mk ((by rw [hg]; exact Nat.ne_of_gt (blk_lt (g := gb1059) (o := .cells #[.int .i64 a1_0, .slice A1_1 l1_1.length c1_1] 24 (0, 0)) (by (with_reducible repeat (first | refine blk_drewN ?_ _ | refine blk_drew ?_ | refine blk_alloc ?_ _)); exact BK1059.out)) : gb1084 ≠ gb1059)); have n16_ := Aside0.mk ((by rw [hg]; exact Nat.ne_of_lt (blk_lt (g := gb1079) (o := .cells #[.int .i64 t1075, .slice Ao53 t1076.length co53] 30 (0, 0)) (by (with_reducible repeat (first | refine blk_drewN ?_ _ | refine blk_drew ?_ | refine blk_alloc ?_ _)); exact BK1079.out)) : gb1079 ≠ gb1084)); have n17_ := Aside0.mk ((by rw [hg]; exact Nat.ne_of_gt (blk_lt (g := gb1079) (o := .cells #[.int .i64 t1075, .slice Ao53 t1076.length co53] 30 (0, 0)) (by (with_reducible repeat (first | refine blk_drewN ?_ _ | refine blk_drew ?_ | refine blk_alloc ?_ _)); exact BK1079.out)) : gb1084 ≠ gb1079)); clear HO1065; clear HO1069; clear HO1072; clear HO1078; clear HO1083; clear BK1058; clear BK1059; clear BK1079; clear HB; have HO1065 := n0_; have HO1069 := n1_; have HO1072 := n2_; have HO1078 := n3_; have HO1083 := n4_; have BK1058 := n5_; have BK1059 := n6_; have BK1079 := n7_; have HB := n8_; have BK1084 := n9_; have GW1084 := n10_; have GE1084 := n11_; have NB1058_1084 := n12_; have NB1084_1058 := n13_; have NB1059_1084 := n14_; have NB1084_1059 := n15_; have NB1079_1084 := n16_; have NB1084_1079 := n17_; clear n0_ n1_ n2_ n3_ n4_ n5_ n6_ n7_ n8_ n9_ n10_ n11_ n12_ n13_ n14_ n15_ n16_ n17_; clear hb hbox hg; have hnb57 := NB1084_1058.out; have hnc57 := NB1058_1084.out; have hnb58 := NB1084_1059.out; have hnc58 := NB1059_1084.out; have hnb59 := NB1084_1079.out; have hnc59 := NB1079_1084.out; have hcz60_0 : w56.cell? ⟨gb1084, 0, none⟩ = some (.int .i64 0) := (blk_cell BK1084.out 0).trans rfl; have hcz60_1 : w56.cell? ⟨gb1084, 1, none⟩ = some (.slice none 0 0) := (blk_cell BK1084.out 1).trans rfl; have hfz60_0 := blk_frozen BK1084.out 0; have hfz60_1 := blk_frozen BK1084.out 1; obtain ⟨Ao61, co61, eo61⟩ := Kd.S_slice HO1083.out; subst eo61) | ((with_reducible refine gate_callee (f := 51) rfl ?_); refine goesL_ (some 43) rfl rfl Try.func51 (by kernel_rfl) rfl #[.slice A2 l2.length c2] rfl (by (try simp only [List.map_toArray, List.map_cons, List.map_nil]); first | done | rfl | (simp only [List.length_drop, List.length_take]; rfl)) ?_; (with_reducible refine (laws_toIntS.calls k _ _ l2 t1085 _ ?side1 ?side2 A29.out).mono ?_); (case side1 => exact Kd.C_below HR2.out (by repeat (first | (with_reducible first | exact HB.out | apply below_alloc | apply pw_below_drewN | apply below_drew1 | refine below_set ?_ GE1058.out | refine below_set ?_ GE1059.out | refine below_set ?_ GE1079.out | refine below_set ?_ GE1084.out) | exact HB.out))); (case side2 => exact HC2.out); rintro e w62 ⟨v1086, rfl, ho0, hb⟩; refine ⟨_, rfl, ?_⟩; have n0_ := Aside0.mk (Kd.S_elder' (by (with_reducible repeat (first | apply Kd.S_alloc | apply Kd.S_drewN | apply Kd.S_drew)); exact (Kd.S_mono (Kd.S_far (p := ⟨gb1084, 1, none⟩) (Kd.S_far (p := ⟨gb1084, 0, none⟩) (Kd.S_types HO1065.out BK1084.out (by decide)) (fun _ hk => hk.2) (.int .i64 t1080)) (fun _ hk => hk.2) (.slice Ao61 t1081.length co61)) (fun _ h_ => h_.1))) (Kd.R_base ho0) hb); have n1_ := Aside0.mk (Kd.S_elder' (by (with_reducible repeat (first | apply Kd.S_alloc | apply Kd.S_drewN | apply Kd.S_drew)); exact (Kd.S_mono (Kd.S_far (p := ⟨gb1084, 1, none⟩) (Kd.S_far (p := ⟨gb1084, 0, none⟩) (Kd.S_types HO1069.out BK1084.out (by decide)) (fun _ hk => hk.2) (.int .i64 t1080)) (fun _ hk => hk.2) (.slice Ao61 t1081.length co61)) (fun _ h_ => h_.1))) (Kd.R_base ho0) hb); have n2_ := Aside0.mk (Kd.R_elder' (by (with_reducible repeat (first | apply Kd.R_alloc | apply Kd.R_drewN | apply Kd.R_drew)); exact (Kd.R_mono (Kd.R_far (p := ⟨gb1084, 1, none⟩) (Kd.R_far (p := ⟨gb1084, 0, none⟩) (Kd.R_types HO1072.out BK1084.out (by decide)) (fun _ hk => hk.2) (.int .i64 t1080)) (fun _ hk => hk.2) (.slice Ao61 t1081.length co61)) (fun _ h_ => h_.1))) (Kd.R_base ho0) hb); have n3_ := Aside0.mk (Kd.S_elder' (by (with_reducible repeat (first | apply Kd.S_alloc | apply Kd.S_drewN | apply Kd.S_drew)); exact (Kd.S_mono (Kd.S_far (p := ⟨gb1084, 1, none⟩) (Kd.S_far (p := ⟨gb1084, 0, none⟩) (Kd.S_types HO1078.out BK1084.out (by decide)) (fun _ hk => hk.2) (.int .i64 t1080)) (fun _ hk => hk.2) (.slice Ao61 t1081.length co61)) (fun _ h_ => h_.1))) (Kd.R_base ho0) hb); have n4_ := Aside0.mk (Kd.S_elder' (by (with_reducible repeat (first | apply Kd.S_alloc | apply Kd.S_drewN | apply Kd.S_drew)); exact (Kd.S_mono (Kd.S_far (p := ⟨gb1084, 1, none⟩) (Kd.S_far (p := ⟨gb1084, 0, none⟩) (Kd.S_types HO1083.out BK1084.out (by decide)) (fun _ hk => hk.2) (.int .i64 t1080)) (fun _ hk => hk.2) (.slice Ao61 t1081.length co61)) (fun _ h_ => h_.1))) (Kd.R_base ho0) hb); have n5_ := Aside0.mk (Kd.R_lower (Kd.R_new' ho0 (Kd.R_lt (by (with_reducible repeat (first | apply Kd.R_alloc | apply Kd.R_drewN | apply Kd.R_drew)); exact (Kd.R_mono (Kd.R_far (p := ⟨gb1084, 1, none⟩) (Kd.R_far (p := ⟨gb1084, 0, none⟩) (Kd.R_types HO1072.out BK1084.out (by decide)) (fun _ hk => hk.2) (.int .i64 t1080)) (fun _ hk => hk.2) (.slice Ao61 t1081.length co61)) (fun _ h_ => h_.1))))) (below_size (by repeat (first | (with_reducible first | exact HB.out | apply below_alloc | apply pw_below_drewN | apply below_drew1 | refine below_set ?_ GE1058.out | refine below_set ?_ GE1059.out | refine below_set ?_ GE1079.out | refine below_set ?_ GE1084.out) | exact HB.out)))); have n6_ := Aside0.mk (blk_below (g := gb1058) (o := .cells #[.int .i64 a0_0, .slice A0_1 l0_1.length c0_1] 24 (0, 0)) (by (with_reducible repeat (first | refine blk_drewN ?_ _ | refine blk_drew ?_ | refine blk_alloc ?_ _)); refine blk_far ?_ NB1058_1084.out _; (with_reducible repeat (first | refine blk_drewN ?_ _ | refine blk_drew ?_ | refine blk_alloc ?_ _)); refine blk_far ?_ NB1058_1084.out _; (with_reducible repeat (first | refine blk_drewN ?_ _ | refine blk_drew ?_ | refine blk_alloc ?_ _)); exact BK1058.out) hb); have n7_ := Aside0.mk (blk_below (g := gb1059) (o := .cells #[.int .i64 a1_0, .slice A1_1 l1_1.length c1_1] 24 (0, 0)) (by (with_reducible repeat (first | refine blk_drewN ?_ _ | refine blk_drew ?_ | refine blk_alloc ?_ _)); refine blk_far ?_ NB1059_1084.out _; (with_reducible repeat (first | refine blk_drewN ?_ _ | refine blk_drew ?_ | refine blk_alloc ?_ _)); refine blk_far ?_ NB1059_1084.out _; (with_reducible repeat (first | refine blk_drewN ?_ _ | refine blk_drew ?_ | refine blk_alloc ?_ _)); exact BK1059.out) hb); have n8_ := Aside0.mk (blk_below (g := gb1079) (o := .cells #[.int .i64 t1075, .slice Ao53 t1076.length co53] 30 (0, 0)) (by (with_reducible repeat (first | refine blk_drewN ?_ _ | refine blk_drew ?_ | refine blk_alloc ?_ _)); refine blk_far ?_ NB1079_1084.out _; (with_reducible repeat (first | refine blk_drewN ?_ _ | refine blk_drew ?_ | refine blk_alloc ?_ _)); refine blk_far ?_ NB1079_1084.out _; (with_reducible repeat (first | refine blk_drewN ?_ _ | refine blk_drew ?_ | refine blk_alloc ?_ _)); exact BK1079.out) hb); have n9_ := Aside0.mk (blk_below (g := gb1084) (o := .cells #[.int .i64 t1080, .slice Ao61 t1081.length co61] 30 (0, 0)) (by (with_reducible repeat (first | refine blk_drewN ?_ _ | refine blk_drew ?_ | refine blk_alloc ?_ _)); refine blk_put (cs := #[.int .i64 t1080, .slice none 0 0]) ?_ 1 _ rfl; (with_reducible repeat (first | refine blk_drewN ?_ _ | refine blk_drew ?_ | refine blk_alloc ?_ _)); refine blk_put (cs := #[.int .i64 0, .slice none 0 0]) ?_ 0 _ rfl; (with_reducible repeat (first | refine blk_drewN ?_ _ | refine blk_drew ?_ | refine blk_alloc ?_ _)); exact BK1084.out) hb); have n10_ := Aside0.mk (below_step (by repeat (first | (with_reducible first | exact HB.out | apply below_alloc | apply pw_below_drewN | apply below_drew1 | refine below_set ?_ GE1058.out | refine below_set ?_ GE1059.out | refine below_set ?_ GE1079.out | refine below_set ?_ GE1084.out) | exact HB.out)) hb); clear HO1065; clear HO1069; clear HO1072; clear HO1078; clear HO1083; clear BK1058; clear BK1059; clear BK1079; clear BK1084; clear HB; have HO1065 := n0_; have HO1069 := n1_; have HO1072 := n2_; have HO1078 := n3_; have HO1083 := n4_; have HO1087 := n5_; have BK1058 := n6_; have BK1059 := n7_; have BK1079 := n8_; have BK1084 := n9_; have HB := n10_; clear n0_ n1_ n2_ n3_ n4_ n5_ n6_ n7_ n8_ n9_ n10_; (try clear hb); (try clear hb2); (try clear hk); (try clear hi); (try clear ho0); have hcz63_0 : w62.cell? ⟨gb1079, 0, none⟩ = some (.int .i64 t1075) := (blk_cell BK1079.out 0).trans rfl; have hcz63_1 : w62.cell? ⟨gb1079, 1, none⟩ = some (.slice Ao53 t1076.length co53) := (blk_cell BK1079.out 1).trans rfl; have hfz63_0 := blk_frozen BK1079.out 0; have hfz63_1 := blk_frozen BK1079.out 1; have hcz64_0 : w62.cell? ⟨gb1084, 0, none⟩ = some (.int .i64 t1080) := (blk_cell BK1084.out 0).trans rfl; have hcz64_1 : w62.cell? ⟨gb1084, 1, none⟩ = some (.slice Ao61 t1081.length co61) := (blk_cell BK1084.out 1).trans rfl; have hfz64_0 := blk_frozen BK1084.out 0; have hfz64_1 := blk_frozen BK1084.out 1; obtain ⟨Ao65, co65, eo65⟩ := Kd.R_slice HO1087.out; subst eo65) | ((with_reducible refine gate_callee (f := 52) rfl ?_); refine goesL_ (some 48) rfl rfl Try.func52 (by kernel_rfl) rfl #[.agg #[.int .i64 t1075, .slice Ao53 t1076.length co53], .agg #[.int .i64 t1080, .slice Ao61 t1081.length co61], .slice Ao65 t1085.length co65] rfl (by (try simp only [List.map_toArray, List.map_cons, List.map_nil]); first | done | rfl | (simp only [List.length_drop, List.length_take]; rfl)) ?_; (with_reducible refine (impl_IsHom.calls k t1075 _ _ t1076 t1080 _ _ t1081 _ _ t1085 t1088 t1089 _ ?side1 ?side2 ?side3 ?side4 ?side5 ?side6 A30.out).mono ?_); (case side1 => repeat (first | exact (Kd.S_reads' HO1078.out).2.2 | (with_reducible refine Kd.C_alloc ?_ _) | (with_reducible refine Kd.C_drewN ?_ _) | (with_reducible refine Kd.C_drew ?_))); (case side2 => exact (Kd.S_reads' HO1078.out).2.1); (case side3 => repeat (first | exact (Kd.S_reads' HO1083.out).2.2 | (with_reducible refine Kd.C_alloc ?_ _) | (with_reducible refine Kd.C_drewN ?_ _) | (with_reducible refine Kd.C_drew ?_))); (case side4 => exact (Kd.S_reads' HO1083.out).2.1); (case side5 => repeat (first | exact (Kd.R_reads' HO1087.out).2.2 | (with_reducible refine Kd.C_alloc ?_ _) | (with_reducible refine Kd.C_drewN ?_ _) | (with_reducible refine Kd.C_drew ?_))); (case side6 => exact (Kd.R_reads' HO1087.out).2.1); rintro e w66 ⟨rfl, hb⟩; refine ⟨_, rfl, ?_⟩; have n0_ := Aside0.mk (Kd.S_below (by (with_reducible repeat (first | apply Kd.S_alloc | apply Kd.S_drewN | apply Kd.S_drew)); exact HO1065.out) hb); have n1_ := Aside0.mk (Kd.S_below (by (with_reducible repeat (first | apply Kd.S_alloc | apply Kd.S_drewN | apply Kd.S_drew)); exact HO1069.out) hb); have n2_ := Aside0.mk (Kd.R_below (by (with_reducible repeat (first | apply Kd.R_alloc | apply Kd.R_drewN | apply Kd.R_drew)); exact HO1072.out) hb); have n3_ := Aside0.mk (Kd.S_below (by (with_reducible repeat (first | apply Kd.S_alloc | apply Kd.S_drewN | apply Kd.S_drew)); exact HO1078.out) hb); have n4_ := Aside0.mk (Kd.S_below (by (with_reducible repeat (first | apply Kd.S_alloc | apply Kd.S_drewN | apply Kd.S_drew)); exact HO1083.out) hb); have n5_ := Aside0.mk (Kd.R_below (by (with_reducible repeat (first | apply Kd.R_alloc | apply Kd.R_drewN | apply Kd.R_drew)); exact HO1087.out) hb); have n6_ := Aside0.mk (blk_below (g := gb1058) (o := .cells #[.int .i64 a0_0, .slice A0_1 l0_1.length c0_1] 24 (0, 0)) (by (with_reducible repeat (first | refine blk_drewN ?_ _ | refine blk_drew ?_ | refine blk_alloc ?_ _)); exact BK1058.out) hb); have n7_ := Aside0.mk (blk_below (g := gb1059) (o := .cells #[.int .i64 a1_0, .slice A1_1 l1_1.length c1_1] 24 (0, 0)) (by (with_reducible repeat (first | refine blk_drewN ?_ _ | refine blk_drew ?_ | refine blk_alloc ?_ _)); exact BK1059.out) hb); have n8_ := Aside0.mk (blk_below (g := gb1079) (o := .cells #[.int .i64 t1075, .slice Ao53 t1076.length co53] 30 (0, 0)) (by (with_reducible repeat (first | refine blk_drewN ?_ _ | refine blk_drew ?_ | refine blk_alloc ?_ _)); exact BK1079.out) hb); have n9_ := Aside0.mk (blk_below (g := gb1084) (o := .cells #[.int .i64 t1080, .slice Ao61 t1081.length co61] 30 (0, 0)) (by (with_reducible repeat (first | refine blk_drewN ?_ _ | refine blk_drew ?_ | refine blk_alloc ?_ _)); exact BK1084.out) hb); have n10_ := Aside0.mk (below_step (by repeat (first | (with_reducible first | exact HB.out | apply below_alloc | apply pw_below_drewN | apply below_drew1 | refine below_set ?_ GE1058.out | refine below_set ?_ GE1059.out | refine below_set ?_ GE1079.out | refine below_set ?_ GE1084.out) | exact HB.out)) hb); clear HO1065; clear HO1069; clear HO1072; clear HO1078; clear HO1083; clear HO1087; clear BK1058; clear BK1059; clear BK1079; clear BK1084; clear HB; have HO1065 := n0_; have HO1069 := n1_; have HO1072 := n2_; have HO1078 := n3_; have HO1083 := n4_; have HO1087 := n5_; have BK1058 := n6_; have BK1059 := n7_; have BK1079 := n8_; have BK1084 := n9_; have HB := n10_; clear n0_ n1_ n2_ n3_ n4_ n5_ n6_ n7_ n8_ n9_ n10_; (try clear hb); (try clear hb2); (try clear hk); (try clear hi)))
        (try simp only [Act.put, List.setIfInBounds_toArray, List.set_cons_zero, List.set_cons_succ])
        go_cut [58] (fun v58 wc => ∃ (kq : Nat) (x58_30 : Bool), v58 = .bool x58_30 ∧ Aside0 (laws_FnExactIsHom.j0 kq l2 t1085 x58_30 a0_0 l0_1 a1_0 l1_1 t1075 t1076 t1080 t1081 = some r) ∧ Aside0 (kq ≤ k) ∧ Aside0 (Kd.R (Kd.int .i64) 3 wc w.heap.size (fun _ => True) (.slice Ao65 t1085.length co65) t1085) ∧ Aside0 (Kd.S k87 87 wc w.heap.size (fun k_ => some k_ ≠ ((.slice Ao65 t1085.length co65) : Value).ownBlock ∧ some k_ ≠ ((.slice Ao61 t1081.length co61) : Value).ownBlock) (.slice Ao53 t1076.length co53) t1076) ∧ Aside0 (Kd.S k87 87 wc w.heap.size (fun k_ => some k_ ≠ ((.slice Ao65 t1085.length co65) : Value).ownBlock ∧ some k_ ≠ ((.slice Ao53 t1076.length co53) : Value).ownBlock) (.slice Ao61 t1081.length co61) t1081) ∧ Aside0 (wc.heap[gb1058]? = some (.cells #[.int .i64 a0_0, (.slice A0_1 l0_1.length c0_1)] 24 (0, 0))) ∧ Aside0 (wc.heap[gb1059]? = some (.cells #[.int .i64 a1_0, (.slice A1_1 l1_1.length c1_1)] 24 (0, 0))) ∧ Aside0 (wc.heap[gb1079]? = some (.cells #[.int .i64 t1075, (.slice Ao53 t1076.length co53)] 30 (0, 0))) ∧ Aside0 (wc.heap[gb1084]? = some (.cells #[.int .i64 t1080, (.slice Ao61 t1081.length co61)] 30 (0, 0))) ∧ Aside0 (Below w.heap.size w wc))
        case first =>
          have H := HC31.out
          clear HC31
          by_cases c67 : (t1088 != t1073) = true
          · rw [if_pos c67] at H
            have c67b0 : (t1088 != t1073) = true := c67
            (try (have c67b1 : decide (t1088 = t1073) = false := by simpa using c67))
            (try (have c67b2 : (t1088 == t1073) = false := by simpa using c67))
            (try (have c67b3 : ¬ (t1088 = t1073) := by simpa using c67))
            clear c67
            (first | rw [c67b0] | (simp only [i64_w, i32_w]; rw [c67b0]) | skip)
            have H' := Aside0.mk H
            clear H
            go_wp2
            go_meet
            case rel => exact ⟨_, (true), (by first | rfl | (simp; done) | (simp [*]; done)), H', ⟨by first | omega | exact Nat.le_refl _⟩, ⟨by (with_reducible repeat (first | apply Kd.R_alloc | apply Kd.R_drewN | apply Kd.R_drew)); exact Kd.R_mono HO1087.out (fun _ hk => trivial)⟩, ⟨by (with_reducible repeat (first | apply Kd.S_alloc | apply Kd.S_drewN | apply Kd.S_drew)); exact Kd.S_mono HO1078.out (fun _ hk => ⟨hk.2, hk.1.2⟩)⟩, ⟨by (with_reducible repeat (first | apply Kd.S_alloc | apply Kd.S_drewN | apply Kd.S_drew)); exact Kd.S_mono HO1083.out (fun _ hk => ⟨hk.2, hk.1.2⟩)⟩, ⟨by (with_reducible repeat (first | refine blk_drewN ?_ _ | refine blk_drew ?_ | refine blk_alloc ?_ _)); exact BK1058.out⟩, ⟨by (with_reducible repeat (first | refine blk_drewN ?_ _ | refine blk_drew ?_ | refine blk_alloc ?_ _)); exact BK1059.out⟩, ⟨by (with_reducible repeat (first | refine blk_drewN ?_ _ | refine blk_drew ?_ | refine blk_alloc ?_ _)); exact BK1079.out⟩, ⟨by (with_reducible repeat (first | refine blk_drewN ?_ _ | refine blk_drew ?_ | refine blk_alloc ?_ _)); exact BK1084.out⟩, ⟨by repeat (first | (with_reducible first | exact HB.out | apply below_alloc | apply pw_below_drewN | apply below_drew1 | refine below_set ?_ GE1058.out | refine below_set ?_ GE1059.out | refine below_set ?_ GE1079.out | refine below_set ?_ GE1084.out) | exact HB.out)⟩⟩
          · rw [if_neg c67] at H
            have c67b0 : (t1088 != t1073) = false := by simpa using c67
            (try (have c67b1 : decide (t1088 = t1073) = true := by simpa using c67))
            (try (have c67b2 : (t1088 == t1073) = true := by simpa using c67))
            clear c67
            (first | rw [c67b0] | (simp only [i64_w, i32_w]; rw [c67b0]) | skip)
            have H' := Aside0.mk H
            clear H
            go_wp2
            go_meet
            case rel => exact ⟨_, ((t1089 != t1074)), (by first | rfl | (simp; done) | (simp [*]; done)), H', ⟨by first | omega | exact Nat.le_refl _⟩, ⟨by (with_reducible repeat (first | apply Kd.R_alloc | apply Kd.R_drewN | apply Kd.R_drew)); exact Kd.R_mono HO1087.out (fun _ hk => trivial)⟩, ⟨by (with_reducible repeat (first | apply Kd.S_alloc | apply Kd.S_drewN | apply Kd.S_drew)); exact Kd.S_mono HO1078.out (fun _ hk => ⟨hk.2, hk.1.2⟩)⟩, ⟨by (with_reducible repeat (first | apply Kd.S_alloc | apply Kd.S_drewN | apply Kd.S_drew)); exact Kd.S_mono HO1083.out (fun _ hk => ⟨hk.2, hk.1.2⟩)⟩, ⟨by (with_reducible repeat (first | refine blk_drewN ?_ _ | refine blk_drew ?_ | refine blk_alloc ?_ _)); exact BK1058.out⟩, ⟨by (with_reducible repeat (first | refine blk_drewN ?_ _ | refine blk_drew ?_ | refine blk_alloc ?_ _)); exact BK1059.out⟩, ⟨by (with_reducible repeat (first | refine blk_drewN ?_ _ | refine blk_drew ?_ | refine blk_alloc ?_ _)); exact BK1079.out⟩, ⟨by (with_reducible repeat (first | refine blk_drewN ?_ _ | refine blk_drew ?_ | refine blk_alloc ?_ _)); exact BK1084.out⟩, ⟨by repeat (first | (with_reducible first | exact HB.out | apply below_alloc | apply pw_below_drewN | apply below_drew1 | refine below_set ?_ GE1058.out | refine below_set ?_ GE1059.out | refine below_set ?_ GE1079.out | refine below_set ?_ GE1084.out) | exact HB.out)⟩⟩
        case rest =>
          clear HC31
          try clear c1
          try clear c2
          try clear p2
          try clear c3
          try clear c4
          try clear c4b0
          try clear c4b1
          try clear c5
          try clear c6
          try clear c8
          try clear c8b0
          try clear c9
          try clear c11
          try clear c15
          try clear c15b0
          try clear c17
          try clear c18
          try clear c34
          try clear c50
          try clear c51
          try clear c52
          try clear c57
          try clear c58
          try clear c59
          try clear c67
          try clear c67b0
          try clear c67b1
          try clear c67b2
          try clear hcz12_0
          try clear hcz12_1
          try clear hcz19_0
          try clear hcz19_1
          try clear hcz21_0
          try clear hcz21_1
          try clear hcz35_0
          try clear hcz35_1
          try clear hcz37_0
          try clear hcz37_1
          try clear hcz47_0
          try clear hcz47_1
          try clear hcz52_0
          try clear hcz52_1
          try clear hcz54_0
          try clear hcz54_1
          try clear hcz60_0
          try clear hcz60_1
          try clear hcz63_0
          try clear hcz63_1
          try clear hcz64_0
          try clear hcz64_1
          try clear hfz12_0
          try clear hfz12_1
          try clear hfz19_0
          try clear hfz19_1
          try clear hfz21_0
          try clear hfz21_1
          try clear hfz35_0
          try clear hfz35_1
          try clear hfz37_0
          try clear hfz37_1
          try clear hfz47_0
          try clear hfz47_1
          try clear hfz52_0
          try clear hfz52_1
          try clear hfz54_0
          try clear hfz54_1
          try clear hfz60_0
          try clear hfz60_1
          try clear hfz63_0
          try clear hfz63_1
          try clear hfz64_0
          try clear hfz64_1
          obtain ⟨kq, x58_30, rfl, HA, HJ30, HO_12, HO_1080001, HO_1085001, BK1058, BK1059, BK1079, BK1084, HB⟩ := hcut
          cases kq with
          | zero => exact absurd HA.out (by simp [laws_FnExactIsHom.j0])
          | succ kj30 =>
            have H := HA.out
            clear HA
            simp only [laws_FnExactIsHom.j0] at H
            by_cases c68 : x58_30 = true
            · subst c68
              have H1 : (some false) = some r := by rw [if_pos rfl] at H; exact H
              clear H
              have H := H1
              clear H1
              obtain rfl := Option.some.inj H
              go_wp2
              go_ret
              exact ⟨by first | rfl | (simp [errW_none, errW_some] <;> rfl) | (simp [*, errW_none, errW_some] <;> rfl), by repeat (first | (with_reducible first | exact HB.out | apply below_alloc | apply pw_below_drewN | apply below_drew1 | refine below_set ?_ GE1058.out | refine below_set ?_ GE1059.out | refine below_set ?_ GE1079.out | refine below_set ?_ GE1084.out) | exact HB.out)⟩
            · replace c68 := Bool.eq_false_iff.mpr c68
              subst c68
              have H1 : ((laws_toAlgebra.f kj30 a0_0 l0_1).bind fun bt1090 => ((laws_eqAlgebra.f kj30 t1075 t1076 bt1090.1 bt1090.2).bind fun t1094 => (if t1094 = true then ((laws_toAlgebra.f kj30 a1_0 l1_1).bind fun bt1095 => ((laws_eqAlgebra.f kj30 t1080 t1081 bt1095.1 bt1095.2).bind fun t1099 => (if t1099 = true then ((laws_toIntS.f kj30 l2).bind fun t1100 => ((laws_eqIntS.f kj30 t1085 t1100).bind fun t1103 => (if t1103 = true then (some true) else (some false)))) else (some false)))) else (some false)))) = some r := by rw [if_neg (show ¬ (false = true) by decide)] at H; exact H
              clear H
              have H := H1
              clear H1
              replace H := Option.bind_eq_some_iff.mp H
              obtain ⟨⟨t1090, t1091⟩, A690, H⟩ := H
              replace H : ((laws_eqAlgebra.f kj30 t1075 t1076 t1090 t1091).bind fun t1094 => (if t1094 = true then ((laws_toAlgebra.f kj30 a1_0 l1_1).bind fun bt1095 => ((laws_eqAlgebra.f kj30 t1080 t1081 bt1095.1 bt1095.2).bind fun t1099 => (if t1099 = true then ((laws_toIntS.f kj30 l2).bind fun t1100 => ((laws_eqIntS.f kj30 t1085 t1100).bind fun t1103 => (if t1103 = true then (some true) else (some false)))) else (some false)))) else (some false))) = some r := H
              have A69 := Aside0.mk A690
              clear A690
              replace H := Option.bind_eq_some_iff.mp H
              obtain ⟨t1094, A700, H⟩ := H
              replace H : (if t1094 = true then ((laws_toAlgebra.f kj30 a1_0 l1_1).bind fun bt1095 => ((laws_eqAlgebra.f kj30 t1080 t1081 bt1095.1 bt1095.2).bind fun t1099 => (if t1099 = true then ((laws_toIntS.f kj30 l2).bind fun t1100 => ((laws_eqIntS.f kj30 t1085 t1100).bind fun t1103 => (if t1103 = true then (some true) else (some false)))) else (some false)))) else (some false)) = some r := H
              have A70 := Aside0.mk A700
              clear A700
              by_cases c71 : t1094 = true
              · subst c71
                have H1 : ((laws_toAlgebra.f kj30 a1_0 l1_1).bind fun bt1095 => ((laws_eqAlgebra.f kj30 t1080 t1081 bt1095.1 bt1095.2).bind fun t1099 => (if t1099 = true then ((laws_toIntS.f kj30 l2).bind fun t1100 => ((laws_eqIntS.f kj30 t1085 t1100).bind fun t1103 => (if t1103 = true then (some true) else (some false)))) else (some false)))) = some r := by rw [if_pos rfl] at H; exact H
                clear H
                have H := H1
                clear H1
                replace H := Option.bind_eq_some_iff.mp H
                obtain ⟨⟨t1095, t1096⟩, A720, H⟩ := H
                replace H : ((laws_eqAlgebra.f kj30 t1080 t1081 t1095 t1096).bind fun t1099 => (if t1099 = true then ((laws_toIntS.f kj30 l2).bind fun t1100 => ((laws_eqIntS.f kj30 t1085 t1100).bind fun t1103 => (if t1103 = true then (some true) else (some false)))) else (some false))) = some r := H
                have A72 := Aside0.mk A720
                clear A720
                replace H := Option.bind_eq_some_iff.mp H
                obtain ⟨t1099, A730, H⟩ := H
                replace H : (if t1099 = true then ((laws_toIntS.f kj30 l2).bind fun t1100 => ((laws_eqIntS.f kj30 t1085 t1100).bind fun t1103 => (if t1103 = true then (some true) else (some false)))) else (some false)) = some r := H
                have A73 := Aside0.mk A730
                clear A730
                by_cases c74 : t1099 = true
                · subst c74
                  have H1 : ((laws_toIntS.f kj30 l2).bind fun t1100 => ((laws_eqIntS.f kj30 t1085 t1100).bind fun t1103 => (if t1103 = true then (some true) else (some false)))) = some r := by rw [if_pos rfl] at H; exact H
                  clear H
                  have H := H1
                  clear H1
                  replace H := Option.bind_eq_some_iff.mp H
                  obtain ⟨t1100, A750, H⟩ := H
                  replace H : ((laws_eqIntS.f kj30 t1085 t1100).bind fun t1103 => (if t1103 = true then (some true) else (some false))) = some r := H
                  have A75 := Aside0.mk A750
                  clear A750
                  replace H := Option.bind_eq_some_iff.mp H
                  obtain ⟨t1103, A760, H⟩ := H
                  replace H : (if t1103 = true then (some true) else (some false)) = some r := H
                  have A76 := Aside0.mk A760
                  clear A760
                  by_cases c77 : t1103 = true
                  · subst c77
                    have H1 : (some true) = some r := by rw [if_pos rfl] at H; exact H
                    clear H
                    have H := H1
                    clear H1
                    obtain rfl := Option.some.inj H
                    try go_wp2
                    have n0_ := Aside0.mk (Kd.R_drew HO_12.out)
                    have n1_ := Aside0.mk (Kd.S_drew HO_1080001.out)
                    have n2_ := Aside0.mk (Kd.S_drew HO_1085001.out)
                    have n3_ := Aside0.mk (blk_drew BK1058.out)
                    have n4_ := Aside0.mk (blk_drew BK1059.out)
                    have n5_ := Aside0.mk (blk_drew BK1079.out)
                    have n6_ := Aside0.mk (blk_drew BK1084.out)
                    have n7_ := Aside0.mk (below_drew1 HB.out)
                    clear HO_12
                    clear HO_1080001
                    clear HO_1085001
                    clear BK1058
                    clear BK1059
                    clear BK1079
                    clear BK1084
                    clear HB
                    have HO_12 := n0_
                    have HO_1080001 := n1_
                    have HO_1085001 := n2_
                    have BK1058 := n3_
                    have BK1059 := n4_
                    have BK1079 := n5_
                    have BK1084 := n6_
                    have HB := n7_
                    clear n0_ n1_ n2_ n3_ n4_ n5_ n6_ n7_
                    refine start_ (n := 5) (S := fun w' => w'.cell? ⟨gb1079, 0, none⟩ = some (.int .i64 t1075) ∧ w'.cell? ⟨gb1079, 1, none⟩ = some (.slice Ao53 t1076.length co53) ∧ w'.cell? ⟨gb1058, 0, none⟩ = some (.int .i64 a0_0) ∧ w'.cell? ⟨gb1058, 1, none⟩ = some (.slice A0_1 l0_1.length c0_1)) (ds := []) #[false, false, false, false, false] (by kernel_rfl) rfl rfl ⟨(blk_cell BK1079.out 0).trans rfl, (blk_cell BK1079.out 1).trans rfl, (blk_cell BK1058.out 0).trans rfl, (blk_cell BK1058.out 1).trans rfl⟩ (fun hHeld => ?_)
                    generalize wc.drew = w78 at HO_12 HO_1080001 HO_1085001 BK1058 BK1059 BK1079 BK1084 HB hHeld ⊢
                    refine take_ (i := 0) (N := some 59) (v := ?_) (a' := ?_) #[true, false, false, false, false] rfl rfl (by kernel_rfl) (fun _ _ _ h => h) (Or.inl ⟨by rfl, ?_⟩) hHeld ?_ ?_
                    rotate_left
                    · rintro w' ⟨s0, s1, s2, s3⟩
                      go_simp
                      with_reducible rfl
                    rotate_left
                    · simp only [Act.put, List.setIfInBounds_toArray, List.set_cons_zero, List.set_cons_succ, i64_w, i32_w]
                      rfl
                    refine take_ (i := 1) (N := some 60) (v := ?_) (a' := ?_) #[true, true, false, false, false] rfl rfl (by kernel_rfl) (fun _ _ _ h => h) (Or.inl ⟨by rfl, ?_⟩) hHeld ?_ ?_
                    rotate_left
                    · rintro w' ⟨s0, s1, s2, s3⟩
                      go_simp
                      with_reducible rfl
                    rotate_left
                    · simp only [Act.put, List.setIfInBounds_toArray, List.set_cons_zero, List.set_cons_succ, i64_w, i32_w]
                      rfl
                    refine one_ (i := 2) (N := some 61) #[true, true, true, false, false] rfl rfl (by kernel_rfl) (by decide) (fun K hK => ?_)
                    refine goes_ Try.func17 (by kernel_rfl) rfl #[.agg #[.int .i64 a0_0, .slice A0_1 l0_1.length c0_1]] (by rfl) rfl rfl (by (try simp only [List.map_toArray, List.map_cons, List.map_nil]); first | done | rfl | (simp only [List.length_drop, List.length_take]; rfl)) ?_
                    with_reducible refine (laws_toAlgebra.calls kj30 a0_0 _ _ l0_1 t1090 t1091 _ ?side1 ?side2 A69.out).mono ?_
                    (case side1 => repeat (first | exact (Kd.C_below HR0_1.out HB.out) | (with_reducible refine Kd.C_alloc ?_ _) | (with_reducible refine Kd.C_drewN ?_ _) | (with_reducible refine Kd.C_drew ?_)))
                    (case side2 => exact HC0_1.out)
                    rintro e w79 ⟨v1092, rfl, ho0, hb⟩
                    refine ⟨_, rfl, ?_⟩
                    have n0_ := Aside0.mk (Kd.R_below (by (with_reducible repeat (first | apply Kd.R_alloc | apply Kd.R_drewN | apply Kd.R_drew)); exact HO_12.out) hb)
                    have n1_ := Aside0.mk (Kd.S_elder' (by (with_reducible repeat (first | apply Kd.S_alloc | apply Kd.S_drewN | apply Kd.S_drew)); exact HO_1080001.out) (Kd.S_base ho0) hb)
                    have n2_ := Aside0.mk (Kd.S_elder' (by (with_reducible repeat (first | apply Kd.S_alloc | apply Kd.S_drewN | apply Kd.S_drew)); exact HO_1085001.out) (Kd.S_base ho0) hb)
                    have n3_ := Aside0.mk (Kd.S_lower (Kd.S_new' (Kd.S_new' (Kd.S_new' ho0 (Kd.R_lt (by (with_reducible repeat (first | apply Kd.R_alloc | apply Kd.R_drewN | apply Kd.R_drew)); exact HO_12.out))) (Kd.S_lt (by (with_reducible repeat (first | apply Kd.S_alloc | apply Kd.S_drewN | apply Kd.S_drew)); exact HO_1080001.out))) (Kd.S_lt (by (with_reducible repeat (first | apply Kd.S_alloc | apply Kd.S_drewN | apply Kd.S_drew)); exact HO_1085001.out))) (below_size (by repeat (first | (with_reducible first | exact HB.out | apply below_alloc | apply pw_below_drewN | apply below_drew1 | refine below_set ?_ GE1058.out | refine below_set ?_ GE1059.out | refine below_set ?_ GE1079.out | refine below_set ?_ GE1084.out) | exact HB.out))))
                    have n4_ := Aside0.mk (blk_below (g := gb1058) (o := .cells #[.int .i64 a0_0, .slice A0_1 l0_1.length c0_1] 24 (0, 0)) (by (with_reducible repeat (first | refine blk_drewN ?_ _ | refine blk_drew ?_ | refine blk_alloc ?_ _)); exact BK1058.out) hb)
                    have n5_ := Aside0.mk (blk_below (g := gb1059) (o := .cells #[.int .i64 a1_0, .slice A1_1 l1_1.length c1_1] 24 (0, 0)) (by (with_reducible repeat (first | refine blk_drewN ?_ _ | refine blk_drew ?_ | refine blk_alloc ?_ _)); exact BK1059.out) hb)
                    have n6_ := Aside0.mk (blk_below (g := gb1079) (o := .cells #[.int .i64 t1075, .slice Ao53 t1076.length co53] 30 (0, 0)) (by (with_reducible repeat (first | refine blk_drewN ?_ _ | refine blk_drew ?_ | refine blk_alloc ?_ _)); exact BK1079.out) hb)
                    have n7_ := Aside0.mk (blk_below (g := gb1084) (o := .cells #[.int .i64 t1080, .slice Ao61 t1081.length co61] 30 (0, 0)) (by (with_reducible repeat (first | refine blk_drewN ?_ _ | refine blk_drew ?_ | refine blk_alloc ?_ _)); exact BK1084.out) hb)
                    have n8_ := Aside0.mk (below_step (by repeat (first | (with_reducible first | exact HB.out | apply below_alloc | apply pw_below_drewN | apply below_drew1 | refine below_set ?_ GE1058.out | refine below_set ?_ GE1059.out | refine below_set ?_ GE1079.out | refine below_set ?_ GE1084.out) | exact HB.out)) hb)
                    clear HO_12
                    clear HO_1080001
                    clear HO_1085001
                    clear BK1058
                    clear BK1059
                    clear BK1079
                    clear BK1084
                    clear HB
                    have HO_12 := n0_
                    have HO_1080001 := n1_
                    have HO_1085001 := n2_
                    have HO1093 := n3_
                    have BK1058 := n4_
                    have BK1059 := n5_
                    have BK1079 := n6_
                    have BK1084 := n7_
                    have HB := n8_
                    clear n0_ n1_ n2_ n3_ n4_ n5_ n6_ n7_ n8_
                    (try clear hb)
                    (try clear hb2)
                    (try clear hk)
                    (try clear hi)
                    (try clear ho0)
                    obtain ⟨Ao80, co80, eo80⟩ := Kd.S_slice HO1093.out
                    (first | subst eo80 | (injection eo80 with f1_ f2_ f3_; have f4_ := f1_.symm; have f5_ := f3_.symm; clear f1_ f2_ f3_; subst f4_; subst f5_))
                    refine hK.out _ _ ⟨(blk_cell BK1079.out 0).trans rfl, (blk_cell BK1079.out 1).trans rfl, (blk_cell BK1058.out 0).trans rfl, (blk_cell BK1058.out 1).trans rfl⟩ (fun hHeld => ?_)
                    clear hK K
                    refine norm_ (a' := ?_) ?_ ?_
                    rotate_left
                    · show Act.put _ (some 61) _ = _
                      simp only [Act.put, List.setIfInBounds_toArray, List.set_cons_zero, List.set_cons_succ, i64_w, i32_w]
                      rfl
                    refine one_ (i := 3) (N := some 62) #[true, true, true, true, false] rfl rfl (by kernel_rfl) (by decide) (fun K hK => ?_)
                    refine goes_ Try.func19 (by kernel_rfl) rfl #[.agg #[.int .i64 t1075, .slice Ao53 t1076.length co53], .agg #[.int .i64 t1090, .slice Ao80 t1091.length co80]] (by rfl) rfl rfl (by (try simp only [List.map_toArray, List.map_cons, List.map_nil]); first | done | rfl | (simp only [List.length_drop, List.length_take]; rfl)) ?_
                    with_reducible refine (laws_eqAlgebra.calls kj30 t1075 _ _ t1076 t1090 _ _ t1091 true _ ?side1 ?side2 ?side3 ?side4 A70.out).mono ?_
                    (case side1 => repeat (first | exact (Kd.S_reads' HO_1080001.out).2.2 | (with_reducible refine Kd.C_alloc ?_ _) | (with_reducible refine Kd.C_drewN ?_ _) | (with_reducible refine Kd.C_drew ?_)))
                    (case side2 => exact (Kd.S_reads' HO_1080001.out).2.1)
                    (case side3 => repeat (first | exact (Kd.S_reads' HO1093.out).2.2 | (with_reducible refine Kd.C_alloc ?_ _) | (with_reducible refine Kd.C_drewN ?_ _) | (with_reducible refine Kd.C_drew ?_)))
                    (case side4 => exact (Kd.S_reads' HO1093.out).2.1)
                    rintro e w81 ⟨rfl, hb⟩
                    refine ⟨_, rfl, ?_⟩
                    have n0_ := Aside0.mk (Kd.R_below (by (with_reducible repeat (first | apply Kd.R_alloc | apply Kd.R_drewN | apply Kd.R_drew)); exact HO_12.out) hb)
                    have n1_ := Aside0.mk (Kd.S_below (by (with_reducible repeat (first | apply Kd.S_alloc | apply Kd.S_drewN | apply Kd.S_drew)); exact HO_1080001.out) hb)
                    have n2_ := Aside0.mk (Kd.S_below (by (with_reducible repeat (first | apply Kd.S_alloc | apply Kd.S_drewN | apply Kd.S_drew)); exact HO_1085001.out) hb)
                    have n3_ := Aside0.mk (Kd.S_below (by (with_reducible repeat (first | apply Kd.S_alloc | apply Kd.S_drewN | apply Kd.S_drew)); exact HO1093.out) hb)
                    have n4_ := Aside0.mk (blk_below (g := gb1058) (o := .cells #[.int .i64 a0_0, .slice A0_1 l0_1.length c0_1] 24 (0, 0)) (by (with_reducible repeat (first | refine blk_drewN ?_ _ | refine blk_drew ?_ | refine blk_alloc ?_ _)); exact BK1058.out) hb)
                    have n5_ := Aside0.mk (blk_below (g := gb1059) (o := .cells #[.int .i64 a1_0, .slice A1_1 l1_1.length c1_1] 24 (0, 0)) (by (with_reducible repeat (first | refine blk_drewN ?_ _ | refine blk_drew ?_ | refine blk_alloc ?_ _)); exact BK1059.out) hb)
                    have n6_ := Aside0.mk (blk_below (g := gb1079) (o := .cells #[.int .i64 t1075, .slice Ao53 t1076.length co53] 30 (0, 0)) (by (with_reducible repeat (first | refine blk_drewN ?_ _ | refine blk_drew ?_ | refine blk_alloc ?_ _)); exact BK1079.out) hb)
                    have n7_ := Aside0.mk (blk_below (g := gb1084) (o := .cells #[.int .i64 t1080, .slice Ao61 t1081.length co61] 30 (0, 0)) (by (with_reducible repeat (first | refine blk_drewN ?_ _ | refine blk_drew ?_ | refine blk_alloc ?_ _)); exact BK1084.out) hb)
                    have n8_ := Aside0.mk (below_step (by repeat (first | (with_reducible first | exact HB.out | apply below_alloc | apply pw_below_drewN | apply below_drew1 | refine below_set ?_ GE1058.out | refine below_set ?_ GE1059.out | refine below_set ?_ GE1079.out | refine below_set ?_ GE1084.out) | exact HB.out)) hb)
                    clear HO_12
                    clear HO_1080001
                    clear HO_1085001
                    clear HO1093
                    clear BK1058
                    clear BK1059
                    clear BK1079
                    clear BK1084
                    clear HB
                    have HO_12 := n0_
                    have HO_1080001 := n1_
                    have HO_1085001 := n2_
                    have HO1093 := n3_
                    have BK1058 := n4_
                    have BK1059 := n5_
                    have BK1079 := n6_
                    have BK1084 := n7_
                    have HB := n8_
                    clear n0_ n1_ n2_ n3_ n4_ n5_ n6_ n7_ n8_
                    (try clear hb)
                    (try clear hb2)
                    (try clear hk)
                    (try clear hi)
                    refine hK.out _ _ ⟨(blk_cell BK1079.out 0).trans rfl, (blk_cell BK1079.out 1).trans rfl, (blk_cell BK1058.out 0).trans rfl, (blk_cell BK1058.out 1).trans rfl⟩ (fun hHeld => ?_)
                    clear hK K
                    refine norm_ (a' := ?_) ?_ ?_
                    rotate_left
                    · show Act.put _ (some 62) _ = _
                      simp only [Act.put, List.setIfInBounds_toArray, List.set_cons_zero, List.set_cons_succ, i64_w, i32_w]
                      rfl
                    refine pure_ (i := 4) (N := some 63) (v := ?_) (a' := ?_) #[true, true, true, true, true] rfl rfl (by kernel_rfl) (fun _ _ _ h => h) (Or.inl ⟨by rfl, ?_⟩) ?_ ?_
                    rotate_left
                    · intro w'
                      go_simp
                      with_reducible rfl
                    rotate_left
                    · simp only [Act.put, List.setIfInBounds_toArray, List.set_cons_zero, List.set_cons_succ, i64_w, i32_w]
                      rfl
                    refine done_ (by kernel_rfl) ?_
                    try go_wp2
                    have n0_ := Aside0.mk (Kd.R_drew HO_12.out)
                    have n1_ := Aside0.mk (Kd.S_drew HO_1080001.out)
                    have n2_ := Aside0.mk (Kd.S_drew HO_1085001.out)
                    have n3_ := Aside0.mk (Kd.S_drew HO1093.out)
                    have n4_ := Aside0.mk (blk_drew BK1058.out)
                    have n5_ := Aside0.mk (blk_drew BK1059.out)
                    have n6_ := Aside0.mk (blk_drew BK1079.out)
                    have n7_ := Aside0.mk (blk_drew BK1084.out)
                    have n8_ := Aside0.mk (below_drew1 HB.out)
                    clear HO_12
                    clear HO_1080001
                    clear HO_1085001
                    clear HO1093
                    clear BK1058
                    clear BK1059
                    clear BK1079
                    clear BK1084
                    clear HB
                    have HO_12 := n0_
                    have HO_1080001 := n1_
                    have HO_1085001 := n2_
                    have HO1093 := n3_
                    have BK1058 := n4_
                    have BK1059 := n5_
                    have BK1079 := n6_
                    have BK1084 := n7_
                    have HB := n8_
                    clear n0_ n1_ n2_ n3_ n4_ n5_ n6_ n7_ n8_
                    refine start_ (n := 5) (S := fun w' => w'.cell? ⟨gb1084, 0, none⟩ = some (.int .i64 t1080) ∧ w'.cell? ⟨gb1084, 1, none⟩ = some (.slice Ao61 t1081.length co61) ∧ w'.cell? ⟨gb1059, 0, none⟩ = some (.int .i64 a1_0) ∧ w'.cell? ⟨gb1059, 1, none⟩ = some (.slice A1_1 l1_1.length c1_1)) (ds := []) #[false, false, false, false, false] (by kernel_rfl) rfl rfl ⟨(blk_cell BK1084.out 0).trans rfl, (blk_cell BK1084.out 1).trans rfl, (blk_cell BK1059.out 0).trans rfl, (blk_cell BK1059.out 1).trans rfl⟩ (fun hHeld => ?_)
                    generalize w81.drew = w82 at HO_12 HO_1080001 HO_1085001 HO1093 BK1058 BK1059 BK1079 BK1084 HB hHeld ⊢
                    refine take_ (i := 0) (N := some 64) (v := ?_) (a' := ?_) #[true, false, false, false, false] rfl rfl (by kernel_rfl) (fun _ _ _ h => h) (Or.inl ⟨by rfl, ?_⟩) hHeld ?_ ?_
                    rotate_left
                    · rintro w' ⟨s0, s1, s2, s3⟩
                      go_simp
                      with_reducible rfl
                    rotate_left
                    · simp only [Act.put, List.setIfInBounds_toArray, List.set_cons_zero, List.set_cons_succ, i64_w, i32_w]
                      rfl
                    refine take_ (i := 1) (N := some 65) (v := ?_) (a' := ?_) #[true, true, false, false, false] rfl rfl (by kernel_rfl) (fun _ _ _ h => h) (Or.inl ⟨by rfl, ?_⟩) hHeld ?_ ?_
                    rotate_left
                    · rintro w' ⟨s0, s1, s2, s3⟩
                      go_simp
                      with_reducible rfl
                    rotate_left
                    · simp only [Act.put, List.setIfInBounds_toArray, List.set_cons_zero, List.set_cons_succ, i64_w, i32_w]
                      rfl
                    refine one_ (i := 2) (N := some 66) #[true, true, true, false, false] rfl rfl (by kernel_rfl) (by decide) (fun K hK => ?_)
                    refine goes_ Try.func17 (by kernel_rfl) rfl #[.agg #[.int .i64 a1_0, .slice A1_1 l1_1.length c1_1]] (by rfl) rfl rfl (by (try simp only [List.map_toArray, List.map_cons, List.map_nil]); first | done | rfl | (simp only [List.length_drop, List.length_take]; rfl)) ?_
                    with_reducible refine (laws_toAlgebra.calls kj30 a1_0 _ _ l1_1 t1095 t1096 _ ?side1 ?side2 A72.out).mono ?_
                    (case side1 => repeat (first | exact (Kd.C_below HR1_1.out HB.out) | (with_reducible refine Kd.C_alloc ?_ _) | (with_reducible refine Kd.C_drewN ?_ _) | (with_reducible refine Kd.C_drew ?_)))
                    (case side2 => exact HC1_1.out)
                    rintro e w83 ⟨v1097, rfl, ho0, hb⟩
                    refine ⟨_, rfl, ?_⟩
                    have n0_ := Aside0.mk (Kd.R_below (by (with_reducible repeat (first | apply Kd.R_alloc | apply Kd.R_drewN | apply Kd.R_drew)); exact HO_12.out) hb)
                    have n1_ := Aside0.mk (Kd.S_elder' (by (with_reducible repeat (first | apply Kd.S_alloc | apply Kd.S_drewN | apply Kd.S_drew)); exact HO_1080001.out) (Kd.S_base ho0) hb)
                    have n2_ := Aside0.mk (Kd.S_elder' (by (with_reducible repeat (first | apply Kd.S_alloc | apply Kd.S_drewN | apply Kd.S_drew)); exact HO_1085001.out) (Kd.S_base ho0) hb)
                    have n3_ := Aside0.mk (Kd.S_elder' (by (with_reducible repeat (first | apply Kd.S_alloc | apply Kd.S_drewN | apply Kd.S_drew)); exact HO1093.out) (Kd.S_base ho0) hb)
                    have n4_ := Aside0.mk (Kd.S_lower (Kd.S_new' (Kd.S_new' (Kd.S_new' (Kd.S_new' ho0 (Kd.R_lt (by (with_reducible repeat (first | apply Kd.R_alloc | apply Kd.R_drewN | apply Kd.R_drew)); exact HO_12.out))) (Kd.S_lt (by (with_reducible repeat (first | apply Kd.S_alloc | apply Kd.S_drewN | apply Kd.S_drew)); exact HO_1080001.out))) (Kd.S_lt (by (with_reducible repeat (first | apply Kd.S_alloc | apply Kd.S_drewN | apply Kd.S_drew)); exact HO_1085001.out))) (Kd.S_lt (by (with_reducible repeat (first | apply Kd.S_alloc | apply Kd.S_drewN | apply Kd.S_drew)); exact HO1093.out))) (below_size (by repeat (first | (with_reducible first | exact HB.out | apply below_alloc | apply pw_below_drewN | apply below_drew1 | refine below_set ?_ GE1058.out | refine below_set ?_ GE1059.out | refine below_set ?_ GE1079.out | refine below_set ?_ GE1084.out) | exact HB.out))))
                    have n5_ := Aside0.mk (blk_below (g := gb1058) (o := .cells #[.int .i64 a0_0, .slice A0_1 l0_1.length c0_1] 24 (0, 0)) (by (with_reducible repeat (first | refine blk_drewN ?_ _ | refine blk_drew ?_ | refine blk_alloc ?_ _)); exact BK1058.out) hb)
                    have n6_ := Aside0.mk (blk_below (g := gb1059) (o := .cells #[.int .i64 a1_0, .slice A1_1 l1_1.length c1_1] 24 (0, 0)) (by (with_reducible repeat (first | refine blk_drewN ?_ _ | refine blk_drew ?_ | refine blk_alloc ?_ _)); exact BK1059.out) hb)
                    have n7_ := Aside0.mk (blk_below (g := gb1079) (o := .cells #[.int .i64 t1075, .slice Ao53 t1076.length co53] 30 (0, 0)) (by (with_reducible repeat (first | refine blk_drewN ?_ _ | refine blk_drew ?_ | refine blk_alloc ?_ _)); exact BK1079.out) hb)
                    have n8_ := Aside0.mk (blk_below (g := gb1084) (o := .cells #[.int .i64 t1080, .slice Ao61 t1081.length co61] 30 (0, 0)) (by (with_reducible repeat (first | refine blk_drewN ?_ _ | refine blk_drew ?_ | refine blk_alloc ?_ _)); exact BK1084.out) hb)
                    have n9_ := Aside0.mk (below_step (by repeat (first | (with_reducible first | exact HB.out | apply below_alloc | apply pw_below_drewN | apply below_drew1 | refine below_set ?_ GE1058.out | refine below_set ?_ GE1059.out | refine below_set ?_ GE1079.out | refine below_set ?_ GE1084.out) | exact HB.out)) hb)
                    clear HO_12
                    clear HO_1080001
                    clear HO_1085001
                    clear HO1093
                    clear BK1058
                    clear BK1059
                    clear BK1079
                    clear BK1084
                    clear HB
                    have HO_12 := n0_
                    have HO_1080001 := n1_
                    have HO_1085001 := n2_
                    have HO1093 := n3_
                    have HO1098 := n4_
                    have BK1058 := n5_
                    have BK1059 := n6_
                    have BK1079 := n7_
                    have BK1084 := n8_
                    have HB := n9_
                    clear n0_ n1_ n2_ n3_ n4_ n5_ n6_ n7_ n8_ n9_
                    (try clear hb)
                    (try clear hb2)
                    (try clear hk)
                    (try clear hi)
                    (try clear ho0)
                    obtain ⟨Ao84, co84, eo84⟩ := Kd.S_slice HO1098.out
                    (first | subst eo84 | (injection eo84 with f1_ f2_ f3_; have f4_ := f1_.symm; have f5_ := f3_.symm; clear f1_ f2_ f3_; subst f4_; subst f5_))
                    refine hK.out _ _ ⟨(blk_cell BK1084.out 0).trans rfl, (blk_cell BK1084.out 1).trans rfl, (blk_cell BK1059.out 0).trans rfl, (blk_cell BK1059.out 1).trans rfl⟩ (fun hHeld => ?_)
                    clear hK K
                    refine norm_ (a' := ?_) ?_ ?_
                    rotate_left
                    · show Act.put _ (some 66) _ = _
                      simp only [Act.put, List.setIfInBounds_toArray, List.set_cons_zero, List.set_cons_succ, i64_w, i32_w]
                      rfl
                    refine one_ (i := 3) (N := some 67) #[true, true, true, true, false] rfl rfl (by kernel_rfl) (by decide) (fun K hK => ?_)
                    refine goes_ Try.func19 (by kernel_rfl) rfl #[.agg #[.int .i64 t1080, .slice Ao61 t1081.length co61], .agg #[.int .i64 t1095, .slice Ao84 t1096.length co84]] (by rfl) rfl rfl (by (try simp only [List.map_toArray, List.map_cons, List.map_nil]); first | done | rfl | (simp only [List.length_drop, List.length_take]; rfl)) ?_
                    with_reducible refine (laws_eqAlgebra.calls kj30 t1080 _ _ t1081 t1095 _ _ t1096 true _ ?side1 ?side2 ?side3 ?side4 A73.out).mono ?_
                    (case side1 => repeat (first | exact (Kd.S_reads' HO_1085001.out).2.2 | (with_reducible refine Kd.C_alloc ?_ _) | (with_reducible refine Kd.C_drewN ?_ _) | (with_reducible refine Kd.C_drew ?_)))
                    (case side2 => exact (Kd.S_reads' HO_1085001.out).2.1)
                    (case side3 => repeat (first | exact (Kd.S_reads' HO1098.out).2.2 | (with_reducible refine Kd.C_alloc ?_ _) | (with_reducible refine Kd.C_drewN ?_ _) | (with_reducible refine Kd.C_drew ?_)))
                    (case side4 => exact (Kd.S_reads' HO1098.out).2.1)
                    rintro e w85 ⟨rfl, hb⟩
                    refine ⟨_, rfl, ?_⟩
                    have n0_ := Aside0.mk (Kd.R_below (by (with_reducible repeat (first | apply Kd.R_alloc | apply Kd.R_drewN | apply Kd.R_drew)); exact HO_12.out) hb)
                    have n1_ := Aside0.mk (Kd.S_below (by (with_reducible repeat (first | apply Kd.S_alloc | apply Kd.S_drewN | apply Kd.S_drew)); exact HO_1080001.out) hb)
                    have n2_ := Aside0.mk (Kd.S_below (by (with_reducible repeat (first | apply Kd.S_alloc | apply Kd.S_drewN | apply Kd.S_drew)); exact HO_1085001.out) hb)
                    have n3_ := Aside0.mk (Kd.S_below (by (with_reducible repeat (first | apply Kd.S_alloc | apply Kd.S_drewN | apply Kd.S_drew)); exact HO1093.out) hb)
                    have n4_ := Aside0.mk (Kd.S_below (by (with_reducible repeat (first | apply Kd.S_alloc | apply Kd.S_drewN | apply Kd.S_drew)); exact HO1098.out) hb)
                    have n5_ := Aside0.mk (blk_below (g := gb1058) (o := .cells #[.int .i64 a0_0, .slice A0_1 l0_1.length c0_1] 24 (0, 0)) (by (with_reducible repeat (first | refine blk_drewN ?_ _ | refine blk_drew ?_ | refine blk_alloc ?_ _)); exact BK1058.out) hb)
                    have n6_ := Aside0.mk (blk_below (g := gb1059) (o := .cells #[.int .i64 a1_0, .slice A1_1 l1_1.length c1_1] 24 (0, 0)) (by (with_reducible repeat (first | refine blk_drewN ?_ _ | refine blk_drew ?_ | refine blk_alloc ?_ _)); exact BK1059.out) hb)
                    have n7_ := Aside0.mk (blk_below (g := gb1079) (o := .cells #[.int .i64 t1075, .slice Ao53 t1076.length co53] 30 (0, 0)) (by (with_reducible repeat (first | refine blk_drewN ?_ _ | refine blk_drew ?_ | refine blk_alloc ?_ _)); exact BK1079.out) hb)
                    have n8_ := Aside0.mk (blk_below (g := gb1084) (o := .cells #[.int .i64 t1080, .slice Ao61 t1081.length co61] 30 (0, 0)) (by (with_reducible repeat (first | refine blk_drewN ?_ _ | refine blk_drew ?_ | refine blk_alloc ?_ _)); exact BK1084.out) hb)
                    have n9_ := Aside0.mk (below_step (by repeat (first | (with_reducible first | exact HB.out | apply below_alloc | apply pw_below_drewN | apply below_drew1 | refine below_set ?_ GE1058.out | refine below_set ?_ GE1059.out | refine below_set ?_ GE1079.out | refine below_set ?_ GE1084.out) | exact HB.out)) hb)
                    clear HO_12
                    clear HO_1080001
                    clear HO_1085001
                    clear HO1093
                    clear HO1098
                    clear BK1058
                    clear BK1059
                    clear BK1079
                    clear BK1084
                    clear HB
                    have HO_12 := n0_
                    have HO_1080001 := n1_
                    have HO_1085001 := n2_
                    have HO1093 := n3_
                    have HO1098 := n4_
                    have BK1058 := n5_
                    have BK1059 := n6_
                    have BK1079 := n7_
                    have BK1084 := n8_
                    have HB := n9_
                    clear n0_ n1_ n2_ n3_ n4_ n5_ n6_ n7_ n8_ n9_
                    (try clear hb)
                    (try clear hb2)
                    (try clear hk)
                    (try clear hi)
                    refine hK.out _ _ ⟨(blk_cell BK1084.out 0).trans rfl, (blk_cell BK1084.out 1).trans rfl, (blk_cell BK1059.out 0).trans rfl, (blk_cell BK1059.out 1).trans rfl⟩ (fun hHeld => ?_)
                    clear hK K
                    refine norm_ (a' := ?_) ?_ ?_
                    rotate_left
                    · show Act.put _ (some 67) _ = _
                      simp only [Act.put, List.setIfInBounds_toArray, List.set_cons_zero, List.set_cons_succ, i64_w, i32_w]
                      rfl
                    refine pure_ (i := 4) (N := some 68) (v := ?_) (a' := ?_) #[true, true, true, true, true] rfl rfl (by kernel_rfl) (fun _ _ _ h => h) (Or.inl ⟨by rfl, ?_⟩) ?_ ?_
                    rotate_left
                    · intro w'
                      go_simp
                      with_reducible rfl
                    rotate_left
                    · simp only [Act.put, List.setIfInBounds_toArray, List.set_cons_zero, List.set_cons_succ, i64_w, i32_w]
                      rfl
                    refine done_ (by kernel_rfl) ?_
                    try go_wp2_with (first | ((with_reducible refine gate_callee (f := 51) rfl ?_); refine goesL_ (some 71) rfl rfl Try.func51 (by kernel_rfl) rfl #[.slice A2 l2.length c2] rfl (by (try simp only [List.map_toArray, List.map_cons, List.map_nil]); first | done | rfl | (simp only [List.length_drop, List.length_take]; rfl)) ?_; (with_reducible refine (laws_toIntS.calls kj30 _ _ l2 t1100 _ ?side1 ?side2 A75.out).mono ?_); (case side1 => repeat (first | exact (Kd.C_below HR2.out HB.out) | (with_reducible refine Kd.C_alloc ?_ _) | (with_reducible refine Kd.C_drewN ?_ _) | (with_reducible refine Kd.C_drew ?_))); (case side2 => exact HC2.out); rintro e w86 ⟨v1101, rfl, ho0, hb⟩; refine ⟨_, rfl, ?_⟩; have n0_ := Aside0.mk (Kd.R_elder' (by (with_reducible repeat (first | apply Kd.R_alloc | apply Kd.R_drewN | apply Kd.R_drew)); exact HO_12.out) (Kd.R_base ho0) hb); have n1_ := Aside0.mk (Kd.S_elder' (by (with_reducible repeat (first | apply Kd.S_alloc | apply Kd.S_drewN | apply Kd.S_drew)); exact HO_1080001.out) (Kd.R_base ho0) hb); have n2_ := Aside0.mk (Kd.S_elder' (by (with_reducible repeat (first | apply Kd.S_alloc | apply Kd.S_drewN | apply Kd.S_drew)); exact HO_1085001.out) (Kd.R_base ho0) hb); have n3_ := Aside0.mk (Kd.S_elder' (by (with_reducible repeat (first | apply Kd.S_alloc | apply Kd.S_drewN | apply Kd.S_drew)); exact HO1093.out) (Kd.R_base ho0) hb); have n4_ := Aside0.mk (Kd.S_elder' (by (with_reducible repeat (first | apply Kd.S_alloc | apply Kd.S_drewN | apply Kd.S_drew)); exact HO1098.out) (Kd.R_base ho0) hb); have n5_ := Aside0.mk (Kd.R_lower (Kd.R_new' ho0 (Kd.R_lt (by (with_reducible repeat (first | apply Kd.R_alloc | apply Kd.R_drewN | apply Kd.R_drew)); exact HO_12.out))) (below_size (by repeat (first | (with_reducible first | exact HB.out | apply below_alloc | apply pw_below_drewN | apply below_drew1 | refine below_set ?_ GE1058.out | refine below_set ?_ GE1059.out | refine below_set ?_ GE1079.out | refine below_set ?_ GE1084.out) | exact HB.out)))); have n6_ := Aside0.mk (blk_below (g := gb1058) (o := .cells #[.int .i64 a0_0, .slice A0_1 l0_1.length c0_1] 24 (0, 0)) (by (with_reducible repeat (first | refine blk_drewN ?_ _ | refine blk_drew ?_ | refine blk_alloc ?_ _)); exact BK1058.out) hb); have n7_ := Aside0.mk (blk_below (g := gb1059) (o := .cells #[.int .i64 a1_0, .slice A1_1 l1_1.length c1_1] 24 (0, 0)) (by (with_reducible repeat (first | refine blk_drewN ?_ _ | refine blk_drew ?_ | refine blk_alloc ?_ _)); exact BK1059.out) hb); have n8_ := Aside0.mk (blk_below (g := gb1079) (o := .cells #[.int .i64 t1075, .slice Ao53 t1076.length co53] 30 (0, 0)) (by (with_reducible repeat (first | refine blk_drewN ?_ _ | refine blk_drew ?_ | refine blk_alloc ?_ _)); exact BK1079.out) hb); have n9_ := Aside0.mk (blk_below (g := gb1084) (o := .cells #[.int .i64 t1080, .slice Ao61 t1081.length co61] 30 (0, 0)) (by (with_reducible repeat (first | refine blk_drewN ?_ _ | refine blk_drew ?_ | refine blk_alloc ?_ _)); exact BK1084.out) hb); have n10_ := Aside0.mk (below_step (by repeat (first | (with_reducible first | exact HB.out | apply below_alloc | apply pw_below_drewN | apply below_drew1 | refine below_set ?_ GE1058.out | refine below_set ?_ GE1059.out | refine below_set ?_ GE1079.out | refine below_set ?_ GE1084.out) | exact HB.out)) hb); clear HO_12; clear HO_1080001; clear HO_1085001; clear HO1093; clear HO1098; clear BK1058; clear BK1059; clear BK1079; clear BK1084; clear HB; have HO_12 := n0_; have HO_1080001 := n1_; have HO_1085001 := n2_; have HO1093 := n3_; have HO1098 := n4_; have HO1102 := n5_; have BK1058 := n6_; have BK1059 := n7_; have BK1079 := n8_; have BK1084 := n9_; have HB := n10_; clear n0_ n1_ n2_ n3_ n4_ n5_ n6_ n7_ n8_ n9_ n10_; (try clear hb); (try clear hb2); (try clear hk); (try clear hi); (try clear ho0); obtain ⟨Ao87, co87, eo87⟩ := Kd.R_slice HO1102.out; subst eo87) | ((with_reducible refine gate_callee (f := 30) rfl ?_); refine goesL_ (some 72) rfl rfl Try.func30 (by kernel_rfl) rfl #[.slice Ao65 t1085.length co65, .slice Ao87 t1100.length co87] rfl (by (try simp only [List.map_toArray, List.map_cons, List.map_nil]); first | done | rfl | (simp only [List.length_drop, List.length_take]; rfl)) ?_; (with_reducible refine (laws_eqIntS.calls kj30 _ _ t1085 _ _ t1100 true _ ?side1 ?side2 ?side3 ?side4 A76.out).mono ?_); (case side1 => repeat (first | exact (Kd.R_reads' HO_12.out).2.2 | (with_reducible refine Kd.C_alloc ?_ _) | (with_reducible refine Kd.C_drewN ?_ _) | (with_reducible refine Kd.C_drew ?_))); (case side2 => exact (Kd.R_reads' HO_12.out).2.1); (case side3 => repeat (first | exact (Kd.R_reads' HO1102.out).2.2 | (with_reducible refine Kd.C_alloc ?_ _) | (with_reducible refine Kd.C_drewN ?_ _) | (with_reducible refine Kd.C_drew ?_))); (case side4 => exact (Kd.R_reads' HO1102.out).2.1); rintro e w' ⟨rfl, ⟨nd, rfl⟩⟩; refine ⟨_, rfl, ?_⟩))
                    go_ret
                    exact ⟨by first | rfl | (simp [errW_none, errW_some] <;> rfl) | (simp [*, errW_none, errW_some] <;> rfl), by repeat (first | (with_reducible first | exact HB.out | apply below_alloc | apply pw_below_drewN | apply below_drew1 | refine below_set ?_ GE1058.out | refine below_set ?_ GE1059.out | refine below_set ?_ GE1079.out | refine below_set ?_ GE1084.out) | exact HB.out)⟩
                  · replace c77 := Bool.eq_false_iff.mpr c77
                    subst c77
                    have H1 : (some false) = some r := by rw [if_neg (show ¬ (false = true) by decide)] at H; exact H
                    clear H
                    have H := H1
                    clear H1
                    obtain rfl := Option.some.inj H
                    try go_wp2
                    have n0_ := Aside0.mk (Kd.R_drew HO_12.out)
                    have n1_ := Aside0.mk (Kd.S_drew HO_1080001.out)
                    have n2_ := Aside0.mk (Kd.S_drew HO_1085001.out)
                    have n3_ := Aside0.mk (blk_drew BK1058.out)
                    have n4_ := Aside0.mk (blk_drew BK1059.out)
                    have n5_ := Aside0.mk (blk_drew BK1079.out)
                    have n6_ := Aside0.mk (blk_drew BK1084.out)
                    have n7_ := Aside0.mk (below_drew1 HB.out)
                    clear HO_12
                    clear HO_1080001
                    clear HO_1085001
                    clear BK1058
                    clear BK1059
                    clear BK1079
                    clear BK1084
                    clear HB
                    have HO_12 := n0_
                    have HO_1080001 := n1_
                    have HO_1085001 := n2_
                    have BK1058 := n3_
                    have BK1059 := n4_
                    have BK1079 := n5_
                    have BK1084 := n6_
                    have HB := n7_
                    clear n0_ n1_ n2_ n3_ n4_ n5_ n6_ n7_
                    refine start_ (n := 5) (S := fun w' => w'.cell? ⟨gb1079, 0, none⟩ = some (.int .i64 t1075) ∧ w'.cell? ⟨gb1079, 1, none⟩ = some (.slice Ao53 t1076.length co53) ∧ w'.cell? ⟨gb1058, 0, none⟩ = some (.int .i64 a0_0) ∧ w'.cell? ⟨gb1058, 1, none⟩ = some (.slice A0_1 l0_1.length c0_1)) (ds := []) #[false, false, false, false, false] (by kernel_rfl) rfl rfl ⟨(blk_cell BK1079.out 0).trans rfl, (blk_cell BK1079.out 1).trans rfl, (blk_cell BK1058.out 0).trans rfl, (blk_cell BK1058.out 1).trans rfl⟩ (fun hHeld => ?_)
                    generalize wc.drew = w88 at HO_12 HO_1080001 HO_1085001 BK1058 BK1059 BK1079 BK1084 HB hHeld ⊢
                    refine take_ (i := 0) (N := some 59) (v := ?_) (a' := ?_) #[true, false, false, false, false] rfl rfl (by kernel_rfl) (fun _ _ _ h => h) (Or.inl ⟨by rfl, ?_⟩) hHeld ?_ ?_
                    rotate_left
                    · rintro w' ⟨s0, s1, s2, s3⟩
                      go_simp
                      with_reducible rfl
                    rotate_left
                    · simp only [Act.put, List.setIfInBounds_toArray, List.set_cons_zero, List.set_cons_succ, i64_w, i32_w]
                      rfl
                    refine take_ (i := 1) (N := some 60) (v := ?_) (a' := ?_) #[true, true, false, false, false] rfl rfl (by kernel_rfl) (fun _ _ _ h => h) (Or.inl ⟨by rfl, ?_⟩) hHeld ?_ ?_
                    rotate_left
                    · rintro w' ⟨s0, s1, s2, s3⟩
                      go_simp
                      with_reducible rfl
                    rotate_left
                    · simp only [Act.put, List.setIfInBounds_toArray, List.set_cons_zero, List.set_cons_succ, i64_w, i32_w]
                      rfl
                    refine one_ (i := 2) (N := some 61) #[true, true, true, false, false] rfl rfl (by kernel_rfl) (by decide) (fun K hK => ?_)
                    refine goes_ Try.func17 (by kernel_rfl) rfl #[.agg #[.int .i64 a0_0, .slice A0_1 l0_1.length c0_1]] (by rfl) rfl rfl (by (try simp only [List.map_toArray, List.map_cons, List.map_nil]); first | done | rfl | (simp only [List.length_drop, List.length_take]; rfl)) ?_
                    with_reducible refine (laws_toAlgebra.calls kj30 a0_0 _ _ l0_1 t1090 t1091 _ ?side1 ?side2 A69.out).mono ?_
                    (case side1 => repeat (first | exact (Kd.C_below HR0_1.out HB.out) | (with_reducible refine Kd.C_alloc ?_ _) | (with_reducible refine Kd.C_drewN ?_ _) | (with_reducible refine Kd.C_drew ?_)))
                    (case side2 => exact HC0_1.out)
                    rintro e w89 ⟨v1092, rfl, ho0, hb⟩
                    refine ⟨_, rfl, ?_⟩
                    have n0_ := Aside0.mk (Kd.R_below (by (with_reducible repeat (first | apply Kd.R_alloc | apply Kd.R_drewN | apply Kd.R_drew)); exact HO_12.out) hb)
                    have n1_ := Aside0.mk (Kd.S_elder' (by (with_reducible repeat (first | apply Kd.S_alloc | apply Kd.S_drewN | apply Kd.S_drew)); exact HO_1080001.out) (Kd.S_base ho0) hb)
                    have n2_ := Aside0.mk (Kd.S_elder' (by (with_reducible repeat (first | apply Kd.S_alloc | apply Kd.S_drewN | apply Kd.S_drew)); exact HO_1085001.out) (Kd.S_base ho0) hb)
                    have n3_ := Aside0.mk (Kd.S_lower (Kd.S_new' (Kd.S_new' (Kd.S_new' ho0 (Kd.R_lt (by (with_reducible repeat (first | apply Kd.R_alloc | apply Kd.R_drewN | apply Kd.R_drew)); exact HO_12.out))) (Kd.S_lt (by (with_reducible repeat (first | apply Kd.S_alloc | apply Kd.S_drewN | apply Kd.S_drew)); exact HO_1080001.out))) (Kd.S_lt (by (with_reducible repeat (first | apply Kd.S_alloc | apply Kd.S_drewN | apply Kd.S_drew)); exact HO_1085001.out))) (below_size (by repeat (first | (with_reducible first | exact HB.out | apply below_alloc | apply pw_below_drewN | apply below_drew1 | refine below_set ?_ GE1058.out | refine below_set ?_ GE1059.out | refine below_set ?_ GE1079.out | refine below_set ?_ GE1084.out) | exact HB.out))))
                    have n4_ := Aside0.mk (blk_below (g := gb1058) (o := .cells #[.int .i64 a0_0, .slice A0_1 l0_1.length c0_1] 24 (0, 0)) (by (with_reducible repeat (first | refine blk_drewN ?_ _ | refine blk_drew ?_ | refine blk_alloc ?_ _)); exact BK1058.out) hb)
                    have n5_ := Aside0.mk (blk_below (g := gb1059) (o := .cells #[.int .i64 a1_0, .slice A1_1 l1_1.length c1_1] 24 (0, 0)) (by (with_reducible repeat (first | refine blk_drewN ?_ _ | refine blk_drew ?_ | refine blk_alloc ?_ _)); exact BK1059.out) hb)
                    have n6_ := Aside0.mk (blk_below (g := gb1079) (o := .cells #[.int .i64 t1075, .slice Ao53 t1076.length co53] 30 (0, 0)) (by (with_reducible repeat (first | refine blk_drewN ?_ _ | refine blk_drew ?_ | refine blk_alloc ?_ _)); exact BK1079.out) hb)
                    have n7_ := Aside0.mk (blk_below (g := gb1084) (o := .cells #[.int .i64 t1080, .slice Ao61 t1081.length co61] 30 (0, 0)) (by (with_reducible repeat (first | refine blk_drewN ?_ _ | refine blk_drew ?_ | refine blk_alloc ?_ _)); exact BK1084.out) hb)
                    have n8_ := Aside0.mk (below_step (by repeat (first | (with_reducible first | exact HB.out | apply below_alloc | apply pw_below_drewN | apply below_drew1 | refine below_set ?_ GE1058.out | refine below_set ?_ GE1059.out | refine below_set ?_ GE1079.out | refine below_set ?_ GE1084.out) | exact HB.out)) hb)
                    clear HO_12
                    clear HO_1080001
                    clear HO_1085001
                    clear BK1058
                    clear BK1059
                    clear BK1079
                    clear BK1084
                    clear HB
                    have HO_12 := n0_
                    have HO_1080001 := n1_
                    have HO_1085001 := n2_
                    have HO1093 := n3_
                    have BK1058 := n4_
                    have BK1059 := n5_
                    have BK1079 := n6_
                    have BK1084 := n7_
                    have HB := n8_
                    clear n0_ n1_ n2_ n3_ n4_ n5_ n6_ n7_ n8_
                    (try clear hb)
                    (try clear hb2)
                    (try clear hk)
                    (try clear hi)
                    (try clear ho0)
                    obtain ⟨Ao90, co90, eo90⟩ := Kd.S_slice HO1093.out
                    (first | subst eo90 | (injection eo90 with f1_ f2_ f3_; have f4_ := f1_.symm; have f5_ := f3_.symm; clear f1_ f2_ f3_; subst f4_; subst f5_))
                    refine hK.out _ _ ⟨(blk_cell BK1079.out 0).trans rfl, (blk_cell BK1079.out 1).trans rfl, (blk_cell BK1058.out 0).trans rfl, (blk_cell BK1058.out 1).trans rfl⟩ (fun hHeld => ?_)
                    clear hK K
                    refine norm_ (a' := ?_) ?_ ?_
                    rotate_left
                    · show Act.put _ (some 61) _ = _
                      simp only [Act.put, List.setIfInBounds_toArray, List.set_cons_zero, List.set_cons_succ, i64_w, i32_w]
                      rfl
                    refine one_ (i := 3) (N := some 62) #[true, true, true, true, false] rfl rfl (by kernel_rfl) (by decide) (fun K hK => ?_)
                    refine goes_ Try.func19 (by kernel_rfl) rfl #[.agg #[.int .i64 t1075, .slice Ao53 t1076.length co53], .agg #[.int .i64 t1090, .slice Ao90 t1091.length co90]] (by rfl) rfl rfl (by (try simp only [List.map_toArray, List.map_cons, List.map_nil]); first | done | rfl | (simp only [List.length_drop, List.length_take]; rfl)) ?_
                    with_reducible refine (laws_eqAlgebra.calls kj30 t1075 _ _ t1076 t1090 _ _ t1091 true _ ?side1 ?side2 ?side3 ?side4 A70.out).mono ?_
                    (case side1 => repeat (first | exact (Kd.S_reads' HO_1080001.out).2.2 | (with_reducible refine Kd.C_alloc ?_ _) | (with_reducible refine Kd.C_drewN ?_ _) | (with_reducible refine Kd.C_drew ?_)))
                    (case side2 => exact (Kd.S_reads' HO_1080001.out).2.1)
                    (case side3 => repeat (first | exact (Kd.S_reads' HO1093.out).2.2 | (with_reducible refine Kd.C_alloc ?_ _) | (with_reducible refine Kd.C_drewN ?_ _) | (with_reducible refine Kd.C_drew ?_)))
                    (case side4 => exact (Kd.S_reads' HO1093.out).2.1)
                    rintro e w91 ⟨rfl, hb⟩
                    refine ⟨_, rfl, ?_⟩
                    have n0_ := Aside0.mk (Kd.R_below (by (with_reducible repeat (first | apply Kd.R_alloc | apply Kd.R_drewN | apply Kd.R_drew)); exact HO_12.out) hb)
                    have n1_ := Aside0.mk (Kd.S_below (by (with_reducible repeat (first | apply Kd.S_alloc | apply Kd.S_drewN | apply Kd.S_drew)); exact HO_1080001.out) hb)
                    have n2_ := Aside0.mk (Kd.S_below (by (with_reducible repeat (first | apply Kd.S_alloc | apply Kd.S_drewN | apply Kd.S_drew)); exact HO_1085001.out) hb)
                    have n3_ := Aside0.mk (Kd.S_below (by (with_reducible repeat (first | apply Kd.S_alloc | apply Kd.S_drewN | apply Kd.S_drew)); exact HO1093.out) hb)
                    have n4_ := Aside0.mk (blk_below (g := gb1058) (o := .cells #[.int .i64 a0_0, .slice A0_1 l0_1.length c0_1] 24 (0, 0)) (by (with_reducible repeat (first | refine blk_drewN ?_ _ | refine blk_drew ?_ | refine blk_alloc ?_ _)); exact BK1058.out) hb)
                    have n5_ := Aside0.mk (blk_below (g := gb1059) (o := .cells #[.int .i64 a1_0, .slice A1_1 l1_1.length c1_1] 24 (0, 0)) (by (with_reducible repeat (first | refine blk_drewN ?_ _ | refine blk_drew ?_ | refine blk_alloc ?_ _)); exact BK1059.out) hb)
                    have n6_ := Aside0.mk (blk_below (g := gb1079) (o := .cells #[.int .i64 t1075, .slice Ao53 t1076.length co53] 30 (0, 0)) (by (with_reducible repeat (first | refine blk_drewN ?_ _ | refine blk_drew ?_ | refine blk_alloc ?_ _)); exact BK1079.out) hb)
                    have n7_ := Aside0.mk (blk_below (g := gb1084) (o := .cells #[.int .i64 t1080, .slice Ao61 t1081.length co61] 30 (0, 0)) (by (with_reducible repeat (first | refine blk_drewN ?_ _ | refine blk_drew ?_ | refine blk_alloc ?_ _)); exact BK1084.out) hb)
                    have n8_ := Aside0.mk (below_step (by repeat (first | (with_reducible first | exact HB.out | apply below_alloc | apply pw_below_drewN | apply below_drew1 | refine below_set ?_ GE1058.out | refine below_set ?_ GE1059.out | refine below_set ?_ GE1079.out | refine below_set ?_ GE1084.out) | exact HB.out)) hb)
                    clear HO_12
                    clear HO_1080001
                    clear HO_1085001
                    clear HO1093
                    clear BK1058
                    clear BK1059
                    clear BK1079
                    clear BK1084
                    clear HB
                    have HO_12 := n0_
                    have HO_1080001 := n1_
                    have HO_1085001 := n2_
                    have HO1093 := n3_
                    have BK1058 := n4_
                    have BK1059 := n5_
                    have BK1079 := n6_
                    have BK1084 := n7_
                    have HB := n8_
                    clear n0_ n1_ n2_ n3_ n4_ n5_ n6_ n7_ n8_
                    (try clear hb)
                    (try clear hb2)
                    (try clear hk)
                    (try clear hi)
                    refine hK.out _ _ ⟨(blk_cell BK1079.out 0).trans rfl, (blk_cell BK1079.out 1).trans rfl, (blk_cell BK1058.out 0).trans rfl, (blk_cell BK1058.out 1).trans rfl⟩ (fun hHeld => ?_)
                    clear hK K
                    refine norm_ (a' := ?_) ?_ ?_
                    rotate_left
                    · show Act.put _ (some 62) _ = _
                      simp only [Act.put, List.setIfInBounds_toArray, List.set_cons_zero, List.set_cons_succ, i64_w, i32_w]
                      rfl
                    refine pure_ (i := 4) (N := some 63) (v := ?_) (a' := ?_) #[true, true, true, true, true] rfl rfl (by kernel_rfl) (fun _ _ _ h => h) (Or.inl ⟨by rfl, ?_⟩) ?_ ?_
                    rotate_left
                    · intro w'
                      go_simp
                      with_reducible rfl
                    rotate_left
                    · simp only [Act.put, List.setIfInBounds_toArray, List.set_cons_zero, List.set_cons_succ, i64_w, i32_w]
                      rfl
                    refine done_ (by kernel_rfl) ?_
                    try go_wp2
                    have n0_ := Aside0.mk (Kd.R_drew HO_12.out)
                    have n1_ := Aside0.mk (Kd.S_drew HO_1080001.out)
                    have n2_ := Aside0.mk (Kd.S_drew HO_1085001.out)
                    have n3_ := Aside0.mk (Kd.S_drew HO1093.out)
                    have n4_ := Aside0.mk (blk_drew BK1058.out)
                    have n5_ := Aside0.mk (blk_drew BK1059.out)
                    have n6_ := Aside0.mk (blk_drew BK1079.out)
                    have n7_ := Aside0.mk (blk_drew BK1084.out)
                    have n8_ := Aside0.mk (below_drew1 HB.out)
                    clear HO_12
                    clear HO_1080001
                    clear HO_1085001
                    clear HO1093
                    clear BK1058
                    clear BK1059
                    clear BK1079
                    clear BK1084
                    clear HB
                    have HO_12 := n0_
                    have HO_1080001 := n1_
                    have HO_1085001 := n2_
                    have HO1093 := n3_
                    have BK1058 := n4_
                    have BK1059 := n5_
                    have BK1079 := n6_
                    have BK1084 := n7_
                    have HB := n8_
                    clear n0_ n1_ n2_ n3_ n4_ n5_ n6_ n7_ n8_
                    refine start_ (n := 5) (S := fun w' => w'.cell? ⟨gb1084, 0, none⟩ = some (.int .i64 t1080) ∧ w'.cell? ⟨gb1084, 1, none⟩ = some (.slice Ao61 t1081.length co61) ∧ w'.cell? ⟨gb1059, 0, none⟩ = some (.int .i64 a1_0) ∧ w'.cell? ⟨gb1059, 1, none⟩ = some (.slice A1_1 l1_1.length c1_1)) (ds := []) #[false, false, false, false, false] (by kernel_rfl) rfl rfl ⟨(blk_cell BK1084.out 0).trans rfl, (blk_cell BK1084.out 1).trans rfl, (blk_cell BK1059.out 0).trans rfl, (blk_cell BK1059.out 1).trans rfl⟩ (fun hHeld => ?_)
                    generalize w91.drew = w92 at HO_12 HO_1080001 HO_1085001 HO1093 BK1058 BK1059 BK1079 BK1084 HB hHeld ⊢
                    refine take_ (i := 0) (N := some 64) (v := ?_) (a' := ?_) #[true, false, false, false, false] rfl rfl (by kernel_rfl) (fun _ _ _ h => h) (Or.inl ⟨by rfl, ?_⟩) hHeld ?_ ?_
                    rotate_left
                    · rintro w' ⟨s0, s1, s2, s3⟩
                      go_simp
                      with_reducible rfl
                    rotate_left
                    · simp only [Act.put, List.setIfInBounds_toArray, List.set_cons_zero, List.set_cons_succ, i64_w, i32_w]
                      rfl
                    refine take_ (i := 1) (N := some 65) (v := ?_) (a' := ?_) #[true, true, false, false, false] rfl rfl (by kernel_rfl) (fun _ _ _ h => h) (Or.inl ⟨by rfl, ?_⟩) hHeld ?_ ?_
                    rotate_left
                    · rintro w' ⟨s0, s1, s2, s3⟩
                      go_simp
                      with_reducible rfl
                    rotate_left
                    · simp only [Act.put, List.setIfInBounds_toArray, List.set_cons_zero, List.set_cons_succ, i64_w, i32_w]
                      rfl
                    refine one_ (i := 2) (N := some 66) #[true, true, true, false, false] rfl rfl (by kernel_rfl) (by decide) (fun K hK => ?_)
                    refine goes_ Try.func17 (by kernel_rfl) rfl #[.agg #[.int .i64 a1_0, .slice A1_1 l1_1.length c1_1]] (by rfl) rfl rfl (by (try simp only [List.map_toArray, List.map_cons, List.map_nil]); first | done | rfl | (simp only [List.length_drop, List.length_take]; rfl)) ?_
                    with_reducible refine (laws_toAlgebra.calls kj30 a1_0 _ _ l1_1 t1095 t1096 _ ?side1 ?side2 A72.out).mono ?_
                    (case side1 => repeat (first | exact (Kd.C_below HR1_1.out HB.out) | (with_reducible refine Kd.C_alloc ?_ _) | (with_reducible refine Kd.C_drewN ?_ _) | (with_reducible refine Kd.C_drew ?_)))
                    (case side2 => exact HC1_1.out)
                    rintro e w93 ⟨v1097, rfl, ho0, hb⟩
                    refine ⟨_, rfl, ?_⟩
                    have n0_ := Aside0.mk (Kd.R_below (by (with_reducible repeat (first | apply Kd.R_alloc | apply Kd.R_drewN | apply Kd.R_drew)); exact HO_12.out) hb)
                    have n1_ := Aside0.mk (Kd.S_elder' (by (with_reducible repeat (first | apply Kd.S_alloc | apply Kd.S_drewN | apply Kd.S_drew)); exact HO_1080001.out) (Kd.S_base ho0) hb)
                    have n2_ := Aside0.mk (Kd.S_elder' (by (with_reducible repeat (first | apply Kd.S_alloc | apply Kd.S_drewN | apply Kd.S_drew)); exact HO_1085001.out) (Kd.S_base ho0) hb)
                    have n3_ := Aside0.mk (Kd.S_elder' (by (with_reducible repeat (first | apply Kd.S_alloc | apply Kd.S_drewN | apply Kd.S_drew)); exact HO1093.out) (Kd.S_base ho0) hb)
                    have n4_ := Aside0.mk (Kd.S_lower (Kd.S_new' (Kd.S_new' (Kd.S_new' (Kd.S_new' ho0 (Kd.R_lt (by (with_reducible repeat (first | apply Kd.R_alloc | apply Kd.R_drewN | apply Kd.R_drew)); exact HO_12.out))) (Kd.S_lt (by (with_reducible repeat (first | apply Kd.S_alloc | apply Kd.S_drewN | apply Kd.S_drew)); exact HO_1080001.out))) (Kd.S_lt (by (with_reducible repeat (first | apply Kd.S_alloc | apply Kd.S_drewN | apply Kd.S_drew)); exact HO_1085001.out))) (Kd.S_lt (by (with_reducible repeat (first | apply Kd.S_alloc | apply Kd.S_drewN | apply Kd.S_drew)); exact HO1093.out))) (below_size (by repeat (first | (with_reducible first | exact HB.out | apply below_alloc | apply pw_below_drewN | apply below_drew1 | refine below_set ?_ GE1058.out | refine below_set ?_ GE1059.out | refine below_set ?_ GE1079.out | refine below_set ?_ GE1084.out) | exact HB.out))))
                    have n5_ := Aside0.mk (blk_below (g := gb1058) (o := .cells #[.int .i64 a0_0, .slice A0_1 l0_1.length c0_1] 24 (0, 0)) (by (with_reducible repeat (first | refine blk_drewN ?_ _ | refine blk_drew ?_ | refine blk_alloc ?_ _)); exact BK1058.out) hb)
                    have n6_ := Aside0.mk (blk_below (g := gb1059) (o := .cells #[.int .i64 a1_0, .slice A1_1 l1_1.length c1_1] 24 (0, 0)) (by (with_reducible repeat (first | refine blk_drewN ?_ _ | refine blk_drew ?_ | refine blk_alloc ?_ _)); exact BK1059.out) hb)
                    have n7_ := Aside0.mk (blk_below (g := gb1079) (o := .cells #[.int .i64 t1075, .slice Ao53 t1076.length co53] 30 (0, 0)) (by (with_reducible repeat (first | refine blk_drewN ?_ _ | refine blk_drew ?_ | refine blk_alloc ?_ _)); exact BK1079.out) hb)
                    have n8_ := Aside0.mk (blk_below (g := gb1084) (o := .cells #[.int .i64 t1080, .slice Ao61 t1081.length co61] 30 (0, 0)) (by (with_reducible repeat (first | refine blk_drewN ?_ _ | refine blk_drew ?_ | refine blk_alloc ?_ _)); exact BK1084.out) hb)
                    have n9_ := Aside0.mk (below_step (by repeat (first | (with_reducible first | exact HB.out | apply below_alloc | apply pw_below_drewN | apply below_drew1 | refine below_set ?_ GE1058.out | refine below_set ?_ GE1059.out | refine below_set ?_ GE1079.out | refine below_set ?_ GE1084.out) | exact HB.out)) hb)
                    clear HO_12
                    clear HO_1080001
                    clear HO_1085001
                    clear HO1093
                    clear BK1058
                    clear BK1059
                    clear BK1079
                    clear BK1084
                    clear HB
                    have HO_12 := n0_
                    have HO_1080001 := n1_
                    have HO_1085001 := n2_
                    have HO1093 := n3_
                    have HO1098 := n4_
                    have BK1058 := n5_
                    have BK1059 := n6_
                    have BK1079 := n7_
                    have BK1084 := n8_
                    have HB := n9_
                    clear n0_ n1_ n2_ n3_ n4_ n5_ n6_ n7_ n8_ n9_
                    (try clear hb)
                    (try clear hb2)
                    (try clear hk)
                    (try clear hi)
                    (try clear ho0)
                    obtain ⟨Ao94, co94, eo94⟩ := Kd.S_slice HO1098.out
                    (first | subst eo94 | (injection eo94 with f1_ f2_ f3_; have f4_ := f1_.symm; have f5_ := f3_.symm; clear f1_ f2_ f3_; subst f4_; subst f5_))
                    refine hK.out _ _ ⟨(blk_cell BK1084.out 0).trans rfl, (blk_cell BK1084.out 1).trans rfl, (blk_cell BK1059.out 0).trans rfl, (blk_cell BK1059.out 1).trans rfl⟩ (fun hHeld => ?_)
                    clear hK K
                    refine norm_ (a' := ?_) ?_ ?_
                    rotate_left
                    · show Act.put _ (some 66) _ = _
                      simp only [Act.put, List.setIfInBounds_toArray, List.set_cons_zero, List.set_cons_succ, i64_w, i32_w]
                      rfl
                    refine one_ (i := 3) (N := some 67) #[true, true, true, true, false] rfl rfl (by kernel_rfl) (by decide) (fun K hK => ?_)
                    refine goes_ Try.func19 (by kernel_rfl) rfl #[.agg #[.int .i64 t1080, .slice Ao61 t1081.length co61], .agg #[.int .i64 t1095, .slice Ao94 t1096.length co94]] (by rfl) rfl rfl (by (try simp only [List.map_toArray, List.map_cons, List.map_nil]); first | done | rfl | (simp only [List.length_drop, List.length_take]; rfl)) ?_
                    with_reducible refine (laws_eqAlgebra.calls kj30 t1080 _ _ t1081 t1095 _ _ t1096 true _ ?side1 ?side2 ?side3 ?side4 A73.out).mono ?_
                    (case side1 => repeat (first | exact (Kd.S_reads' HO_1085001.out).2.2 | (with_reducible refine Kd.C_alloc ?_ _) | (with_reducible refine Kd.C_drewN ?_ _) | (with_reducible refine Kd.C_drew ?_)))
                    (case side2 => exact (Kd.S_reads' HO_1085001.out).2.1)
                    (case side3 => repeat (first | exact (Kd.S_reads' HO1098.out).2.2 | (with_reducible refine Kd.C_alloc ?_ _) | (with_reducible refine Kd.C_drewN ?_ _) | (with_reducible refine Kd.C_drew ?_)))
                    (case side4 => exact (Kd.S_reads' HO1098.out).2.1)
                    rintro e w95 ⟨rfl, hb⟩
                    refine ⟨_, rfl, ?_⟩
                    have n0_ := Aside0.mk (Kd.R_below (by (with_reducible repeat (first | apply Kd.R_alloc | apply Kd.R_drewN | apply Kd.R_drew)); exact HO_12.out) hb)
                    have n1_ := Aside0.mk (Kd.S_below (by (with_reducible repeat (first | apply Kd.S_alloc | apply Kd.S_drewN | apply Kd.S_drew)); exact HO_1080001.out) hb)
                    have n2_ := Aside0.mk (Kd.S_below (by (with_reducible repeat (first | apply Kd.S_alloc | apply Kd.S_drewN | apply Kd.S_drew)); exact HO_1085001.out) hb)
                    have n3_ := Aside0.mk (Kd.S_below (by (with_reducible repeat (first | apply Kd.S_alloc | apply Kd.S_drewN | apply Kd.S_drew)); exact HO1093.out) hb)
                    have n4_ := Aside0.mk (Kd.S_below (by (with_reducible repeat (first | apply Kd.S_alloc | apply Kd.S_drewN | apply Kd.S_drew)); exact HO1098.out) hb)
                    have n5_ := Aside0.mk (blk_below (g := gb1058) (o := .cells #[.int .i64 a0_0, .slice A0_1 l0_1.length c0_1] 24 (0, 0)) (by (with_reducible repeat (first | refine blk_drewN ?_ _ | refine blk_drew ?_ | refine blk_alloc ?_ _)); exact BK1058.out) hb)
                    have n6_ := Aside0.mk (blk_below (g := gb1059) (o := .cells #[.int .i64 a1_0, .slice A1_1 l1_1.length c1_1] 24 (0, 0)) (by (with_reducible repeat (first | refine blk_drewN ?_ _ | refine blk_drew ?_ | refine blk_alloc ?_ _)); exact BK1059.out) hb)
                    have n7_ := Aside0.mk (blk_below (g := gb1079) (o := .cells #[.int .i64 t1075, .slice Ao53 t1076.length co53] 30 (0, 0)) (by (with_reducible repeat (first | refine blk_drewN ?_ _ | refine blk_drew ?_ | refine blk_alloc ?_ _)); exact BK1079.out) hb)
                    have n8_ := Aside0.mk (blk_below (g := gb1084) (o := .cells #[.int .i64 t1080, .slice Ao61 t1081.length co61] 30 (0, 0)) (by (with_reducible repeat (first | refine blk_drewN ?_ _ | refine blk_drew ?_ | refine blk_alloc ?_ _)); exact BK1084.out) hb)
                    have n9_ := Aside0.mk (below_step (by repeat (first | (with_reducible first | exact HB.out | apply below_alloc | apply pw_below_drewN | apply below_drew1 | refine below_set ?_ GE1058.out | refine below_set ?_ GE1059.out | refine below_set ?_ GE1079.out | refine below_set ?_ GE1084.out) | exact HB.out)) hb)
                    clear HO_12
                    clear HO_1080001
                    clear HO_1085001
                    clear HO1093
                    clear HO1098
                    clear BK1058
                    clear BK1059
                    clear BK1079
                    clear BK1084
                    clear HB
                    have HO_12 := n0_
                    have HO_1080001 := n1_
                    have HO_1085001 := n2_
                    have HO1093 := n3_
                    have HO1098 := n4_
                    have BK1058 := n5_
                    have BK1059 := n6_
                    have BK1079 := n7_
                    have BK1084 := n8_
                    have HB := n9_
                    clear n0_ n1_ n2_ n3_ n4_ n5_ n6_ n7_ n8_ n9_
                    (try clear hb)
                    (try clear hb2)
                    (try clear hk)
                    (try clear hi)
                    refine hK.out _ _ ⟨(blk_cell BK1084.out 0).trans rfl, (blk_cell BK1084.out 1).trans rfl, (blk_cell BK1059.out 0).trans rfl, (blk_cell BK1059.out 1).trans rfl⟩ (fun hHeld => ?_)
                    clear hK K
                    refine norm_ (a' := ?_) ?_ ?_
                    rotate_left
                    · show Act.put _ (some 67) _ = _
                      simp only [Act.put, List.setIfInBounds_toArray, List.set_cons_zero, List.set_cons_succ, i64_w, i32_w]
                      rfl
                    refine pure_ (i := 4) (N := some 68) (v := ?_) (a' := ?_) #[true, true, true, true, true] rfl rfl (by kernel_rfl) (fun _ _ _ h => h) (Or.inl ⟨by rfl, ?_⟩) ?_ ?_
                    rotate_left
                    · intro w'
                      go_simp
                      with_reducible rfl
                    rotate_left
                    · simp only [Act.put, List.setIfInBounds_toArray, List.set_cons_zero, List.set_cons_succ, i64_w, i32_w]
                      rfl
                    refine done_ (by kernel_rfl) ?_
                    try go_wp2_with (first | ((with_reducible refine gate_callee (f := 51) rfl ?_); refine goesL_ (some 71) rfl rfl Try.func51 (by kernel_rfl) rfl #[.slice A2 l2.length c2] rfl (by (try simp only [List.map_toArray, List.map_cons, List.map_nil]); first | done | rfl | (simp only [List.length_drop, List.length_take]; rfl)) ?_; (with_reducible refine (laws_toIntS.calls kj30 _ _ l2 t1100 _ ?side1 ?side2 A75.out).mono ?_); (case side1 => repeat (first | exact (Kd.C_below HR2.out HB.out) | (with_reducible refine Kd.C_alloc ?_ _) | (with_reducible refine Kd.C_drewN ?_ _) | (with_reducible refine Kd.C_drew ?_))); (case side2 => exact HC2.out); rintro e w96 ⟨v1101, rfl, ho0, hb⟩; refine ⟨_, rfl, ?_⟩; have n0_ := Aside0.mk (Kd.R_elder' (by (with_reducible repeat (first | apply Kd.R_alloc | apply Kd.R_drewN | apply Kd.R_drew)); exact HO_12.out) (Kd.R_base ho0) hb); have n1_ := Aside0.mk (Kd.S_elder' (by (with_reducible repeat (first | apply Kd.S_alloc | apply Kd.S_drewN | apply Kd.S_drew)); exact HO_1080001.out) (Kd.R_base ho0) hb); have n2_ := Aside0.mk (Kd.S_elder' (by (with_reducible repeat (first | apply Kd.S_alloc | apply Kd.S_drewN | apply Kd.S_drew)); exact HO_1085001.out) (Kd.R_base ho0) hb); have n3_ := Aside0.mk (Kd.S_elder' (by (with_reducible repeat (first | apply Kd.S_alloc | apply Kd.S_drewN | apply Kd.S_drew)); exact HO1093.out) (Kd.R_base ho0) hb); have n4_ := Aside0.mk (Kd.S_elder' (by (with_reducible repeat (first | apply Kd.S_alloc | apply Kd.S_drewN | apply Kd.S_drew)); exact HO1098.out) (Kd.R_base ho0) hb); have n5_ := Aside0.mk (Kd.R_lower (Kd.R_new' ho0 (Kd.R_lt (by (with_reducible repeat (first | apply Kd.R_alloc | apply Kd.R_drewN | apply Kd.R_drew)); exact HO_12.out))) (below_size (by repeat (first | (with_reducible first | exact HB.out | apply below_alloc | apply pw_below_drewN | apply below_drew1 | refine below_set ?_ GE1058.out | refine below_set ?_ GE1059.out | refine below_set ?_ GE1079.out | refine below_set ?_ GE1084.out) | exact HB.out)))); have n6_ := Aside0.mk (blk_below (g := gb1058) (o := .cells #[.int .i64 a0_0, .slice A0_1 l0_1.length c0_1] 24 (0, 0)) (by (with_reducible repeat (first | refine blk_drewN ?_ _ | refine blk_drew ?_ | refine blk_alloc ?_ _)); exact BK1058.out) hb); have n7_ := Aside0.mk (blk_below (g := gb1059) (o := .cells #[.int .i64 a1_0, .slice A1_1 l1_1.length c1_1] 24 (0, 0)) (by (with_reducible repeat (first | refine blk_drewN ?_ _ | refine blk_drew ?_ | refine blk_alloc ?_ _)); exact BK1059.out) hb); have n8_ := Aside0.mk (blk_below (g := gb1079) (o := .cells #[.int .i64 t1075, .slice Ao53 t1076.length co53] 30 (0, 0)) (by (with_reducible repeat (first | refine blk_drewN ?_ _ | refine blk_drew ?_ | refine blk_alloc ?_ _)); exact BK1079.out) hb); have n9_ := Aside0.mk (blk_below (g := gb1084) (o := .cells #[.int .i64 t1080, .slice Ao61 t1081.length co61] 30 (0, 0)) (by (with_reducible repeat (first | refine blk_drewN ?_ _ | refine blk_drew ?_ | refine blk_alloc ?_ _)); exact BK1084.out) hb); have n10_ := Aside0.mk (below_step (by repeat (first | (with_reducible first | exact HB.out | apply below_alloc | apply pw_below_drewN | apply below_drew1 | refine below_set ?_ GE1058.out | refine below_set ?_ GE1059.out | refine below_set ?_ GE1079.out | refine below_set ?_ GE1084.out) | exact HB.out)) hb); clear HO_12; clear HO_1080001; clear HO_1085001; clear HO1093; clear HO1098; clear BK1058; clear BK1059; clear BK1079; clear BK1084; clear HB; have HO_12 := n0_; have HO_1080001 := n1_; have HO_1085001 := n2_; have HO1093 := n3_; have HO1098 := n4_; have HO1102 := n5_; have BK1058 := n6_; have BK1059 := n7_; have BK1079 := n8_; have BK1084 := n9_; have HB := n10_; clear n0_ n1_ n2_ n3_ n4_ n5_ n6_ n7_ n8_ n9_ n10_; (try clear hb); (try clear hb2); (try clear hk); (try clear hi); (try clear ho0); obtain ⟨Ao97, co97, eo97⟩ := Kd.R_slice HO1102.out; subst eo97) | ((with_reducible refine gate_callee (f := 30) rfl ?_); refine goesL_ (some 72) rfl rfl Try.func30 (by kernel_rfl) rfl #[.slice Ao65 t1085.length co65, .slice Ao97 t1100.length co97] rfl (by (try simp only [List.map_toArray, List.map_cons, List.map_nil]); first | done | rfl | (simp only [List.length_drop, List.length_take]; rfl)) ?_; (with_reducible refine (laws_eqIntS.calls kj30 _ _ t1085 _ _ t1100 false _ ?side1 ?side2 ?side3 ?side4 A76.out).mono ?_); (case side1 => repeat (first | exact (Kd.R_reads' HO_12.out).2.2 | (with_reducible refine Kd.C_alloc ?_ _) | (with_reducible refine Kd.C_drewN ?_ _) | (with_reducible refine Kd.C_drew ?_))); (case side2 => exact (Kd.R_reads' HO_12.out).2.1); (case side3 => repeat (first | exact (Kd.R_reads' HO1102.out).2.2 | (with_reducible refine Kd.C_alloc ?_ _) | (with_reducible refine Kd.C_drewN ?_ _) | (with_reducible refine Kd.C_drew ?_))); (case side4 => exact (Kd.R_reads' HO1102.out).2.1); rintro e w' ⟨rfl, ⟨nd, rfl⟩⟩; refine ⟨_, rfl, ?_⟩))
                    go_ret
                    exact ⟨by first | rfl | (simp [errW_none, errW_some] <;> rfl) | (simp [*, errW_none, errW_some] <;> rfl), by repeat (first | (with_reducible first | exact HB.out | apply below_alloc | apply pw_below_drewN | apply below_drew1 | refine below_set ?_ GE1058.out | refine below_set ?_ GE1059.out | refine below_set ?_ GE1079.out | refine below_set ?_ GE1084.out) | exact HB.out)⟩
                · replace c74 := Bool.eq_false_iff.mpr c74
                  subst c74
                  have H1 : (some false) = some r := by rw [if_neg (show ¬ (false = true) by decide)] at H; exact H
                  clear H
                  have H := H1
                  clear H1
                  obtain rfl := Option.some.inj H
                  try go_wp2
                  have n0_ := Aside0.mk (Kd.R_drew HO_12.out)
                  have n1_ := Aside0.mk (Kd.S_drew HO_1080001.out)
                  have n2_ := Aside0.mk (Kd.S_drew HO_1085001.out)
                  have n3_ := Aside0.mk (blk_drew BK1058.out)
                  have n4_ := Aside0.mk (blk_drew BK1059.out)
                  have n5_ := Aside0.mk (blk_drew BK1079.out)
                  have n6_ := Aside0.mk (blk_drew BK1084.out)
                  have n7_ := Aside0.mk (below_drew1 HB.out)
                  clear HO_12
                  clear HO_1080001
                  clear HO_1085001
                  clear BK1058
                  clear BK1059
                  clear BK1079
                  clear BK1084
                  clear HB
                  have HO_12 := n0_
                  have HO_1080001 := n1_
                  have HO_1085001 := n2_
                  have BK1058 := n3_
                  have BK1059 := n4_
                  have BK1079 := n5_
                  have BK1084 := n6_
                  have HB := n7_
                  clear n0_ n1_ n2_ n3_ n4_ n5_ n6_ n7_
                  refine start_ (n := 5) (S := fun w' => w'.cell? ⟨gb1079, 0, none⟩ = some (.int .i64 t1075) ∧ w'.cell? ⟨gb1079, 1, none⟩ = some (.slice Ao53 t1076.length co53) ∧ w'.cell? ⟨gb1058, 0, none⟩ = some (.int .i64 a0_0) ∧ w'.cell? ⟨gb1058, 1, none⟩ = some (.slice A0_1 l0_1.length c0_1)) (ds := []) #[false, false, false, false, false] (by kernel_rfl) rfl rfl ⟨(blk_cell BK1079.out 0).trans rfl, (blk_cell BK1079.out 1).trans rfl, (blk_cell BK1058.out 0).trans rfl, (blk_cell BK1058.out 1).trans rfl⟩ (fun hHeld => ?_)
                  generalize wc.drew = w98 at HO_12 HO_1080001 HO_1085001 BK1058 BK1059 BK1079 BK1084 HB hHeld ⊢
                  refine take_ (i := 0) (N := some 59) (v := ?_) (a' := ?_) #[true, false, false, false, false] rfl rfl (by kernel_rfl) (fun _ _ _ h => h) (Or.inl ⟨by rfl, ?_⟩) hHeld ?_ ?_
                  rotate_left
                  · rintro w' ⟨s0, s1, s2, s3⟩
                    go_simp
                    with_reducible rfl
                  rotate_left
                  · simp only [Act.put, List.setIfInBounds_toArray, List.set_cons_zero, List.set_cons_succ, i64_w, i32_w]
                    rfl
                  refine take_ (i := 1) (N := some 60) (v := ?_) (a' := ?_) #[true, true, false, false, false] rfl rfl (by kernel_rfl) (fun _ _ _ h => h) (Or.inl ⟨by rfl, ?_⟩) hHeld ?_ ?_
                  rotate_left
                  · rintro w' ⟨s0, s1, s2, s3⟩
                    go_simp
                    with_reducible rfl
                  rotate_left
                  · simp only [Act.put, List.setIfInBounds_toArray, List.set_cons_zero, List.set_cons_succ, i64_w, i32_w]
                    rfl
                  refine one_ (i := 2) (N := some 61) #[true, true, true, false, false] rfl rfl (by kernel_rfl) (by decide) (fun K hK => ?_)
                  refine goes_ Try.func17 (by kernel_rfl) rfl #[.agg #[.int .i64 a0_0, .slice A0_1 l0_1.length c0_1]] (by rfl) rfl rfl (by (try simp only [List.map_toArray, List.map_cons, List.map_nil]); first | done | rfl | (simp only [List.length_drop, List.length_take]; rfl)) ?_
                  with_reducible refine (laws_toAlgebra.calls kj30 a0_0 _ _ l0_1 t1090 t1091 _ ?side1 ?side2 A69.out).mono ?_
                  (case side1 => repeat (first | exact (Kd.C_below HR0_1.out HB.out) | (with_reducible refine Kd.C_alloc ?_ _) | (with_reducible refine Kd.C_drewN ?_ _) | (with_reducible refine Kd.C_drew ?_)))
                  (case side2 => exact HC0_1.out)
                  rintro e w99 ⟨v1092, rfl, ho0, hb⟩
                  refine ⟨_, rfl, ?_⟩
                  have n0_ := Aside0.mk (Kd.R_below (by (with_reducible repeat (first | apply Kd.R_alloc | apply Kd.R_drewN | apply Kd.R_drew)); exact HO_12.out) hb)
                  have n1_ := Aside0.mk (Kd.S_elder' (by (with_reducible repeat (first | apply Kd.S_alloc | apply Kd.S_drewN | apply Kd.S_drew)); exact HO_1080001.out) (Kd.S_base ho0) hb)
                  have n2_ := Aside0.mk (Kd.S_elder' (by (with_reducible repeat (first | apply Kd.S_alloc | apply Kd.S_drewN | apply Kd.S_drew)); exact HO_1085001.out) (Kd.S_base ho0) hb)
                  have n3_ := Aside0.mk (Kd.S_lower (Kd.S_new' (Kd.S_new' (Kd.S_new' ho0 (Kd.R_lt (by (with_reducible repeat (first | apply Kd.R_alloc | apply Kd.R_drewN | apply Kd.R_drew)); exact HO_12.out))) (Kd.S_lt (by (with_reducible repeat (first | apply Kd.S_alloc | apply Kd.S_drewN | apply Kd.S_drew)); exact HO_1080001.out))) (Kd.S_lt (by (with_reducible repeat (first | apply Kd.S_alloc | apply Kd.S_drewN | apply Kd.S_drew)); exact HO_1085001.out))) (below_size (by repeat (first | (with_reducible first | exact HB.out | apply below_alloc | apply pw_below_drewN | apply below_drew1 | refine below_set ?_ GE1058.out | refine below_set ?_ GE1059.out | refine below_set ?_ GE1079.out | refine below_set ?_ GE1084.out) | exact HB.out))))
                  have n4_ := Aside0.mk (blk_below (g := gb1058) (o := .cells #[.int .i64 a0_0, .slice A0_1 l0_1.length c0_1] 24 (0, 0)) (by (with_reducible repeat (first | refine blk_drewN ?_ _ | refine blk_drew ?_ | refine blk_alloc ?_ _)); exact BK1058.out) hb)
                  have n5_ := Aside0.mk (blk_below (g := gb1059) (o := .cells #[.int .i64 a1_0, .slice A1_1 l1_1.length c1_1] 24 (0, 0)) (by (with_reducible repeat (first | refine blk_drewN ?_ _ | refine blk_drew ?_ | refine blk_alloc ?_ _)); exact BK1059.out) hb)
                  have n6_ := Aside0.mk (blk_below (g := gb1079) (o := .cells #[.int .i64 t1075, .slice Ao53 t1076.length co53] 30 (0, 0)) (by (with_reducible repeat (first | refine blk_drewN ?_ _ | refine blk_drew ?_ | refine blk_alloc ?_ _)); exact BK1079.out) hb)
                  have n7_ := Aside0.mk (blk_below (g := gb1084) (o := .cells #[.int .i64 t1080, .slice Ao61 t1081.length co61] 30 (0, 0)) (by (with_reducible repeat (first | refine blk_drewN ?_ _ | refine blk_drew ?_ | refine blk_alloc ?_ _)); exact BK1084.out) hb)
                  have n8_ := Aside0.mk (below_step (by repeat (first | (with_reducible first | exact HB.out | apply below_alloc | apply pw_below_drewN | apply below_drew1 | refine below_set ?_ GE1058.out | refine below_set ?_ GE1059.out | refine below_set ?_ GE1079.out | refine below_set ?_ GE1084.out) | exact HB.out)) hb)
                  clear HO_12
                  clear HO_1080001
                  clear HO_1085001
                  clear BK1058
                  clear BK1059
                  clear BK1079
                  clear BK1084
                  clear HB
                  have HO_12 := n0_
                  have HO_1080001 := n1_
                  have HO_1085001 := n2_
                  have HO1093 := n3_
                  have BK1058 := n4_
                  have BK1059 := n5_
                  have BK1079 := n6_
                  have BK1084 := n7_
                  have HB := n8_
                  clear n0_ n1_ n2_ n3_ n4_ n5_ n6_ n7_ n8_
                  (try clear hb)
                  (try clear hb2)
                  (try clear hk)
                  (try clear hi)
                  (try clear ho0)
                  obtain ⟨Ao100, co100, eo100⟩ := Kd.S_slice HO1093.out
                  (first | subst eo100 | (injection eo100 with f1_ f2_ f3_; have f4_ := f1_.symm; have f5_ := f3_.symm; clear f1_ f2_ f3_; subst f4_; subst f5_))
                  refine hK.out _ _ ⟨(blk_cell BK1079.out 0).trans rfl, (blk_cell BK1079.out 1).trans rfl, (blk_cell BK1058.out 0).trans rfl, (blk_cell BK1058.out 1).trans rfl⟩ (fun hHeld => ?_)
                  clear hK K
                  refine norm_ (a' := ?_) ?_ ?_
                  rotate_left
                  · show Act.put _ (some 61) _ = _
                    simp only [Act.put, List.setIfInBounds_toArray, List.set_cons_zero, List.set_cons_succ, i64_w, i32_w]
                    rfl
                  refine one_ (i := 3) (N := some 62) #[true, true, true, true, false] rfl rfl (by kernel_rfl) (by decide) (fun K hK => ?_)
                  refine goes_ Try.func19 (by kernel_rfl) rfl #[.agg #[.int .i64 t1075, .slice Ao53 t1076.length co53], .agg #[.int .i64 t1090, .slice Ao100 t1091.length co100]] (by rfl) rfl rfl (by (try simp only [List.map_toArray, List.map_cons, List.map_nil]); first | done | rfl | (simp only [List.length_drop, List.length_take]; rfl)) ?_
                  with_reducible refine (laws_eqAlgebra.calls kj30 t1075 _ _ t1076 t1090 _ _ t1091 true _ ?side1 ?side2 ?side3 ?side4 A70.out).mono ?_
                  (case side1 => repeat (first | exact (Kd.S_reads' HO_1080001.out).2.2 | (with_reducible refine Kd.C_alloc ?_ _) | (with_reducible refine Kd.C_drewN ?_ _) | (with_reducible refine Kd.C_drew ?_)))
                  (case side2 => exact (Kd.S_reads' HO_1080001.out).2.1)
                  (case side3 => repeat (first | exact (Kd.S_reads' HO1093.out).2.2 | (with_reducible refine Kd.C_alloc ?_ _) | (with_reducible refine Kd.C_drewN ?_ _) | (with_reducible refine Kd.C_drew ?_)))
                  (case side4 => exact (Kd.S_reads' HO1093.out).2.1)
                  rintro e w101 ⟨rfl, hb⟩
                  refine ⟨_, rfl, ?_⟩
                  have n0_ := Aside0.mk (Kd.R_below (by (with_reducible repeat (first | apply Kd.R_alloc | apply Kd.R_drewN | apply Kd.R_drew)); exact HO_12.out) hb)
                  have n1_ := Aside0.mk (Kd.S_below (by (with_reducible repeat (first | apply Kd.S_alloc | apply Kd.S_drewN | apply Kd.S_drew)); exact HO_1080001.out) hb)
                  have n2_ := Aside0.mk (Kd.S_below (by (with_reducible repeat (first | apply Kd.S_alloc | apply Kd.S_drewN | apply Kd.S_drew)); exact HO_1085001.out) hb)
                  have n3_ := Aside0.mk (Kd.S_below (by (with_reducible repeat (first | apply Kd.S_alloc | apply Kd.S_drewN | apply Kd.S_drew)); exact HO1093.out) hb)
                  have n4_ := Aside0.mk (blk_below (g := gb1058) (o := .cells #[.int .i64 a0_0, .slice A0_1 l0_1.length c0_1] 24 (0, 0)) (by (with_reducible repeat (first | refine blk_drewN ?_ _ | refine blk_drew ?_ | refine blk_alloc ?_ _)); exact BK1058.out) hb)
                  have n5_ := Aside0.mk (blk_below (g := gb1059) (o := .cells #[.int .i64 a1_0, .slice A1_1 l1_1.length c1_1] 24 (0, 0)) (by (with_reducible repeat (first | refine blk_drewN ?_ _ | refine blk_drew ?_ | refine blk_alloc ?_ _)); exact BK1059.out) hb)
                  have n6_ := Aside0.mk (blk_below (g := gb1079) (o := .cells #[.int .i64 t1075, .slice Ao53 t1076.length co53] 30 (0, 0)) (by (with_reducible repeat (first | refine blk_drewN ?_ _ | refine blk_drew ?_ | refine blk_alloc ?_ _)); exact BK1079.out) hb)
                  have n7_ := Aside0.mk (blk_below (g := gb1084) (o := .cells #[.int .i64 t1080, .slice Ao61 t1081.length co61] 30 (0, 0)) (by (with_reducible repeat (first | refine blk_drewN ?_ _ | refine blk_drew ?_ | refine blk_alloc ?_ _)); exact BK1084.out) hb)
                  have n8_ := Aside0.mk (below_step (by repeat (first | (with_reducible first | exact HB.out | apply below_alloc | apply pw_below_drewN | apply below_drew1 | refine below_set ?_ GE1058.out | refine below_set ?_ GE1059.out | refine below_set ?_ GE1079.out | refine below_set ?_ GE1084.out) | exact HB.out)) hb)
                  clear HO_12
                  clear HO_1080001
                  clear HO_1085001
                  clear HO1093
                  clear BK1058
                  clear BK1059
                  clear BK1079
                  clear BK1084
                  clear HB
                  have HO_12 := n0_
                  have HO_1080001 := n1_
                  have HO_1085001 := n2_
                  have HO1093 := n3_
                  have BK1058 := n4_
                  have BK1059 := n5_
                  have BK1079 := n6_
                  have BK1084 := n7_
                  have HB := n8_
                  clear n0_ n1_ n2_ n3_ n4_ n5_ n6_ n7_ n8_
                  (try clear hb)
                  (try clear hb2)
                  (try clear hk)
                  (try clear hi)
                  refine hK.out _ _ ⟨(blk_cell BK1079.out 0).trans rfl, (blk_cell BK1079.out 1).trans rfl, (blk_cell BK1058.out 0).trans rfl, (blk_cell BK1058.out 1).trans rfl⟩ (fun hHeld => ?_)
                  clear hK K
                  refine norm_ (a' := ?_) ?_ ?_
                  rotate_left
                  · show Act.put _ (some 62) _ = _
                    simp only [Act.put, List.setIfInBounds_toArray, List.set_cons_zero, List.set_cons_succ, i64_w, i32_w]
                    rfl
                  refine pure_ (i := 4) (N := some 63) (v := ?_) (a' := ?_) #[true, true, true, true, true] rfl rfl (by kernel_rfl) (fun _ _ _ h => h) (Or.inl ⟨by rfl, ?_⟩) ?_ ?_
                  rotate_left
                  · intro w'
                    go_simp
                    with_reducible rfl
                  rotate_left
                  · simp only [Act.put, List.setIfInBounds_toArray, List.set_cons_zero, List.set_cons_succ, i64_w, i32_w]
                    rfl
                  refine done_ (by kernel_rfl) ?_
                  try go_wp2
                  have n0_ := Aside0.mk (Kd.R_drew HO_12.out)
                  have n1_ := Aside0.mk (Kd.S_drew HO_1080001.out)
                  have n2_ := Aside0.mk (Kd.S_drew HO_1085001.out)
                  have n3_ := Aside0.mk (Kd.S_drew HO1093.out)
                  have n4_ := Aside0.mk (blk_drew BK1058.out)
                  have n5_ := Aside0.mk (blk_drew BK1059.out)
                  have n6_ := Aside0.mk (blk_drew BK1079.out)
                  have n7_ := Aside0.mk (blk_drew BK1084.out)
                  have n8_ := Aside0.mk (below_drew1 HB.out)
                  clear HO_12
                  clear HO_1080001
                  clear HO_1085001
                  clear HO1093
                  clear BK1058
                  clear BK1059
                  clear BK1079
                  clear BK1084
                  clear HB
                  have HO_12 := n0_
                  have HO_1080001 := n1_
                  have HO_1085001 := n2_
                  have HO1093 := n3_
                  have BK1058 := n4_
                  have BK1059 := n5_
                  have BK1079 := n6_
                  have BK1084 := n7_
                  have HB := n8_
                  clear n0_ n1_ n2_ n3_ n4_ n5_ n6_ n7_ n8_
                  refine start_ (n := 5) (S := fun w' => w'.cell? ⟨gb1084, 0, none⟩ = some (.int .i64 t1080) ∧ w'.cell? ⟨gb1084, 1, none⟩ = some (.slice Ao61 t1081.length co61) ∧ w'.cell? ⟨gb1059, 0, none⟩ = some (.int .i64 a1_0) ∧ w'.cell? ⟨gb1059, 1, none⟩ = some (.slice A1_1 l1_1.length c1_1)) (ds := []) #[false, false, false, false, false] (by kernel_rfl) rfl rfl ⟨(blk_cell BK1084.out 0).trans rfl, (blk_cell BK1084.out 1).trans rfl, (blk_cell BK1059.out 0).trans rfl, (blk_cell BK1059.out 1).trans rfl⟩ (fun hHeld => ?_)
                  generalize w101.drew = w102 at HO_12 HO_1080001 HO_1085001 HO1093 BK1058 BK1059 BK1079 BK1084 HB hHeld ⊢
                  refine take_ (i := 0) (N := some 64) (v := ?_) (a' := ?_) #[true, false, false, false, false] rfl rfl (by kernel_rfl) (fun _ _ _ h => h) (Or.inl ⟨by rfl, ?_⟩) hHeld ?_ ?_
                  rotate_left
                  · rintro w' ⟨s0, s1, s2, s3⟩
                    go_simp
                    with_reducible rfl
                  rotate_left
                  · simp only [Act.put, List.setIfInBounds_toArray, List.set_cons_zero, List.set_cons_succ, i64_w, i32_w]
                    rfl
                  refine take_ (i := 1) (N := some 65) (v := ?_) (a' := ?_) #[true, true, false, false, false] rfl rfl (by kernel_rfl) (fun _ _ _ h => h) (Or.inl ⟨by rfl, ?_⟩) hHeld ?_ ?_
                  rotate_left
                  · rintro w' ⟨s0, s1, s2, s3⟩
                    go_simp
                    with_reducible rfl
                  rotate_left
                  · simp only [Act.put, List.setIfInBounds_toArray, List.set_cons_zero, List.set_cons_succ, i64_w, i32_w]
                    rfl
                  refine one_ (i := 2) (N := some 66) #[true, true, true, false, false] rfl rfl (by kernel_rfl) (by decide) (fun K hK => ?_)
                  refine goes_ Try.func17 (by kernel_rfl) rfl #[.agg #[.int .i64 a1_0, .slice A1_1 l1_1.length c1_1]] (by rfl) rfl rfl (by (try simp only [List.map_toArray, List.map_cons, List.map_nil]); first | done | rfl | (simp only [List.length_drop, List.length_take]; rfl)) ?_
                  with_reducible refine (laws_toAlgebra.calls kj30 a1_0 _ _ l1_1 t1095 t1096 _ ?side1 ?side2 A72.out).mono ?_
                  (case side1 => repeat (first | exact (Kd.C_below HR1_1.out HB.out) | (with_reducible refine Kd.C_alloc ?_ _) | (with_reducible refine Kd.C_drewN ?_ _) | (with_reducible refine Kd.C_drew ?_)))
                  (case side2 => exact HC1_1.out)
                  rintro e w103 ⟨v1097, rfl, ho0, hb⟩
                  refine ⟨_, rfl, ?_⟩
                  have n0_ := Aside0.mk (Kd.R_below (by (with_reducible repeat (first | apply Kd.R_alloc | apply Kd.R_drewN | apply Kd.R_drew)); exact HO_12.out) hb)
                  have n1_ := Aside0.mk (Kd.S_elder' (by (with_reducible repeat (first | apply Kd.S_alloc | apply Kd.S_drewN | apply Kd.S_drew)); exact HO_1080001.out) (Kd.S_base ho0) hb)
                  have n2_ := Aside0.mk (Kd.S_elder' (by (with_reducible repeat (first | apply Kd.S_alloc | apply Kd.S_drewN | apply Kd.S_drew)); exact HO_1085001.out) (Kd.S_base ho0) hb)
                  have n3_ := Aside0.mk (Kd.S_elder' (by (with_reducible repeat (first | apply Kd.S_alloc | apply Kd.S_drewN | apply Kd.S_drew)); exact HO1093.out) (Kd.S_base ho0) hb)
                  have n4_ := Aside0.mk (Kd.S_lower (Kd.S_new' (Kd.S_new' (Kd.S_new' (Kd.S_new' ho0 (Kd.R_lt (by (with_reducible repeat (first | apply Kd.R_alloc | apply Kd.R_drewN | apply Kd.R_drew)); exact HO_12.out))) (Kd.S_lt (by (with_reducible repeat (first | apply Kd.S_alloc | apply Kd.S_drewN | apply Kd.S_drew)); exact HO_1080001.out))) (Kd.S_lt (by (with_reducible repeat (first | apply Kd.S_alloc | apply Kd.S_drewN | apply Kd.S_drew)); exact HO_1085001.out))) (Kd.S_lt (by (with_reducible repeat (first | apply Kd.S_alloc | apply Kd.S_drewN | apply Kd.S_drew)); exact HO1093.out))) (below_size (by repeat (first | (with_reducible first | exact HB.out | apply below_alloc | apply pw_below_drewN | apply below_drew1 | refine below_set ?_ GE1058.out | refine below_set ?_ GE1059.out | refine below_set ?_ GE1079.out | refine below_set ?_ GE1084.out) | exact HB.out))))
                  have n5_ := Aside0.mk (blk_below (g := gb1058) (o := .cells #[.int .i64 a0_0, .slice A0_1 l0_1.length c0_1] 24 (0, 0)) (by (with_reducible repeat (first | refine blk_drewN ?_ _ | refine blk_drew ?_ | refine blk_alloc ?_ _)); exact BK1058.out) hb)
                  have n6_ := Aside0.mk (blk_below (g := gb1059) (o := .cells #[.int .i64 a1_0, .slice A1_1 l1_1.length c1_1] 24 (0, 0)) (by (with_reducible repeat (first | refine blk_drewN ?_ _ | refine blk_drew ?_ | refine blk_alloc ?_ _)); exact BK1059.out) hb)
                  have n7_ := Aside0.mk (blk_below (g := gb1079) (o := .cells #[.int .i64 t1075, .slice Ao53 t1076.length co53] 30 (0, 0)) (by (with_reducible repeat (first | refine blk_drewN ?_ _ | refine blk_drew ?_ | refine blk_alloc ?_ _)); exact BK1079.out) hb)
                  have n8_ := Aside0.mk (blk_below (g := gb1084) (o := .cells #[.int .i64 t1080, .slice Ao61 t1081.length co61] 30 (0, 0)) (by (with_reducible repeat (first | refine blk_drewN ?_ _ | refine blk_drew ?_ | refine blk_alloc ?_ _)); exact BK1084.out) hb)
                  have n9_ := Aside0.mk (below_step (by repeat (first | (with_reducible first | exact HB.out | apply below_alloc | apply pw_below_drewN | apply below_drew1 | refine below_set ?_ GE1058.out | refine below_set ?_ GE1059.out | refine below_set ?_ GE1079.out | refine below_set ?_ GE1084.out) | exact HB.out)) hb)
                  clear HO_12
                  clear HO_1080001
                  clear HO_1085001
                  clear HO1093
                  clear BK1058
                  clear BK1059
                  clear BK1079
                  clear BK1084
                  clear HB
                  have HO_12 := n0_
                  have HO_1080001 := n1_
                  have HO_1085001 := n2_
                  have HO1093 := n3_
                  have HO1098 := n4_
                  have BK1058 := n5_
                  have BK1059 := n6_
                  have BK1079 := n7_
                  have BK1084 := n8_
                  have HB := n9_
                  clear n0_ n1_ n2_ n3_ n4_ n5_ n6_ n7_ n8_ n9_
                  (try clear hb)
                  (try clear hb2)
                  (try clear hk)
                  (try clear hi)
                  (try clear ho0)
                  obtain ⟨Ao104, co104, eo104⟩ := Kd.S_slice HO1098.out
                  (first | subst eo104 | (injection eo104 with f1_ f2_ f3_; have f4_ := f1_.symm; have f5_ := f3_.symm; clear f1_ f2_ f3_; subst f4_; subst f5_))
                  refine hK.out _ _ ⟨(blk_cell BK1084.out 0).trans rfl, (blk_cell BK1084.out 1).trans rfl, (blk_cell BK1059.out 0).trans rfl, (blk_cell BK1059.out 1).trans rfl⟩ (fun hHeld => ?_)
                  clear hK K
                  refine norm_ (a' := ?_) ?_ ?_
                  rotate_left
                  · show Act.put _ (some 66) _ = _
                    simp only [Act.put, List.setIfInBounds_toArray, List.set_cons_zero, List.set_cons_succ, i64_w, i32_w]
                    rfl
                  refine one_ (i := 3) (N := some 67) #[true, true, true, true, false] rfl rfl (by kernel_rfl) (by decide) (fun K hK => ?_)
                  refine goes_ Try.func19 (by kernel_rfl) rfl #[.agg #[.int .i64 t1080, .slice Ao61 t1081.length co61], .agg #[.int .i64 t1095, .slice Ao104 t1096.length co104]] (by rfl) rfl rfl (by (try simp only [List.map_toArray, List.map_cons, List.map_nil]); first | done | rfl | (simp only [List.length_drop, List.length_take]; rfl)) ?_
                  with_reducible refine (laws_eqAlgebra.calls kj30 t1080 _ _ t1081 t1095 _ _ t1096 false _ ?side1 ?side2 ?side3 ?side4 A73.out).mono ?_
                  (case side1 => repeat (first | exact (Kd.S_reads' HO_1085001.out).2.2 | (with_reducible refine Kd.C_alloc ?_ _) | (with_reducible refine Kd.C_drewN ?_ _) | (with_reducible refine Kd.C_drew ?_)))
                  (case side2 => exact (Kd.S_reads' HO_1085001.out).2.1)
                  (case side3 => repeat (first | exact (Kd.S_reads' HO1098.out).2.2 | (with_reducible refine Kd.C_alloc ?_ _) | (with_reducible refine Kd.C_drewN ?_ _) | (with_reducible refine Kd.C_drew ?_)))
                  (case side4 => exact (Kd.S_reads' HO1098.out).2.1)
                  rintro e w105 ⟨rfl, hb⟩
                  refine ⟨_, rfl, ?_⟩
                  have n0_ := Aside0.mk (Kd.R_below (by (with_reducible repeat (first | apply Kd.R_alloc | apply Kd.R_drewN | apply Kd.R_drew)); exact HO_12.out) hb)
                  have n1_ := Aside0.mk (Kd.S_below (by (with_reducible repeat (first | apply Kd.S_alloc | apply Kd.S_drewN | apply Kd.S_drew)); exact HO_1080001.out) hb)
                  have n2_ := Aside0.mk (Kd.S_below (by (with_reducible repeat (first | apply Kd.S_alloc | apply Kd.S_drewN | apply Kd.S_drew)); exact HO_1085001.out) hb)
                  have n3_ := Aside0.mk (Kd.S_below (by (with_reducible repeat (first | apply Kd.S_alloc | apply Kd.S_drewN | apply Kd.S_drew)); exact HO1093.out) hb)
                  have n4_ := Aside0.mk (Kd.S_below (by (with_reducible repeat (first | apply Kd.S_alloc | apply Kd.S_drewN | apply Kd.S_drew)); exact HO1098.out) hb)
                  have n5_ := Aside0.mk (blk_below (g := gb1058) (o := .cells #[.int .i64 a0_0, .slice A0_1 l0_1.length c0_1] 24 (0, 0)) (by (with_reducible repeat (first | refine blk_drewN ?_ _ | refine blk_drew ?_ | refine blk_alloc ?_ _)); exact BK1058.out) hb)
                  have n6_ := Aside0.mk (blk_below (g := gb1059) (o := .cells #[.int .i64 a1_0, .slice A1_1 l1_1.length c1_1] 24 (0, 0)) (by (with_reducible repeat (first | refine blk_drewN ?_ _ | refine blk_drew ?_ | refine blk_alloc ?_ _)); exact BK1059.out) hb)
                  have n7_ := Aside0.mk (blk_below (g := gb1079) (o := .cells #[.int .i64 t1075, .slice Ao53 t1076.length co53] 30 (0, 0)) (by (with_reducible repeat (first | refine blk_drewN ?_ _ | refine blk_drew ?_ | refine blk_alloc ?_ _)); exact BK1079.out) hb)
                  have n8_ := Aside0.mk (blk_below (g := gb1084) (o := .cells #[.int .i64 t1080, .slice Ao61 t1081.length co61] 30 (0, 0)) (by (with_reducible repeat (first | refine blk_drewN ?_ _ | refine blk_drew ?_ | refine blk_alloc ?_ _)); exact BK1084.out) hb)
                  have n9_ := Aside0.mk (below_step (by repeat (first | (with_reducible first | exact HB.out | apply below_alloc | apply pw_below_drewN | apply below_drew1 | refine below_set ?_ GE1058.out | refine below_set ?_ GE1059.out | refine below_set ?_ GE1079.out | refine below_set ?_ GE1084.out) | exact HB.out)) hb)
                  clear HO_12
                  clear HO_1080001
                  clear HO_1085001
                  clear HO1093
                  clear HO1098
                  clear BK1058
                  clear BK1059
                  clear BK1079
                  clear BK1084
                  clear HB
                  have HO_12 := n0_
                  have HO_1080001 := n1_
                  have HO_1085001 := n2_
                  have HO1093 := n3_
                  have HO1098 := n4_
                  have BK1058 := n5_
                  have BK1059 := n6_
                  have BK1079 := n7_
                  have BK1084 := n8_
                  have HB := n9_
                  clear n0_ n1_ n2_ n3_ n4_ n5_ n6_ n7_ n8_ n9_
                  (try clear hb)
                  (try clear hb2)
                  (try clear hk)
                  (try clear hi)
                  refine hK.out _ _ ⟨(blk_cell BK1084.out 0).trans rfl, (blk_cell BK1084.out 1).trans rfl, (blk_cell BK1059.out 0).trans rfl, (blk_cell BK1059.out 1).trans rfl⟩ (fun hHeld => ?_)
                  clear hK K
                  refine norm_ (a' := ?_) ?_ ?_
                  rotate_left
                  · show Act.put _ (some 67) _ = _
                    simp only [Act.put, List.setIfInBounds_toArray, List.set_cons_zero, List.set_cons_succ, i64_w, i32_w]
                    rfl
                  refine pure_ (i := 4) (N := some 68) (v := ?_) (a' := ?_) #[true, true, true, true, true] rfl rfl (by kernel_rfl) (fun _ _ _ h => h) (Or.inl ⟨by rfl, ?_⟩) ?_ ?_
                  rotate_left
                  · intro w'
                    go_simp
                    with_reducible rfl
                  rotate_left
                  · simp only [Act.put, List.setIfInBounds_toArray, List.set_cons_zero, List.set_cons_succ, i64_w, i32_w]
                    rfl
                  refine done_ (by kernel_rfl) ?_
                  try go_wp2
                  go_ret
                  exact ⟨by first | rfl | (simp [errW_none, errW_some] <;> rfl) | (simp [*, errW_none, errW_some] <;> rfl), by repeat (first | (with_reducible first | exact HB.out | apply below_alloc | apply pw_below_drewN | apply below_drew1 | refine below_set ?_ GE1058.out | refine below_set ?_ GE1059.out | refine below_set ?_ GE1079.out | refine below_set ?_ GE1084.out) | exact HB.out)⟩
              · replace c71 := Bool.eq_false_iff.mpr c71
                subst c71
                have H1 : (some false) = some r := by rw [if_neg (show ¬ (false = true) by decide)] at H; exact H
                clear H
                have H := H1
                clear H1
                obtain rfl := Option.some.inj H
                try go_wp2
                have n0_ := Aside0.mk (Kd.R_drew HO_12.out)
                have n1_ := Aside0.mk (Kd.S_drew HO_1080001.out)
                have n2_ := Aside0.mk (Kd.S_drew HO_1085001.out)
                have n3_ := Aside0.mk (blk_drew BK1058.out)
                have n4_ := Aside0.mk (blk_drew BK1059.out)
                have n5_ := Aside0.mk (blk_drew BK1079.out)
                have n6_ := Aside0.mk (blk_drew BK1084.out)
                have n7_ := Aside0.mk (below_drew1 HB.out)
                clear HO_12
                clear HO_1080001
                clear HO_1085001
                clear BK1058
                clear BK1059
                clear BK1079
                clear BK1084
                clear HB
                have HO_12 := n0_
                have HO_1080001 := n1_
                have HO_1085001 := n2_
                have BK1058 := n3_
                have BK1059 := n4_
                have BK1079 := n5_
                have BK1084 := n6_
                have HB := n7_
                clear n0_ n1_ n2_ n3_ n4_ n5_ n6_ n7_
                refine start_ (n := 5) (S := fun w' => w'.cell? ⟨gb1079, 0, none⟩ = some (.int .i64 t1075) ∧ w'.cell? ⟨gb1079, 1, none⟩ = some (.slice Ao53 t1076.length co53) ∧ w'.cell? ⟨gb1058, 0, none⟩ = some (.int .i64 a0_0) ∧ w'.cell? ⟨gb1058, 1, none⟩ = some (.slice A0_1 l0_1.length c0_1)) (ds := []) #[false, false, false, false, false] (by kernel_rfl) rfl rfl ⟨(blk_cell BK1079.out 0).trans rfl, (blk_cell BK1079.out 1).trans rfl, (blk_cell BK1058.out 0).trans rfl, (blk_cell BK1058.out 1).trans rfl⟩ (fun hHeld => ?_)
                generalize wc.drew = w106 at HO_12 HO_1080001 HO_1085001 BK1058 BK1059 BK1079 BK1084 HB hHeld ⊢
                refine take_ (i := 0) (N := some 59) (v := ?_) (a' := ?_) #[true, false, false, false, false] rfl rfl (by kernel_rfl) (fun _ _ _ h => h) (Or.inl ⟨by rfl, ?_⟩) hHeld ?_ ?_
                rotate_left
                · rintro w' ⟨s0, s1, s2, s3⟩
                  go_simp
                  with_reducible rfl
                rotate_left
                · simp only [Act.put, List.setIfInBounds_toArray, List.set_cons_zero, List.set_cons_succ, i64_w, i32_w]
                  rfl
                refine take_ (i := 1) (N := some 60) (v := ?_) (a' := ?_) #[true, true, false, false, false] rfl rfl (by kernel_rfl) (fun _ _ _ h => h) (Or.inl ⟨by rfl, ?_⟩) hHeld ?_ ?_
                rotate_left
                · rintro w' ⟨s0, s1, s2, s3⟩
                  go_simp
                  with_reducible rfl
                rotate_left
                · simp only [Act.put, List.setIfInBounds_toArray, List.set_cons_zero, List.set_cons_succ, i64_w, i32_w]
                  rfl
                refine one_ (i := 2) (N := some 61) #[true, true, true, false, false] rfl rfl (by kernel_rfl) (by decide) (fun K hK => ?_)
                refine goes_ Try.func17 (by kernel_rfl) rfl #[.agg #[.int .i64 a0_0, .slice A0_1 l0_1.length c0_1]] (by rfl) rfl rfl (by (try simp only [List.map_toArray, List.map_cons, List.map_nil]); first | done | rfl | (simp only [List.length_drop, List.length_take]; rfl)) ?_
                with_reducible refine (laws_toAlgebra.calls kj30 a0_0 _ _ l0_1 t1090 t1091 _ ?side1 ?side2 A69.out).mono ?_
                (case side1 => repeat (first | exact (Kd.C_below HR0_1.out HB.out) | (with_reducible refine Kd.C_alloc ?_ _) | (with_reducible refine Kd.C_drewN ?_ _) | (with_reducible refine Kd.C_drew ?_)))
                (case side2 => exact HC0_1.out)
                rintro e w107 ⟨v1092, rfl, ho0, hb⟩
                refine ⟨_, rfl, ?_⟩
                have n0_ := Aside0.mk (Kd.R_below (by (with_reducible repeat (first | apply Kd.R_alloc | apply Kd.R_drewN | apply Kd.R_drew)); exact HO_12.out) hb)
                have n1_ := Aside0.mk (Kd.S_elder' (by (with_reducible repeat (first | apply Kd.S_alloc | apply Kd.S_drewN | apply Kd.S_drew)); exact HO_1080001.out) (Kd.S_base ho0) hb)
                have n2_ := Aside0.mk (Kd.S_elder' (by (with_reducible repeat (first | apply Kd.S_alloc | apply Kd.S_drewN | apply Kd.S_drew)); exact HO_1085001.out) (Kd.S_base ho0) hb)
                have n3_ := Aside0.mk (Kd.S_lower (Kd.S_new' (Kd.S_new' (Kd.S_new' ho0 (Kd.R_lt (by (with_reducible repeat (first | apply Kd.R_alloc | apply Kd.R_drewN | apply Kd.R_drew)); exact HO_12.out))) (Kd.S_lt (by (with_reducible repeat (first | apply Kd.S_alloc | apply Kd.S_drewN | apply Kd.S_drew)); exact HO_1080001.out))) (Kd.S_lt (by (with_reducible repeat (first | apply Kd.S_alloc | apply Kd.S_drewN | apply Kd.S_drew)); exact HO_1085001.out))) (below_size (by repeat (first | (with_reducible first | exact HB.out | apply below_alloc | apply pw_below_drewN | apply below_drew1 | refine below_set ?_ GE1058.out | refine below_set ?_ GE1059.out | refine below_set ?_ GE1079.out | refine below_set ?_ GE1084.out) | exact HB.out))))
                have n4_ := Aside0.mk (blk_below (g := gb1058) (o := .cells #[.int .i64 a0_0, .slice A0_1 l0_1.length c0_1] 24 (0, 0)) (by (with_reducible repeat (first | refine blk_drewN ?_ _ | refine blk_drew ?_ | refine blk_alloc ?_ _)); exact BK1058.out) hb)
                have n5_ := Aside0.mk (blk_below (g := gb1059) (o := .cells #[.int .i64 a1_0, .slice A1_1 l1_1.length c1_1] 24 (0, 0)) (by (with_reducible repeat (first | refine blk_drewN ?_ _ | refine blk_drew ?_ | refine blk_alloc ?_ _)); exact BK1059.out) hb)
                have n6_ := Aside0.mk (blk_below (g := gb1079) (o := .cells #[.int .i64 t1075, .slice Ao53 t1076.length co53] 30 (0, 0)) (by (with_reducible repeat (first | refine blk_drewN ?_ _ | refine blk_drew ?_ | refine blk_alloc ?_ _)); exact BK1079.out) hb)
                have n7_ := Aside0.mk (blk_below (g := gb1084) (o := .cells #[.int .i64 t1080, .slice Ao61 t1081.length co61] 30 (0, 0)) (by (with_reducible repeat (first | refine blk_drewN ?_ _ | refine blk_drew ?_ | refine blk_alloc ?_ _)); exact BK1084.out) hb)
                have n8_ := Aside0.mk (below_step (by repeat (first | (with_reducible first | exact HB.out | apply below_alloc | apply pw_below_drewN | apply below_drew1 | refine below_set ?_ GE1058.out | refine below_set ?_ GE1059.out | refine below_set ?_ GE1079.out | refine below_set ?_ GE1084.out) | exact HB.out)) hb)
                clear HO_12
                clear HO_1080001
                clear HO_1085001
                clear BK1058
                clear BK1059
                clear BK1079
                clear BK1084
                clear HB
                have HO_12 := n0_
                have HO_1080001 := n1_
                have HO_1085001 := n2_
                have HO1093 := n3_
                have BK1058 := n4_
                have BK1059 := n5_
                have BK1079 := n6_
                have BK1084 := n7_
                have HB := n8_
                clear n0_ n1_ n2_ n3_ n4_ n5_ n6_ n7_ n8_
                (try clear hb)
                (try clear hb2)
                (try clear hk)
                (try clear hi)
                (try clear ho0)
                obtain ⟨Ao108, co108, eo108⟩ := Kd.S_slice HO1093.out
                (first | subst eo108 | (injection eo108 with f1_ f2_ f3_; have f4_ := f1_.symm; have f5_ := f3_.symm; clear f1_ f2_ f3_; subst f4_; subst f5_))
                refine hK.out _ _ ⟨(blk_cell BK1079.out 0).trans rfl, (blk_cell BK1079.out 1).trans rfl, (blk_cell BK1058.out 0).trans rfl, (blk_cell BK1058.out 1).trans rfl⟩ (fun hHeld => ?_)
                clear hK K
                refine norm_ (a' := ?_) ?_ ?_
                rotate_left
                · show Act.put _ (some 61) _ = _
                  simp only [Act.put, List.setIfInBounds_toArray, List.set_cons_zero, List.set_cons_succ, i64_w, i32_w]
                  rfl
                refine one_ (i := 3) (N := some 62) #[true, true, true, true, false] rfl rfl (by kernel_rfl) (by decide) (fun K hK => ?_)
                refine goes_ Try.func19 (by kernel_rfl) rfl #[.agg #[.int .i64 t1075, .slice Ao53 t1076.length co53], .agg #[.int .i64 t1090, .slice Ao108 t1091.length co108]] (by rfl) rfl rfl (by (try simp only [List.map_toArray, List.map_cons, List.map_nil]); first | done | rfl | (simp only [List.length_drop, List.length_take]; rfl)) ?_
                with_reducible refine (laws_eqAlgebra.calls kj30 t1075 _ _ t1076 t1090 _ _ t1091 false _ ?side1 ?side2 ?side3 ?side4 A70.out).mono ?_
                (case side1 => repeat (first | exact (Kd.S_reads' HO_1080001.out).2.2 | (with_reducible refine Kd.C_alloc ?_ _) | (with_reducible refine Kd.C_drewN ?_ _) | (with_reducible refine Kd.C_drew ?_)))
                (case side2 => exact (Kd.S_reads' HO_1080001.out).2.1)
                (case side3 => repeat (first | exact (Kd.S_reads' HO1093.out).2.2 | (with_reducible refine Kd.C_alloc ?_ _) | (with_reducible refine Kd.C_drewN ?_ _) | (with_reducible refine Kd.C_drew ?_)))
                (case side4 => exact (Kd.S_reads' HO1093.out).2.1)
                rintro e w109 ⟨rfl, hb⟩
                refine ⟨_, rfl, ?_⟩
                have n0_ := Aside0.mk (Kd.R_below (by (with_reducible repeat (first | apply Kd.R_alloc | apply Kd.R_drewN | apply Kd.R_drew)); exact HO_12.out) hb)
                have n1_ := Aside0.mk (Kd.S_below (by (with_reducible repeat (first | apply Kd.S_alloc | apply Kd.S_drewN | apply Kd.S_drew)); exact HO_1080001.out) hb)
                have n2_ := Aside0.mk (Kd.S_below (by (with_reducible repeat (first | apply Kd.S_alloc | apply Kd.S_drewN | apply Kd.S_drew)); exact HO_1085001.out) hb)
                have n3_ := Aside0.mk (Kd.S_below (by (with_reducible repeat (first | apply Kd.S_alloc | apply Kd.S_drewN | apply Kd.S_drew)); exact HO1093.out) hb)
                have n4_ := Aside0.mk (blk_below (g := gb1058) (o := .cells #[.int .i64 a0_0, .slice A0_1 l0_1.length c0_1] 24 (0, 0)) (by (with_reducible repeat (first | refine blk_drewN ?_ _ | refine blk_drew ?_ | refine blk_alloc ?_ _)); exact BK1058.out) hb)
                have n5_ := Aside0.mk (blk_below (g := gb1059) (o := .cells #[.int .i64 a1_0, .slice A1_1 l1_1.length c1_1] 24 (0, 0)) (by (with_reducible repeat (first | refine blk_drewN ?_ _ | refine blk_drew ?_ | refine blk_alloc ?_ _)); exact BK1059.out) hb)
                have n6_ := Aside0.mk (blk_below (g := gb1079) (o := .cells #[.int .i64 t1075, .slice Ao53 t1076.length co53] 30 (0, 0)) (by (with_reducible repeat (first | refine blk_drewN ?_ _ | refine blk_drew ?_ | refine blk_alloc ?_ _)); exact BK1079.out) hb)
                have n7_ := Aside0.mk (blk_below (g := gb1084) (o := .cells #[.int .i64 t1080, .slice Ao61 t1081.length co61] 30 (0, 0)) (by (with_reducible repeat (first | refine blk_drewN ?_ _ | refine blk_drew ?_ | refine blk_alloc ?_ _)); exact BK1084.out) hb)
                have n8_ := Aside0.mk (below_step (by repeat (first | (with_reducible first | exact HB.out | apply below_alloc | apply pw_below_drewN | apply below_drew1 | refine below_set ?_ GE1058.out | refine below_set ?_ GE1059.out | refine below_set ?_ GE1079.out | refine below_set ?_ GE1084.out) | exact HB.out)) hb)
                clear HO_12
                clear HO_1080001
                clear HO_1085001
                clear HO1093
                clear BK1058
                clear BK1059
                clear BK1079
                clear BK1084
                clear HB
                have HO_12 := n0_
                have HO_1080001 := n1_
                have HO_1085001 := n2_
                have HO1093 := n3_
                have BK1058 := n4_
                have BK1059 := n5_
                have BK1079 := n6_
                have BK1084 := n7_
                have HB := n8_
                clear n0_ n1_ n2_ n3_ n4_ n5_ n6_ n7_ n8_
                (try clear hb)
                (try clear hb2)
                (try clear hk)
                (try clear hi)
                refine hK.out _ _ ⟨(blk_cell BK1079.out 0).trans rfl, (blk_cell BK1079.out 1).trans rfl, (blk_cell BK1058.out 0).trans rfl, (blk_cell BK1058.out 1).trans rfl⟩ (fun hHeld => ?_)
                clear hK K
                refine norm_ (a' := ?_) ?_ ?_
                rotate_left
                · show Act.put _ (some 62) _ = _
                  simp only [Act.put, List.setIfInBounds_toArray, List.set_cons_zero, List.set_cons_succ, i64_w, i32_w]
                  rfl
                refine pure_ (i := 4) (N := some 63) (v := ?_) (a' := ?_) #[true, true, true, true, true] rfl rfl (by kernel_rfl) (fun _ _ _ h => h) (Or.inl ⟨by rfl, ?_⟩) ?_ ?_
                rotate_left
                · intro w'
                  go_simp
                  with_reducible rfl
                rotate_left
                · simp only [Act.put, List.setIfInBounds_toArray, List.set_cons_zero, List.set_cons_succ, i64_w, i32_w]
                  rfl
                refine done_ (by kernel_rfl) ?_
                try go_wp2
                go_ret
                exact ⟨by first | rfl | (simp [errW_none, errW_some] <;> rfl) | (simp [*, errW_none, errW_some] <;> rfl), by repeat (first | (with_reducible first | exact HB.out | apply below_alloc | apply pw_below_drewN | apply below_drew1 | refine below_set ?_ GE1058.out | refine below_set ?_ GE1059.out | refine below_set ?_ GE1079.out | refine below_set ?_ GE1084.out) | exact HB.out)⟩
end Go.Proofs.Ytijnfpfijgmopaa.Q

namespace Go.Proofs.Ytijnfpfijgmopaa
open Go.ChangeShapes Go.WideShapes
end Go.Proofs.Ytijnfpfijgmopaa
namespace Go.Proofs.Ytijnfpfijgmopaa.Pure
open Go.RowKit Go.Proofs.Ytijnfpfijgmopaa.Q Go.Proofs.YtijnfpfijgmopaaW.PrintWords Go.Proofs.YtijnfpfijgmopaaW.PrintLast
set_option linter.unusedVariables false
set_option linter.unusedSimpArgs false
theorem Ev.pos {α : Type} {c : Prop} [Decidable c] {f g : Nat → Option α} {r : α} (h : c) (hf : Ev f r) : Ev (fun k => if c then f k else g k) r := by
  simpa only [if_pos h] using hf
theorem Ev.neg {α : Type} {c : Prop} [Decidable c] {f g : Nat → Option α} {r : α} (h : ¬ c) (hg : Ev g r) : Ev (fun k => if c then f k else g k) r := by
  simpa only [if_neg h] using hg
theorem Ev.ite {α : Type} {c : Prop} [Decidable c] {f g : Nat → Option α} {r : α} (h : c → Ev f r) (h' : ¬ c → Ev g r) : Ev (fun k => if c then f k else g k) r := by
  by_cases hc : c
  · exact Ev.pos hc (h hc)
  · exact Ev.neg hc (h' hc)
theorem Ev.bind1 {α β : Type} {x : α} {f : Nat → α → Option β} {r : β} (k : Ev (fun n => f n x) r) : Ev (fun n => (some x).bind (f n)) r := k
theorem _root_.Go.Proofs.YtijnfpfijgmopaaW.PrintWords.Ev.to {α : Type} {g : Nat → Option α} {r s : α} (h : Ev g r) (e : r = s) : Ev g s := e ▸ h
theorem w64 {x : Int} (h1 : -9223372036854775808 ≤ x) (h2 : x ≤ 9223372036854775807) : wrap64 x = x := by unfold wrap64; omega
theorem w64s {i n : Nat} (h : i < n) (hn : n ≤ 9223372036854775807) : wrap64 ((i : Int) + 1) = ((i + 1 : Nat) : Int) := by unfold wrap64; omega
def gd (l : List Int) (i : Nat) : Int := l.getD i 0
theorem rdn (xs : List Int) (i : Nat) : rd xs (i : Int) = gd xs i := by simp [rd, gd]
theorem gd_lt {xs : List Int} {i : Nat} (h : i < xs.length) : gd xs i = xs[i] := by simp [gd, List.getD, h]
theorem ext_gd {a b : List Int} (h : a.length = b.length) (e : ∀ i, i < a.length → gd a i = gd b i) : a = b := by
  apply List.ext_getElem h
  intro i h1 h2
  have := e i h1
  rwa [gd_lt h1, gd_lt h2] at this
theorem take_snoc (l : List Int) {i : Nat} (h : i < l.length) : l.take i ++ [gd l i] = l.take (i + 1) := by
  rw [gd_lt h, List.take_append_getElem]
def Evs (P : Nat → Prop) : Prop := ∃ K, ∀ k, K ≤ k → P k
theorem Evs.of {α : Type} {g : Nat → Option α} {r : α} (h : Ev g r) : Evs (fun k => g k = some r) := h
theorem Evs.true {P : Prop} (h : P) : Evs (fun _ => P) := ⟨0, fun _ _ => h⟩
theorem drop_cons {α : Type} (l : List α) (z : α) {i : Nat} (h : i < l.length) : l.drop i = l.getD i z :: l.drop (i + 1) := by
  rw [List.drop_eq_getElem_cons h]
  simp [List.getD, h]
theorem all_loop {α : Type} (l : List α) (z : α) (p : α → Bool) (L : Nat → Int → Option Bool) (hend : Ev (fun k => L k (l.length : Int)) true)
    (hT : ∀ (i : Nat) (r : Bool), i < l.length → p (l.getD i z) = true → Ev (fun k => L k ((i + 1 : Nat) : Int)) r → Ev (fun k => L k (i : Int)) r)
    (hF : ∀ i : Nat, i < l.length → p (l.getD i z) = false → Ev (fun k => L k (i : Int)) false) : ∀ (d i : Nat), i + d = l.length → Ev (fun k => L k (i : Int)) ((l.drop i).all p) := by
  intro d
  induction d with
  | zero =>
    intro i hi
    have : i = l.length := by omega
    subst this
    simpa using hend
  | succ d ih =>
    intro i hi
    rw [drop_cons l z (by omega), List.all_cons]
    cases hp : p (l.getD i z) with
    | true => simpa using hT i _ (by omega) hp (ih (i + 1) (by omega))
    | false => simpa using hF i (by omega) hp
theorem map_loop {α β γ : Type} (l : List α) (z : α) (f : α → β) (L : Nat → List β → Int → Option γ) (fin : γ) (hend : Ev (fun k => L k (l.map f) (l.length : Int)) fin)
    (hstep : ∀ (i : Nat) (out : List β), i < l.length → out.length = i → Ev (fun k => L k (out ++ [f (l.getD i z)]) ((i + 1 : Nat) : Int)) fin → Ev (fun k => L k out (i : Int)) fin) :
    ∀ (d i : Nat), i + d = l.length → Ev (fun k => L k ((l.take i).map f) (i : Int)) fin := by
  intro d
  induction d with
  | zero =>
    intro i hi
    have : i = l.length := by omega
    subst this
    simpa using hend
  | succ d ih =>
    intro i hi
    refine hstep i _ (by omega) (by simp; omega) ?_
    have := ih (i + 1) (by omega)
    rw [List.take_succ_eq_append_getElem (by omega), List.map_append] at this
    simpa [List.getD, show i < l.length by omega] using this
theorem set_loop {α β γ : Type} (l : List α) (z : α) (f : α → β) (L : Nat → List β → Int → Option γ) (fin : γ) (hend : Ev (fun k => L k (l.map f) (l.length : Int)) fin)
    (hstep : ∀ (i : Nat) (out : List β), i < l.length → out.length = l.length → Ev (fun k => L k (out.set i (f (l.getD i z))) ((i + 1 : Nat) : Int)) fin → Ev (fun k => L k out (i : Int)) fin) :
    ∀ (d i : Nat) (out : List β), i + d = l.length → out.length = l.length → (∀ j, j < i → out[j]? = (l.map f)[j]?) → Ev (fun k => L k out (i : Int)) fin := by
  intro d
  induction d with
  | zero =>
    intro i out hi ho h
    have : i = l.length := by omega
    subst this
    have : out = l.map f := by
      apply List.ext_getElem?
      intro j
      rcases Nat.lt_or_ge j l.length with h1 | h1
      · exact h j h1
      · rw [List.getElem?_eq_none (by omega), List.getElem?_eq_none (by simpa using h1)]
    rw [this]
    exact hend
  | succ d ih =>
    intro i out hi ho h
    refine hstep i out (by omega) ho (ih (i + 1) _ (by omega) (by simpa using ho) (fun j hj => ?_))
    rw [List.getElem?_set]
    by_cases e : i = j
    · subst e
      rw [if_pos rfl, if_pos (by omega)]
      simp [List.getD, show i < l.length by omega]
    · rw [if_neg e]
      exact h j (by omega)
def sizeB (n : Int) : Bool := decide (1 ≤ n ∧ n ≤ 8)
theorem spec_l1In_eq (a b c : Int) : spec_l1In.f a b c = some (decide (b ≤ a ∧ a ≤ c)) := by
  unfold spec_l1In.f
  split
  · congr 1; simp; omega
  · congr 1; simp; omega
theorem toIntS_loop (l : List Int) (hl : l.length ≤ 35184372088832) : ∀ (d i : Nat) (x : List Int), i + d = l.length → x.length = l.length → (∀ j, j < i → gd x j = gd l j) → Ev (fun k => laws_toIntS.l0 k l x (i : Int)) l := by
  intro d
  induction d with
  | zero =>
    intro i x hi hx h
    refine Ev.step (fun _ => laws_toIntS.l0.eq_2 ..) ?_
    refine Ev.neg (by omega) ?_
    have : x = l := by
      apply List.ext_getElem hx
      intro j h1 h2
      have := h j (by omega)
      simpa [gd, List.getD, h1, h2] using this
    subst this
    exact Ev.now _
  | succ d ih =>
    intro i x hi hx h
    refine Ev.step (fun _ => laws_toIntS.l0.eq_2 ..) ?_
    refine Ev.pos (by omega) ?_
    refine Ev.pos (by omega) ?_
    refine Ev.pos (by omega) ?_
    rw [w64s (n := l.length) (by omega) (by omega), rdn, Int.toNat_natCast]
    refine ih (i + 1) _ (by omega) (by simpa using hx) ?_
    intro j hj
    by_cases e : j = i
    · subst e
      simp [gd, List.getD, show j < x.length by omega]
    · have := h j (by omega)
      simp only [gd, List.getD] at this ⊢
      rw [List.getElem?_set_ne (by omega)]
      exact this
theorem toIntS_ev (l : List Int) (hl : l.length ≤ 35184372088832) : Ev (fun k => laws_toIntS.f k l) l := by
  unfold laws_toIntS.f
  refine Ev.pos (by omega) ?_
  refine Ev.pos (by omega) ?_
  exact toIntS_loop l hl l.length 0 _ (by omega) (by simp) (fun j hj => by omega)
theorem eqIntS_loop (a b : List Int) (hb : b.length = a.length) (hl : a.length ≤ 35184372088832) : ∀ (d i : Nat), i + d = a.length → Ev (fun k => laws_eqIntS.l0 k a b (i : Int)) (decide (a.drop i = b.drop i)) := by
  intro d
  induction d with
  | zero =>
    intro i hi
    refine Ev.step (fun _ => laws_eqIntS.l0.eq_2 ..) ?_
    refine Ev.neg (by omega) ?_
    refine (Ev.now _).to ?_
    rw [List.drop_of_length_le (by omega), List.drop_of_length_le (by omega)]
    simp
  | succ d ih =>
    intro i hi
    refine Ev.step (fun _ => laws_eqIntS.l0.eq_2 ..) ?_
    refine Ev.pos (by omega) ?_
    refine Ev.pos (by omega) ?_
    refine Ev.pos (by omega) ?_
    rw [w64s (n := a.length) (by omega) (by omega), rdn, rdn]
    have e1 : a.drop i = gd a i :: a.drop (i + 1) := by rw [gd_lt (by omega)]; exact List.drop_eq_getElem_cons (by omega)
    have e2 : b.drop i = gd b i :: b.drop (i + 1) := by rw [gd_lt (by omega)]; exact List.drop_eq_getElem_cons (by omega)
    refine Ev.ite (fun h => ?_) (fun h => ?_)
    · refine (ih (i + 1) (by omega)).to ?_
      rw [e1, e2, h]
      simp
    · refine (Ev.now _).to ?_
      rw [e1, e2]
      simp [h]
theorem eqIntS_ev (a b : List Int) (hl : a.length ≤ 35184372088832) : Ev (fun k => laws_eqIntS.f k a b) (decide (a = b)) := by
  unfold laws_eqIntS.f
  refine Ev.ite (fun h => ?_) (fun h => ?_)
  · exact eqIntS_loop a b (by omega) hl a.length 0 (by omega)
  · refine (Ev.now _).to ?_
    have : a ≠ b := fun e => h (by rw [e])
    simp [this]
theorem eqIntS_same (a : List Int) (hl : a.length ≤ 35184372088832) : Ev (fun k => laws_eqIntS.f k a a) true := (eqIntS_ev a a hl).to (by simp)
abbrev IOp := S87
abbrev LOp := S109
theorem rdO_n (xs : List IOp) (i : Nat) : rd_T87 xs (i : Int) = xs.getD i z87 := by simp [rd_T87]
theorem rdL_n (xs : List LOp) (i : Nat) : rd_T109 xs (i : Int) = xs.getD i z109 := by simp [rd_T109]
def inB (n x : Int) : Bool := decide (0 ≤ x ∧ x < n)
def powI (n k : Int) : Int := n ^ k.toNat
def opB (n a : Int) (l : List Int) : Bool := decide (0 ≤ a ∧ a ≤ 3) && (decide ((l.length : Int) = powI n a) && l.all (inB n))
def algB (n : Int) (ops : List IOp) : Bool := sizeB n && (decide (ops.length ≤ 4) && ops.all fun x => opB n x.f0 x.f1)
theorem impl_power_ev (n k : Int) (hn : 1 ≤ n ∧ n ≤ 8) (hk : 0 ≤ k ∧ k ≤ 3) : Ev (fun f => impl_power.f f n k) (powI n k) := by
  have h1 : n = 1 ∨ n = 2 ∨ n = 3 ∨ n = 4 ∨ n = 5 ∨ n = 6 ∨ n = 7 ∨ n = 8 := by omega
  have h2 : k = 0 ∨ k = 1 ∨ k = 2 ∨ k = 3 := by omega
  refine Ev.of (fun f => impl_power.mono n k f) (k := 5) ?_
  rcases h1 with rfl | rfl | rfl | rfl | rfl | rfl | rfl | rfl <;> rcases h2 with rfl | rfl | rfl | rfl <;> decide +kernel
theorem spec_l2Pow_ev (n k : Int) (hn : 1 ≤ n ∧ n ≤ 8) (hk : 0 ≤ k ∧ k ≤ 3) : Ev (fun f => spec_l2Pow.f f n k) (powI n k) := by
  have h1 : n = 1 ∨ n = 2 ∨ n = 3 ∨ n = 4 ∨ n = 5 ∨ n = 6 ∨ n = 7 ∨ n = 8 := by omega
  have h2 : k = 0 ∨ k = 1 ∨ k = 2 ∨ k = 3 := by omega
  refine Ev.of (fun f => spec_l2Pow.mono n k f) (k := 5) ?_
  rcases h1 with rfl | rfl | rfl | rfl | rfl | rfl | rfl | rfl <;> rcases h2 with rfl | rfl | rfl | rfl <;> decide +kernel
theorem impl_inSize_ev (l : List Int) (n : Int) (hl : l.length ≤ 35184372088832) : Ev (fun k => impl_inSize.f k l n) (l.all (inB n)) := by
  unfold impl_inSize.f
  refine all_loop l 0 (inB n) (fun k i => impl_inSize.l0 k n l (l.length : Int) i) ?_ ?_ ?_ l.length 0 (by omega)
  · exact Ev.step (fun _ => impl_inSize.l0.eq_2 ..) (Ev.neg (by omega) (Ev.now _))
  · intro i r hi hp h
    have hp' := of_decide_eq_true hp
    refine Ev.step (fun _ => impl_inSize.l0.eq_2 ..) ?_
    rw [w64s (n := l.length) (by omega) (by omega), rdn]
    change 0 ≤ gd l i ∧ gd l i < n at hp'
    exact Ev.pos (by omega) (Ev.pos (by omega) (Ev.pos (by omega) (Ev.neg (by omega) (Ev.neg (by omega) h))))
  · intro i hi hp
    have hp' := of_decide_eq_false hp
    change ¬ (0 ≤ gd l i ∧ gd l i < n) at hp'
    refine Ev.step (fun _ => impl_inSize.l0.eq_2 ..) ?_
    rw [rdn]
    refine Ev.pos (by omega) (Ev.pos (by omega) (Ev.pos (by omega) (Ev.ite (fun _ => Ev.now _) (fun h1 => Ev.pos (by omega) (Ev.now _)))))
theorem impl_isOp_ev (n a : Int) (l : List Int) (hn : sizeB n = true) (hl : l.length ≤ 35184372088832) : Ev (fun k => impl_isOp.f k a l n) (opB n a l) := by
  have hn' := of_decide_eq_true hn
  unfold impl_isOp.f opB
  refine Ev.ite (fun h1 => Ev.ite (fun h2 => ?_) (fun h2 => (Ev.now _).to ?_)) (fun h1 => (Ev.now _).to ?_)
  · refine (impl_power_ev n a hn' ⟨by omega, by omega⟩).bind (Ev.ite (fun h3 => ?_) (fun h3 => (Ev.now _).to ?_))
    · refine (impl_inSize_ev l n hl).bind ((Ev.now _).to ?_)
      rw [decide_eq_true (show 0 ≤ a ∧ a ≤ 3 by omega), decide_eq_true h3]
      simp
    · rw [decide_eq_false h3]
      simp
  · rw [decide_eq_false (show ¬ (0 ≤ a ∧ a ≤ 3) by omega)]
    simp
  · rw [decide_eq_false (show ¬ (0 ≤ a ∧ a ≤ 3) by omega)]
    simp
theorem spec_l2Op_ev (n a : Int) (l : List Int) (hn : sizeB n = true) (hl : l.length ≤ 35184372088832) : Ev (fun k => spec_l2Op.f k n a l) (opB n a l) := by
  have hn' := of_decide_eq_true hn
  have loop : Ev (fun k => spec_l2Op.l0 k n 0 a l) (l.all (inB n)) := by
    refine all_loop l 0 (inB n) (fun k i => spec_l2Op.l0 k n i a l) ?_ ?_ ?_ l.length 0 (by omega)
    · exact Ev.step (fun _ => spec_l2Op.l0.eq_2 ..) (Ev.neg (by omega) (Ev.now _))
    · intro i r hi hp h
      have hp' := of_decide_eq_true hp
      change 0 ≤ gd l i ∧ gd l i < n at hp'
      refine Ev.step (fun _ => spec_l2Op.l0.eq_2 ..) ?_
      rw [w64s (n := l.length) (by omega) (by omega), rdn, spec_l1In_eq, w64 (by omega) (by omega)]
      refine Ev.pos (by omega) (Ev.pos (by omega) (Ev.bind1 (Ev.pos (decide_eq_true (by omega)) h)))
    · intro i hi hp
      have hp' := of_decide_eq_false hp
      change ¬ (0 ≤ gd l i ∧ gd l i < n) at hp'
      refine Ev.step (fun _ => spec_l2Op.l0.eq_2 ..) ?_
      rw [rdn, spec_l1In_eq, w64 (by omega) (by omega)]
      refine Ev.pos (by omega) (Ev.pos (by omega) (Ev.bind1 (Ev.neg (by rw [decide_eq_true_eq]; omega) (Ev.now _))))
  unfold spec_l2Op.f opB
  rw [spec_l1In_eq]
  refine Ev.bind1 (Ev.ite (fun h1 => ?_) (fun h1 => ?_))
  · have h1' := of_decide_eq_true h1
    refine (spec_l2Pow_ev n a hn' h1').bind ?_
    refine Ev.step (fun _ => spec_l2Op.j0.eq_2 ..) (Ev.ite (fun h2 => (Ev.now _).to ?_) (fun h2 => loop.to ?_))
    · have : ¬ ((l.length : Int) = powI n a) := by simpa using h2
      simp [this]
    · have : (l.length : Int) = powI n a := by simpa using h2
      rw [decide_eq_true h1', decide_eq_true this]
      simp
  · refine Ev.step (fun _ => spec_l2Op.j0.eq_2 ..) (Ev.pos rfl ((Ev.now _).to ?_))
    simp at h1 ⊢
    omega
def fitO (ops : List IOp) : Prop := ops.length ≤ 8796093022208 ∧ ∀ x ∈ ops, x.f1.length ≤ 1048576
theorem fitO_at {ops : List IOp} (h : fitO ops) {i : Nat} (hi : i < ops.length) : (ops.getD i z87).f1.length ≤ 1048576 := by
  refine h.2 _ ?_
  rw [List.getD_eq_getElem?_getD, List.getElem?_eq_getElem hi]
  exact List.getElem_mem hi
theorem impl_IsAlgebra_ev (n : Int) (ops : List IOp) (hf : fitO ops) : Ev (fun k => impl_IsAlgebra.f k n ops) (algB n ops) := by
  have hl := hf.1
  have loop : sizeB n = true → Ev (fun k => impl_IsAlgebra.l0 k ops (ops.length : Int) 0 n ops) (ops.all fun x => opB n x.f0 x.f1) := by
    intro hn
    refine all_loop ops z87 (fun x => opB n x.f0 x.f1) (fun k i => impl_IsAlgebra.l0 k ops (ops.length : Int) i n ops) ?_ ?_ ?_ ops.length 0 (by omega)
    · exact Ev.step (fun _ => impl_IsAlgebra.l0.eq_2 ..) (Ev.neg (by omega) (Ev.now _))
    · intro i r hi hp h
      refine Ev.step (fun _ => impl_IsAlgebra.l0.eq_2 ..) ?_
      rw [w64s (n := ops.length) (by omega) (by omega), rdO_n]
      have he := impl_isOp_ev n (ops.getD i z87).f0 (ops.getD i z87).f1 hn (by have := fitO_at hf hi; omega)
      rw [hp] at he
      exact Ev.pos (by omega) (Ev.pos (by omega) (Ev.pos (by omega) (he.bind (Ev.pos rfl h))))
    · intro i hi hp
      refine Ev.step (fun _ => impl_IsAlgebra.l0.eq_2 ..) ?_
      rw [rdO_n]
      have he := impl_isOp_ev n (ops.getD i z87).f0 (ops.getD i z87).f1 hn (by have := fitO_at hf hi; omega)
      rw [hp] at he
      exact Ev.pos (by omega) (Ev.pos (by omega) (Ev.pos (by omega) (he.bind (Ev.neg (by decide) (Ev.now _)))))
  unfold impl_IsAlgebra.f
  have no : sizeB n = false → algB n ops = false := fun h => by simp [algB, h]
  refine Ev.ite (fun h => ?_) (fun h => Ev.ite (fun h' => ?_) (fun h' => ?_))
  · exact Ev.step (fun _ => impl_IsAlgebra.j0.eq_2 ..) (Ev.pos rfl ((Ev.now _).to (no (decide_eq_false (by omega))).symm))
  · exact Ev.step (fun _ => impl_IsAlgebra.j0.eq_2 ..) (Ev.pos rfl ((Ev.now _).to (no (decide_eq_false (by omega))).symm))
  · have hn : sizeB n = true := decide_eq_true (by omega)
    refine Ev.step (fun _ => impl_IsAlgebra.j0.eq_2 ..) (Ev.ite (fun h2 => (Ev.now _).to ?_) (fun h2 => (loop hn).to ?_))
    · have := of_decide_eq_true h2
      simp [algB, show ¬ ops.length ≤ 4 by omega]
    · have : ops.length ≤ 4 := by simp at h2; omega
      simp [algB, hn, this]
theorem spec_l2Good_ev (n : Int) (ops : List IOp) (hf : fitO ops) : Ev (fun k => spec_l2Good.f k n ops) (algB n ops) := by
  have hl := hf.1
  have loop : sizeB n = true → Ev (fun k => spec_l2Good.l0 k 0 n ops) (ops.all fun x => opB n x.f0 x.f1) := by
    intro hn
    refine all_loop ops z87 (fun x => opB n x.f0 x.f1) (fun k i => spec_l2Good.l0 k i n ops) ?_ ?_ ?_ ops.length 0 (by omega)
    · exact Ev.step (fun _ => spec_l2Good.l0.eq_2 ..) (Ev.neg (by omega) (Ev.now _))
    · intro i r hi hp h
      refine Ev.step (fun _ => spec_l2Good.l0.eq_2 ..) ?_
      rw [w64s (n := ops.length) (by omega) (by omega), rdO_n]
      have he := spec_l2Op_ev n (ops.getD i z87).f0 (ops.getD i z87).f1 hn (by have := fitO_at hf hi; omega)
      rw [hp] at he
      exact Ev.pos (by omega) (Ev.pos (by omega) (he.bind (Ev.pos rfl h)))
    · intro i hi hp
      refine Ev.step (fun _ => spec_l2Good.l0.eq_2 ..) ?_
      rw [rdO_n]
      have he := spec_l2Op_ev n (ops.getD i z87).f0 (ops.getD i z87).f1 hn (by have := fitO_at hf hi; omega)
      rw [hp] at he
      exact Ev.pos (by omega) (Ev.pos (by omega) (he.bind (Ev.neg (by decide) (Ev.now _))))
  unfold spec_l2Good.f
  rw [spec_l1In_eq]
  refine Ev.bind1 (Ev.ite (fun h => ?_) (fun h => ?_))
  · refine Ev.step (fun _ => spec_l2Good.j0.eq_2 ..) (Ev.ite (fun h2 => (Ev.now _).to ?_) (fun h2 => (loop h).to ?_))
    · have := of_decide_eq_true h2
      simp [algB, show ¬ ops.length ≤ 4 by omega]
    · have : ops.length ≤ 4 := by simp at h2; omega
      have h' : sizeB n = true := h
      simp [algB, h', this]
  · refine Ev.step (fun _ => spec_l2Good.j0.eq_2 ..) (Ev.pos rfl ((Ev.now _).to ?_))
    have h' : sizeB n = false := by simpa [sizeB] using h
    simp [algB, h']
def argsM (n : Int) : Nat → Int → List Int
  | 0, _ => []
  | k + 1, i => argsM n k (i / n) ++ [i % n]
def valM (n : Int) (l : List Int) : Int := l.foldl (fun at_ x => at_ * n + x) 0
theorem argsM_length (n : Int) : ∀ (k : Nat) (i : Int), (argsM n k i).length = k := by
  intro k
  induction k with
  | zero => intro i; rfl
  | succ k ih => intro i; simp [argsM, ih]
theorem argsM_in {n : Int} (hn : 1 ≤ n) : ∀ (k : Nat) (i : Int), 0 ≤ i → ∀ x ∈ argsM n k i, 0 ≤ x ∧ x < n := by
  intro k
  induction k with
  | zero => intro i _ x hx; simp [argsM] at hx
  | succ k ih =>
    intro i hi x hx
    simp only [argsM, List.mem_append, List.mem_singleton] at hx
    rcases hx with hx | rfl
    · exact ih _ (Int.ediv_nonneg hi (by omega)) x hx
    · exact ⟨Int.emod_nonneg _ (by omega), Int.emod_lt_of_pos _ (by omega)⟩
theorem valM_snoc (n : Int) (l : List Int) (x : Int) : valM n (l ++ [x]) = valM n l * n + x := by simp [valM]
theorem rev_ind {α : Type} {P : List α → Prop} (h0 : P []) (h1 : ∀ l x, P l → P (l ++ [x])) (l : List α) : P l := by
  have key : ∀ (n : Nat) (l : List α), l.length = n → P l := by
    intro n
    induction n with
    | zero =>
      intro l hl
      have : l = [] := List.eq_nil_of_length_eq_zero hl
      subst this
      exact h0
    | succ n ih =>
      intro l hl
      have hne : l ≠ [] := fun h => by subst h; simp at hl
      rw [← List.dropLast_concat_getLast hne]
      exact h1 _ _ (ih _ (by simp [hl]))
  exact key l.length l rfl
theorem valM_in {n : Int} (hn : 1 ≤ n) (l : List Int) : (∀ x ∈ l, 0 ≤ x ∧ x < n) → 0 ≤ valM n l ∧ valM n l < n ^ l.length := by
  induction l using rev_ind with
  | h0 => intro _; simp [valM]
  | h1 l x ih =>
    intro h
    obtain ⟨h1, h2⟩ := ih (fun y hy => h y (by simp [hy]))
    obtain ⟨h3, h4⟩ := h x (by simp)
    rw [valM_snoc, List.length_append, List.length_singleton, Int.pow_succ]
    have h5 : 0 ≤ valM n l * n := Int.mul_nonneg h1 (by omega)
    have h6 : (valM n l + 1) * n ≤ n ^ l.length * n := Int.mul_le_mul_of_nonneg_right (by omega) (by omega)
    rw [Int.add_mul] at h6
    omega
theorem div_in {i n : Int} (h0 : 0 ≤ i) (hi : i ≤ 1152921504606846976) (hn : 1 ≤ n) : wrap64 (Int.tdiv i n) = i / n ∧ 0 ≤ i / n ∧ i / n ≤ i := by
  have h1 : Int.tdiv i n = i / n := Int.tdiv_eq_ediv_of_nonneg h0
  have h2 : 0 ≤ i / n := Int.ediv_nonneg h0 (by omega)
  have h3 : i / n ≤ i := Int.ediv_le_self n h0
  exact ⟨by rw [h1, w64 (by omega) (by omega)], h2, h3⟩
theorem spec_l2Args_loop (n : Int) (hn : 1 ≤ n) (k : Nat) (hk : k ≤ 8796093022208) : ∀ (j : Nat) (i : Int) (x : List Int), j ≤ k → x.length = k → 0 ≤ i → i ≤ 1152921504606846976 → Ev (fun f => spec_l2Args.l0 f n i x ((j : Int) - 1)) (argsM n j i ++ x.drop j) := by
  intro j
  induction j with
  | zero =>
    intro i x _ _ _ _
    exact Ev.step (fun _ => spec_l2Args.l0.eq_2 ..) (Ev.neg (by omega) (Ev.now _))
  | succ j ih =>
    intro i x hj hx h0 hi
    obtain ⟨e1, e2, e3⟩ := div_in h0 hi hn
    refine Ev.step (fun _ => spec_l2Args.l0.eq_2 ..) (Ev.pos (by omega) (Ev.neg (by omega) (Ev.pos (by omega) (Ev.pos (by omega) ?_))))
    rw [e1, Int.tmod_eq_emod_of_nonneg h0, show (((j + 1 : Nat) : Int) - 1).toNat = j by omega, w64 (x := ((j + 1 : Nat) : Int) - 1 - 1) (by omega) (by omega), show (((j + 1 : Nat) : Int) - 1 - 1) = (j : Int) - 1 by omega]
    refine (ih (i / n) (x.set j (i % n)) (by omega) (by simpa using hx) e2 (by omega)).to ?_
    rw [argsM, List.append_assoc]
    congr 1
    rw [List.drop_eq_getElem_cons (by simp; omega), List.drop_set_of_lt (by omega)]
    simp
theorem spec_l2Args_ev (n : Int) (k : Nat) (i : Int) (hn : 1 ≤ n) (hk : k ≤ 3) (h0 : 0 ≤ i) (hi : i ≤ 1152921504606846976) : Ev (fun f => spec_l2Args.f f n (k : Int) i) (argsM n k i) := by
  unfold spec_l2Args.f
  refine Ev.pos (by omega) (Ev.pos (by omega) ?_)
  rw [w64 (by omega) (by omega)]
  exact (spec_l2Args_loop n hn k (by omega) k i _ (Nat.le_refl _) (by simp) h0 hi).to (by simp)
theorem grow_in {n a x : Int} (hn : 1 ≤ n ∧ n ≤ 8) (ha : 0 ≤ a ∧ a ≤ 1048576) (hx : 0 ≤ x ∧ x < n) : wrap64 (wrap64 (a * n) + x) = a * n + x := by
  have h1 : 0 ≤ a * n := Int.mul_nonneg ha.1 (by omega)
  have h2 : a * n ≤ 1048576 * 8 := Int.mul_le_mul ha.2 hn.2 (by omega) (by omega)
  rw [w64 (x := a * n) (by omega) (by omega), w64 (by omega) (by omega)]
theorem pow_le3 {n : Int} (hn : 1 ≤ n ∧ n ≤ 8) {k : Nat} (hk : k ≤ 3) : n ^ k ≤ 512 := by
  have h1 : n = 1 ∨ n = 2 ∨ n = 3 ∨ n = 4 ∨ n = 5 ∨ n = 6 ∨ n = 7 ∨ n = 8 := by omega
  have h2 : k = 0 ∨ k = 1 ∨ k = 2 ∨ k = 3 := by omega
  rcases h1 with rfl | rfl | rfl | rfl | rfl | rfl | rfl | rfl <;> rcases h2 with rfl | rfl | rfl | rfl <;> decide
theorem spec_l2Value_loop (n : Int) (ops : List IOp) (op : Nat) (args : List Int) (hn : 1 ≤ n ∧ n ≤ 8) (hop : op < ops.length) (ha : ∀ x ∈ args, 0 ≤ x ∧ x < n) (hl : args.length ≤ 3) (ht : n ^ args.length ≤ ((ops.getD op z87).f1.length : Int)) :
    ∀ (d i : Nat), i + d = args.length → Ev (fun k => spec_l2Value.l0 k (op : Int) args (valM n (args.take i)) (i : Int) n ops) (gd (ops.getD op z87).f1 (valM n args).toNat) := by
  have hv := valM_in hn.1 args ha
  intro d
  induction d with
  | zero =>
    intro i hi
    refine Ev.step (fun _ => spec_l2Value.l0.eq_2 ..) (Ev.neg (by omega) ?_)
    rw [List.take_of_length_le (by omega), rdO_n]
    exact Ev.pos (by omega) (Ev.pos (by omega) (Ev.pos hv.1 (Ev.pos (by omega) (Ev.now _))))
  | succ d ih =>
    intro i hi
    have hx := ha (gd args i) (by rw [gd_lt (by omega)]; exact List.getElem_mem _)
    have hvi := valM_in hn.1 (args.take i) (fun x h => ha x (List.mem_of_mem_take h))
    have h512 := pow_le3 hn (k := (args.take i).length) (by simp; omega)
    refine Ev.step (fun _ => spec_l2Value.l0.eq_2 ..) (Ev.pos (by omega) (Ev.pos (by omega) ?_))
    rw [rdn, grow_in hn ⟨hvi.1, by omega⟩ hx, w64s (n := args.length) (by omega) (by omega), ← valM_snoc, take_snoc _ (by omega)]
    exact ih (i + 1) (by omega)
theorem spec_l2Value_ev (n : Int) (ops : List IOp) (op : Nat) (args : List Int) (hn : 1 ≤ n ∧ n ≤ 8) (hop : op < ops.length) (ha : ∀ x ∈ args, 0 ≤ x ∧ x < n) (hl : args.length ≤ 3) (ht : n ^ args.length ≤ ((ops.getD op z87).f1.length : Int)) :
    Ev (fun k => spec_l2Value.f k n ops (op : Int) args) (gd (ops.getD op z87).f1 (valM n args).toNat) := by
  unfold spec_l2Value.f
  exact spec_l2Value_loop n ops op args hn hop ha hl ht args.length 0 (by omega)
theorem algB_size {n : Int} {ops : List IOp} (h : algB n ops = true) : 1 ≤ n ∧ n ≤ 8 := by
  simp [algB] at h
  exact of_decide_eq_true h.1
theorem algB_few {n : Int} {ops : List IOp} (h : algB n ops = true) : ops.length ≤ 4 := by
  simp [algB] at h
  exact h.2.1
theorem algB_op {n : Int} {ops : List IOp} (h : algB n ops = true) {i : Nat} (hi : i < ops.length) : opB n (ops.getD i z87).f0 (ops.getD i z87).f1 = true := by
  simp [algB] at h
  have := h.2.2 (ops.getD i z87) (by rw [List.getD_eq_getElem?_getD, List.getElem?_eq_getElem hi]; exact List.getElem_mem hi)
  exact this
theorem opB_of {n a : Int} {l : List Int} (h : opB n a l = true) : ∃ k : Nat, a = k ∧ k ≤ 3 ∧ (l.length : Int) = n ^ k ∧ ∀ x ∈ l, 0 ≤ x ∧ x < n := by
  simp only [opB, Bool.and_eq_true, decide_eq_true_eq, List.all_eq_true, inB] at h
  refine ⟨a.toNat, by omega, by omega, h.2.1, h.2.2⟩
def conv (l : List LOp) : List IOp := l.map fun x => ⟨x.f0, x.f1⟩
theorem conv_length (l : List LOp) : (conv l).length = l.length := by simp [conv]
theorem laws_szIntS_eq (l : List Int) (t : Int) (hl : l.length ≤ maxLen) (ht : 0 ≤ t ∧ t ≤ 1048576) : ∃ r, laws_szIntS.f l t = some r ∧ -1 ≤ r ∧ (0 ≤ r → r = t - l.length) ∧ (r < 0 → t < (l.length : Int)) := by
  unfold maxLen at hl
  unfold laws_szIntS.f
  rw [w64 (by omega) (by omega)]
  split
  · exact ⟨-1, rfl, by omega, by omega, by omega⟩
  · exact ⟨_, rfl, by omega, by omega, by omega⟩
theorem laws_szOp_eq (a : Int) (l : List Int) (t : Int) (hl : l.length ≤ maxLen) (ht : 0 ≤ t ∧ t ≤ 1048576) : ∃ r, laws_szOp.f a l t = some r ∧ -1 ≤ r ∧ (0 ≤ r → r = t - l.length) ∧ (r < 0 → t < (l.length : Int)) := by
  obtain ⟨r, hr, h1, h2, h3⟩ := laws_szIntS_eq l t hl ht
  unfold laws_szOp.f
  rw [hr]
  simp only [Option.bind_some]
  split
  · exact ⟨-1, rfl, by omega, by omega, fun _ => h3 (by omega)⟩
  · exact ⟨r, rfl, h1, h2, h3⟩
theorem laws_szOpS_loop (l : List LOp) (hl : l.length ≤ 1048576) (hg : ∀ x ∈ l, x.f1.length ≤ maxLen) : ∀ (d i : Nat) (t : Int), i + d = l.length → 0 ≤ t ∧ t ≤ 1048576 →
    ∃ r, Ev (fun k => laws_szOpS.l0 k l t (i : Int)) r ∧ -1 ≤ r ∧ r ≤ t ∧ (0 ≤ r → ∀ x ∈ l.drop i, (x.f1.length : Int) ≤ t) := by
  intro d
  induction d with
  | zero =>
    intro i t hi ht
    refine ⟨t, Ev.step (fun _ => laws_szOpS.l0.eq_2 ..) (Ev.neg (by omega) (Ev.now _)), by omega, by omega, fun _ x hx => ?_⟩
    rw [List.drop_of_length_le (by omega)] at hx
    simp at hx
  | succ d ih =>
    intro i t hi ht
    have hm : l.getD i z109 ∈ l := by
      rw [List.getD_eq_getElem?_getD, List.getElem?_eq_getElem (by omega)]
      exact List.getElem_mem _
    obtain ⟨r, hr, h1, h2, h3⟩ := laws_szOp_eq (l.getD i z109).f0 (l.getD i z109).f1 t (hg _ hm) ht
    by_cases hn : r < 0
    · refine ⟨-1, Ev.step (fun _ => laws_szOpS.l0.eq_2 ..) ?_, by omega, by omega, by omega⟩
      rw [rdL_n, hr]
      exact Ev.pos (by omega) (Ev.pos (by omega) (Ev.bind1 (Ev.pos hn (Ev.now _))))
    · have he := h2 (by omega)
      obtain ⟨q, hq, h4, h5, h6⟩ := ih (i + 1) r (by omega) (by omega)
      refine ⟨q, Ev.step (fun _ => laws_szOpS.l0.eq_2 ..) ?_, h4, by omega, fun h0 x hx => ?_⟩
      · rw [rdL_n, hr, w64s (n := l.length) (by omega) (by omega)]
        exact Ev.pos (by omega) (Ev.pos (by omega) (Ev.bind1 (Ev.neg hn hq)))
      · rw [drop_cons l z109 (by omega), List.mem_cons] at hx
        rcases hx with rfl | hx
        · omega
        · have := h6 h0 x hx
          omega
theorem laws_szOpS_ev (l : List LOp) (t : Int) (hl : l.length ≤ maxLen) (hg : ∀ x ∈ l, x.f1.length ≤ maxLen) (ht : 0 ≤ t ∧ t ≤ 1048576) :
    ∃ r, Ev (fun k => laws_szOpS.f k l t) r ∧ -1 ≤ r ∧ r ≤ t ∧ (0 ≤ r → (l.length : Int) ≤ t ∧ ∀ x ∈ l, (x.f1.length : Int) ≤ t) := by
  unfold maxLen at hl
  by_cases h : t - (l.length : Int) < 0
  · refine ⟨-1, ?_, by omega, by omega, by omega⟩
    unfold laws_szOpS.f
    rw [w64 (by omega) (by omega)]
    exact Ev.pos h (Ev.now _)
  · obtain ⟨r, h1, h2, h3, h4⟩ := laws_szOpS_loop l (by omega) hg l.length 0 (t - l.length) (by omega) (by omega)
    refine ⟨r, ?_, h2, by omega, fun h0 => ⟨by omega, fun x hx => ?_⟩⟩
    · unfold laws_szOpS.f
      rw [w64 (by omega) (by omega)]
      exact Ev.neg h h1
    · have := h4 h0 x (by simpa using hx)
      omega
theorem laws_szAlgebra_ev (s : Int) (l : List LOp) (t : Int) (hl : l.length ≤ maxLen) (hg : ∀ x ∈ l, x.f1.length ≤ maxLen) (ht : 0 ≤ t ∧ t ≤ 1048576) :
    ∃ r, Ev (fun k => laws_szAlgebra.f k s l t) r ∧ -1 ≤ r ∧ r ≤ t ∧ (0 ≤ r → (l.length : Int) ≤ t ∧ ∀ x ∈ l, (x.f1.length : Int) ≤ t) := by
  obtain ⟨r, h1, h2, h3, h4⟩ := laws_szOpS_ev l t hl hg ht
  unfold laws_szAlgebra.f
  by_cases h : r < 0
  · exact ⟨-1, h1.bind (Ev.pos h (Ev.now _)), by omega, by omega, by omega⟩
  · exact ⟨r, h1.bind (Ev.neg h (Ev.now _)), h2, h3, h4⟩
theorem laws_toOp_ev (a : Int) (l : List Int) (hl : l.length ≤ 35184372088832) : Ev (fun k => laws_toOp.f k a l) (a, l) := by
  unfold laws_toOp.f
  exact (toIntS_ev l hl).bind (Ev.now _)
theorem laws_toOpS_ev (l : List LOp) (hl : l.length ≤ 8796093022208) (hg : ∀ x ∈ l, x.f1.length ≤ 35184372088832) : Ev (fun k => laws_toOpS.f k l) (conv l) := by
  unfold laws_toOpS.f
  refine Ev.pos (by omega) (Ev.pos (by omega) ?_)
  refine set_loop l z109 (fun x : LOp => (⟨x.f0, x.f1⟩ : IOp)) (fun k out i => laws_toOpS.l0 k l out i) (conv l) ?_ ?_ l.length 0 _ (by omega) (by simp) (fun j hj => by omega)
  · exact Ev.step (fun _ => laws_toOpS.l0.eq_2 ..) (Ev.neg (by omega) (Ev.now _))
  · intro i out hi ho h
    have hm : l.getD i z109 ∈ l := by
      rw [List.getD_eq_getElem?_getD, List.getElem?_eq_getElem (by omega)]
      exact List.getElem_mem _
    refine Ev.step (fun _ => laws_toOpS.l0.eq_2 ..) ?_
    rw [rdL_n, w64s (n := l.length) (by omega) (by omega), Int.toNat_natCast]
    exact Ev.pos (by omega) (Ev.pos (by omega) ((laws_toOp_ev _ _ (hg _ hm)).bind (Ev.pos (by omega) h)))
theorem laws_toAlgebra_ev (s : Int) (l : List LOp) (hl : l.length ≤ 8796093022208) (hg : ∀ x ∈ l, x.f1.length ≤ 35184372088832) : Ev (fun k => laws_toAlgebra.f k s l) (s, conv l) := by
  unfold laws_toAlgebra.f
  exact (laws_toOpS_ev l hl hg).bind (Ev.now _)
theorem laws_eqOp_same (a : Int) (l : List Int) (hl : l.length ≤ 35184372088832) : Ev (fun k => laws_eqOp.f k a l a l) true := by
  unfold laws_eqOp.f
  exact Ev.pos rfl ((eqIntS_same l hl).bind (Ev.pos rfl (Ev.now _)))
theorem laws_eqOpS_same (l : List IOp) (hf : fitO l) : Ev (fun k => laws_eqOpS.f k l l) true := by
  have hl := hf.1
  unfold laws_eqOpS.f
  refine Ev.pos rfl ?_
  have : Ev (fun k => laws_eqOpS.l0 k l l ((0 : Nat) : Int)) ((l.drop 0).all fun _ => true) := by
    refine all_loop l z87 (fun _ => true) (fun k i => laws_eqOpS.l0 k l l i) ?_ ?_ ?_ l.length 0 (by omega)
    · exact Ev.step (fun _ => laws_eqOpS.l0.eq_2 ..) (Ev.neg (by omega) (Ev.now _))
    · intro i r hi _ h
      refine Ev.step (fun _ => laws_eqOpS.l0.eq_2 ..) ?_
      rw [rdO_n, w64s (n := l.length) (by omega) (by omega)]
      exact Ev.pos (by omega) (Ev.pos (by omega) (Ev.pos (by omega) ((laws_eqOp_same _ _ (by have := fitO_at hf hi; omega)).bind (Ev.pos rfl h))))
    · intro i hi hp
      simp at hp
  exact this.to (by rw [List.all_eq_true]; intro x _; rfl)
theorem laws_eqAlgebra_same (s : Int) (l : List IOp) (hf : fitO l) : Ev (fun k => laws_eqAlgebra.f k s l s l) true := by
  unfold laws_eqAlgebra.f
  exact Ev.pos rfl ((laws_eqOpS_same l hf).bind (Ev.pos rfl (Ev.now _)))
theorem conv_fit (l : List LOp) (hl : l.length ≤ 8796093022208) (hg : ∀ x ∈ l, x.f1.length ≤ 1048576) : fitO (conv l) := by
  refine ⟨by rw [conv_length]; exact hl, fun x hx => ?_⟩
  obtain ⟨y, hy, rfl⟩ := List.mem_map.1 hx
  exact hg y hy
theorem range_at {N i : Nat} (h : i < N) : (List.range N).getD i 0 = i := by simp [List.getD, h]
theorem impl_sameList_ev (a b : List Int) (ha : a.length ≤ 8796093022208) : Ev (fun k => impl_sameList.f k a b) (decide (a = b)) := by
  unfold impl_sameList.f
  refine Ev.ite (fun h => ?_) (fun h => (Ev.now _).to (by rw [eq_comm, decide_eq_false_iff_not]; intro e; exact h (by rw [e])))
  have hl : a.length = b.length := by omega
  have key : Ev (fun k => impl_sameList.l0 k b a (a.length : Int) ((0 : Nat) : Int)) (((List.range a.length).drop 0).all fun i => decide (gd a i = gd b i)) := by
    refine all_loop (List.range a.length) 0 (fun i => decide (gd a i = gd b i)) (fun k i => impl_sameList.l0 k b a (a.length : Int) i) ?_ ?_ ?_ a.length 0 (by simp)
    · rw [List.length_range]
      exact Ev.step (fun _ => impl_sameList.l0.eq_2 ..) (Ev.neg (by omega) (Ev.now _))
    · intro i r hi hp h
      rw [List.length_range] at hi
      rw [range_at hi] at hp
      refine Ev.step (fun _ => impl_sameList.l0.eq_2 ..) ?_
      rw [rdn, rdn, w64s (n := a.length) (by omega) (by omega)]
      exact Ev.pos (by omega) (Ev.pos (by omega) (Ev.pos (by omega) (Ev.pos (by omega) (Ev.pos (of_decide_eq_true hp).symm h))))
    · intro i hi hp
      rw [List.length_range] at hi
      rw [range_at hi] at hp
      refine Ev.step (fun _ => impl_sameList.l0.eq_2 ..) ?_
      rw [rdn, rdn]
      exact Ev.pos (by omega) (Ev.pos (by omega) (Ev.pos (by omega) (Ev.pos (by omega) (Ev.neg (fun e => of_decide_eq_false hp e.symm) (Ev.now _)))))
  refine key.to ?_
  rw [Bool.eq_iff_iff, decide_eq_true_iff, List.drop_zero, List.all_eq_true]
  constructor
  · intro h
    exact ext_gd hl (fun i hi => of_decide_eq_true (h i (List.mem_range.2 hi)))
  · intro h i _
    rw [h, decide_eq_true rfl]
theorem spec_l1Same_ev (a b : List Int) (ha : a.length ≤ 8796093022208) : Ev (fun k => spec_l1Same.f k a b) (decide (a = b)) := by
  unfold spec_l1Same.f
  refine Ev.ite (fun h => ?_) (fun h => (Ev.now _).to (by rw [eq_comm, decide_eq_false_iff_not]; intro e; exact h (by rw [e])))
  have hl : a.length = b.length := by omega
  have key : Ev (fun k => spec_l1Same.l0 k a b ((0 : Nat) : Int)) (((List.range a.length).drop 0).all fun i => decide (gd a i = gd b i)) := by
    refine all_loop (List.range a.length) 0 (fun i => decide (gd a i = gd b i)) (fun k i => spec_l1Same.l0 k a b i) ?_ ?_ ?_ a.length 0 (by simp)
    · rw [List.length_range]
      exact Ev.step (fun _ => spec_l1Same.l0.eq_2 ..) (Ev.neg (by omega) (Ev.now _))
    · intro i r hi hp h
      rw [List.length_range] at hi
      rw [range_at hi] at hp
      refine Ev.step (fun _ => spec_l1Same.l0.eq_2 ..) ?_
      rw [rdn, rdn, w64s (n := a.length) (by omega) (by omega)]
      exact Ev.pos (by omega) (Ev.pos (by omega) (Ev.pos (by omega) (Ev.pos (of_decide_eq_true hp) h)))
    · intro i hi hp
      rw [List.length_range] at hi
      rw [range_at hi] at hp
      refine Ev.step (fun _ => spec_l1Same.l0.eq_2 ..) ?_
      rw [rdn, rdn]
      exact Ev.pos (by omega) (Ev.pos (by omega) (Ev.pos (by omega) (Ev.neg (of_decide_eq_false hp) (Ev.now _))))
  refine key.to ?_
  rw [Bool.eq_iff_iff, decide_eq_true_iff, List.drop_zero, List.all_eq_true]
  constructor
  · intro h
    exact ext_gd hl (fun i hi => of_decide_eq_true (h i (List.mem_range.2 hi)))
  · intro h i _
    rw [h, decide_eq_true rfl]
theorem rdi (l : List Int) {i : Int} (h : 0 ≤ i) : rd l i = gd l i.toNat := by
  obtain ⟨j, rfl⟩ : ∃ j : Nat, i = (j : Int) := ⟨i.toNat, by omega⟩
  rw [rdn, Int.toNat_natCast]
def pairsFrom (T : Nat → Nat) (ks : List Nat) : List (Nat × Nat) := ks.flatMap fun k => (List.range (T k)).map fun i => (k, i)
theorem pairs_loop {γ : Type} (N : Nat) (T : Nat → Nat) (bad : Nat × Nat → Bool) (L0 : Nat → Int → Option γ) (L1 : Nat → Int → Int → Option γ) (res : Option (Nat × Nat) → γ)
    (h0 : Ev (fun f => L0 f (N : Int)) (res none))
    (hin : ∀ (k : Nat) (r : γ), k < N → Ev (fun f => L1 f (k : Int) ((0 : Nat) : Int)) r → Ev (fun f => L0 f (k : Int)) r)
    (hnext : ∀ (k : Nat) (r : γ), k < N → Ev (fun f => L0 f ((k + 1 : Nat) : Int)) r → Ev (fun f => L1 f (k : Int) (T k : Int)) r)
    (hbad : ∀ (k i : Nat), k < N → i < T k → bad (k, i) = true → Ev (fun f => L1 f (k : Int) (i : Int)) (res (some (k, i))))
    (hok : ∀ (k i : Nat) (r : γ), k < N → i < T k → bad (k, i) = false → Ev (fun f => L1 f (k : Int) ((i + 1 : Nat) : Int)) r → Ev (fun f => L1 f (k : Int) (i : Int)) r) :
    ∀ (d k : Nat), k + d = N → Ev (fun f => L0 f (k : Int)) (res ((pairsFrom T ((List.range N).drop k)).find? bad)) := by
  intro d
  induction d with
  | zero =>
    intro k hk
    have : k = N := by omega
    subst this
    rw [List.drop_of_length_le (by simp)]
    exact h0
  | succ d ih =>
    intro k hk
    refine hin k _ (by omega) ?_
    rw [drop_cons (List.range N) 0 (i := k) (by simp; omega), range_at (by omega)]
    have inner : ∀ (e i : Nat), i + e = T k → Ev (fun f => L1 f (k : Int) (i : Int)) (res ((((List.range (T k)).drop i).map (fun i => (k, i)) ++ pairsFrom T ((List.range N).drop (k + 1))).find? bad)) := by
      intro e
      induction e with
      | zero =>
        intro i hi
        have : i = T k := by omega
        subst this
        rw [List.drop_of_length_le (by simp), List.map_nil, List.nil_append]
        exact hnext k _ (by omega) (ih (k + 1) (by omega))
      | succ e ihe =>
        intro i hi
        rw [drop_cons (List.range (T k)) 0 (i := i) (by simp; omega), range_at (by omega), List.map_cons, List.cons_append, List.find?_cons]
        cases hb : bad (k, i) with
        | true => exact hbad k i (by omega) (by omega) hb
        | false => exact hok k i _ (by omega) (by omega) hb (ihe (i + 1) (by omega))
    have := inner (T k) 0 (by omega)
    simpa [pairsFrom] using this
def typ (ops : List IOp) : List Int := ops.map fun x => x.f0
def twoB (n : Int) (A : List IOp) (m : Int) (B : List IOp) : Bool := algB n A && (algB m B && decide (typ A = typ B))
theorem typ_length (ops : List IOp) : (typ ops).length = ops.length := by simp [typ]
theorem impl_typeOf_ev (n : Int) (ops : List IOp) (hl : ops.length ≤ 8796093022208) : Ev (fun k => impl_typeOf.f k n ops) (typ ops) := by
  unfold impl_typeOf.f
  refine map_loop ops z87 (fun x => x.f0) (fun k out i => impl_typeOf.l0 k out ops (ops.length : Int) i) (typ ops) ?_ ?_ ops.length 0 (by omega)
  · exact Ev.step (fun _ => impl_typeOf.l0.eq_2 ..) (Ev.neg (by omega) (Ev.now _))
  · intro i out hi ho h
    refine Ev.step (fun _ => impl_typeOf.l0.eq_2 ..) ?_
    rw [rdO_n, w64s (n := ops.length) (by omega) (by omega)]
    exact Ev.pos (by omega) (Ev.pos (by omega) (Ev.pos (by omega) (Ev.pos (by omega) h)))
theorem spec_l2Type_ev (n : Int) (ops : List IOp) (hl : ops.length ≤ 8796093022208) : Ev (fun k => spec_l2Type.f k n ops) (typ ops) := by
  unfold spec_l2Type.f
  refine map_loop ops z87 (fun x => x.f0) (fun k out i => spec_l2Type.l0 k out i n ops) (typ ops) ?_ ?_ ops.length 0 (by omega)
  · exact Ev.step (fun _ => spec_l2Type.l0.eq_2 ..) (Ev.neg (by omega) (Ev.now _))
  · intro i out hi ho h
    refine Ev.step (fun _ => spec_l2Type.l0.eq_2 ..) ?_
    rw [rdO_n, w64s (n := ops.length) (by omega) (by omega)]
    exact Ev.pos (by omega) (Ev.pos (by omega) (Ev.pos (by omega) h))
theorem impl_alike_ev (n m : Int) (A B : List IOp) (hA : fitO A) (hB : fitO B) (ha : algB n A = true) (hb : algB m B = true) : Ev (fun k => impl_alike.f k n A m B) (decide (typ A = typ B)) := by
  unfold impl_alike.f
  have h1 := impl_IsAlgebra_ev n A hA
  have h2 := impl_IsAlgebra_ev m B hB
  rw [ha] at h1
  rw [hb] at h2
  refine (?_ : Ev (fun k => impl_SameType.f k n A m B) (decide (typ A = typ B), true)).bind (Ev.pos rfl (Ev.now _))
  unfold impl_SameType.f
  exact h1.bind (Ev.pos rfl (h2.bind (Ev.step (fun _ => impl_SameType.j0.eq_2 ..) (Ev.neg (by simp) ((impl_typeOf_ev n A hA.1).bind ((impl_typeOf_ev m B hB.1).bind ((impl_sameList_ev _ _ (by rw [typ_length]; exact hA.1)).bind (Ev.now _))))))))
theorem impl_areAlike_ev (n m : Int) (A B : List IOp) (hA : fitO A) (hB : fitO B) : Ev (fun k => impl_areAlike.f k n A m B) (twoB n A m B) := by
  unfold impl_areAlike.f twoB
  refine (impl_IsAlgebra_ev n A hA).bind (Ev.ite (fun h => ?_) (fun h => (Ev.now _).to (by simp [h])))
  refine (impl_IsAlgebra_ev m B hB).bind (Ev.ite (fun h' => ?_) (fun h' => (Ev.now _).to (by simp [h'])))
  refine (impl_alike_ev n m A B hA hB h h').bind ((Ev.now _).to (by simp [h, h']))
theorem spec_l7Two_ev (n m : Int) (A B : List IOp) (hA : fitO A) (hB : fitO B) : Ev (fun k => spec_l7Two.f k n A m B) (twoB n A m B) := by
  unfold spec_l7Two.f twoB
  refine (spec_l2Good_ev n A hA).bind (Ev.ite (fun h => ?_) (fun h => (Ev.now _).to (by simp [h])))
  refine (spec_l2Good_ev m B hB).bind (Ev.ite (fun h' => ?_) (fun h' => (Ev.now _).to (by simp [h'])))
  refine (?_ : Ev (fun k => spec_l2Same.f k n A m B) (decide (typ A = typ B))).bind ((Ev.now _).to (by simp [h, h']))
  unfold spec_l2Same.f
  exact (spec_l2Type_ev n A hA.1).bind ((spec_l2Type_ev m B hB.1).bind ((spec_l1Same_ev _ _ (by rw [typ_length]; exact hA.1)).bind (Ev.now _)))
theorem typ_at {A B : List IOp} (h : typ A = typ B) : A.length = B.length ∧ ∀ k, k < A.length → (B.getD k z87).f0 = (A.getD k z87).f0 := by
  have hl : A.length = B.length := by have := congrArg List.length h; simpa [typ] using this
  refine ⟨hl, fun k hk => ?_⟩
  have := congrArg (fun l => l[k]?) h
  simp only [typ, List.getElem?_map, List.getElem?_eq_getElem hk, List.getElem?_eq_getElem (show k < B.length by omega), Option.map_some, Option.some.injEq] at this
  simp [List.getD, hk, show k < B.length by omega, this]
theorem two_of {n m : Int} {A B : List IOp} (h : twoB n A m B = true) : algB n A = true ∧ algB m B = true ∧ A.length = B.length ∧ ∀ k, k < A.length → (B.getD k z87).f0 = (A.getD k z87).f0 := by
  simp only [twoB, Bool.and_eq_true, decide_eq_true_eq] at h
  exact ⟨h.1, h.2.1, typ_at h.2.2⟩
theorem spec_l2Elements_ev (n : Int) (l : List Int) (hn : 1 ≤ n ∧ n ≤ 8) (hl : l.length ≤ 8796093022208) : Ev (fun k => spec_l2Elements.f k n l) (l.all (inB n)) := by
  unfold spec_l2Elements.f
  refine all_loop l 0 (inB n) (fun k i => spec_l2Elements.l0 k n l i) ?_ ?_ ?_ l.length 0 (by omega)
  · exact Ev.step (fun _ => spec_l2Elements.l0.eq_2 ..) (Ev.neg (by omega) (Ev.now _))
  · intro i r hi hp h
    have hp' := of_decide_eq_true hp
    change 0 ≤ gd l i ∧ gd l i < n at hp'
    refine Ev.step (fun _ => spec_l2Elements.l0.eq_2 ..) ?_
    rw [w64s (n := l.length) (by omega) (by omega), rdn, spec_l1In_eq, w64 (by omega) (by omega)]
    exact Ev.pos (by omega) (Ev.pos (by omega) (Ev.bind1 (Ev.pos (decide_eq_true (by omega)) h)))
  · intro i hi hp
    have hp' := of_decide_eq_false hp
    change ¬ (0 ≤ gd l i ∧ gd l i < n) at hp'
    refine Ev.step (fun _ => spec_l2Elements.l0.eq_2 ..) ?_
    rw [rdn, spec_l1In_eq, w64 (by omega) (by omega)]
    exact Ev.pos (by omega) (Ev.pos (by omega) (Ev.bind1 (Ev.neg (by rw [decide_eq_true_eq]; omega) (Ev.now _))))
def mapB (n m : Int) (f : List Int) : Bool := decide ((f.length : Int) = n) && f.all (inB m)
theorem map_of {n m : Int} {f : List Int} (h : mapB n m f = true) : (f.length : Int) = n ∧ ∀ i, i < f.length → 0 ≤ gd f i ∧ gd f i < m := by
  simp only [mapB, Bool.and_eq_true, decide_eq_true_eq, List.all_eq_true, inB] at h
  refine ⟨h.1, fun i hi => ?_⟩
  rw [gd_lt hi]
  exact h.2 _ (List.getElem_mem hi)
theorem impl_isMap_ev (n m : Int) (A B : List IOp) (f : List Int) (hf : f.length ≤ 1048576) : Ev (fun k => impl_isMap.f k n A m B f) (mapB n m f) := by
  unfold impl_isMap.f mapB
  refine Ev.ite (fun h => ?_) (fun h => (Ev.now _).to (by simp [h]))
  exact (impl_inSize_ev f m (by omega)).bind ((Ev.now _).to (by simp [h]))
theorem spec_l7Map_ev (n m : Int) (A B : List IOp) (f : List Int) (hm : 1 ≤ m ∧ m ≤ 8) (hf : f.length ≤ 1048576) : Ev (fun k => spec_l7Map.f k n A m B f) (mapB n m f) := by
  unfold spec_l7Map.f mapB
  refine Ev.ite (fun h => ?_) (fun h => (Ev.now _).to (by simp [h]))
  exact (spec_l2Elements_ev m f hm (by omega)).bind ((Ev.now _).to (by simp [h]))
def imgs (f : List Int) (l : List Int) : List Int := l.map fun x => gd f x.toNat
theorem imgs_length (f l : List Int) : (imgs f l).length = l.length := by simp [imgs]
theorem imgs_in {m : Int} {f l : List Int} (hf : ∀ i, i < f.length → 0 ≤ gd f i ∧ gd f i < m) (hl : ∀ x ∈ l, 0 ≤ x ∧ x < (f.length : Int)) : ∀ x ∈ imgs f l, 0 ≤ x ∧ x < m := by
  intro x hx
  obtain ⟨y, hy, rfl⟩ := List.mem_map.1 hx
  exact hf _ (by have := hl y hy; omega)
theorem spec_l7Images_ev (f l : List Int) (hl : l.length ≤ 1048576) (hin : ∀ x ∈ l, 0 ≤ x ∧ x < (f.length : Int)) : Ev (fun k => spec_l7Images.f k f l) (imgs f l) := by
  unfold spec_l7Images.f
  refine map_loop l 0 (fun x => gd f x.toNat) (fun k out i => spec_l7Images.l0 k f l out i) (imgs f l) ?_ ?_ l.length 0 (by omega)
  · exact Ev.step (fun _ => spec_l7Images.l0.eq_2 ..) (Ev.neg (by omega) (Ev.now _))
  · intro i out hi ho h
    have hx := hin (gd l i) (by rw [gd_lt hi]; exact List.getElem_mem hi)
    change Ev (fun k => spec_l7Images.l0 k f l (out ++ [gd f (gd l i).toNat]) ((i + 1 : Nat) : Int)) _ at h
    refine Ev.step (fun _ => spec_l7Images.l0.eq_2 ..) ?_
    rw [rdn, rdi f hx.1, w64s (n := l.length) (by omega) (by omega)]
    exact Ev.pos (by omega) (Ev.pos (by omega) (Ev.pos hx.1 (Ev.pos hx.2 (Ev.pos (by omega) h))))
theorem img_step {v s : Int} (h1 : 0 ≤ v ∧ v < 8) (h2 : 1 ≤ s ∧ s ≤ 512) (a : Int) (ha : 0 ≤ a ∧ a ≤ 1048576) : wrap64 (a + wrap64 (v * s)) = a + v * s ∧ 0 ≤ v * s ∧ v * s ≤ 4096 := by
  have h3 : 0 ≤ v * s := Int.mul_nonneg h1.1 (by omega)
  have h4 : v * s ≤ 8 * 512 := Int.mul_le_mul (by omega) h2.2 (by omega) (by omega)
  rw [w64 (x := v * s) (by omega) (by omega), w64 (by omega) (by omega)]
  omega
theorem impl_imageIndex_loop (n m : Int) (A B : List IOp) (f : List Int) (hn : 1 ≤ n ∧ n ≤ 8) (hm : 1 ≤ m ∧ m ≤ 8) (hfl : (f.length : Int) = n) (hf : ∀ i, i < f.length → 0 ≤ gd f i ∧ gd f i < m) (ar : Nat) (har : ar ≤ 3) :
    ∀ (d k : Nat) (i at_ : Int), k + d = ar → 0 ≤ i → i ≤ 1048576 → 0 ≤ at_ → at_ ≤ 4096 * k → Ev (fun g => impl_imageIndex.l0 g i (ar : Int) f at_ (m ^ k) (k : Int) n A m B) (at_ + valM m (imgs f (argsM n d i)) * m ^ k) := by
  intro d
  induction d with
  | zero =>
    intro k i at_ hk _ _ _ _
    exact Ev.step (fun _ => impl_imageIndex.l0.eq_2 ..) (Ev.neg (by omega) ((Ev.now _).to (by simp [argsM, imgs, valM])))
  | succ d ih =>
    intro k i at_ hk h0 h1 h2 h3
    obtain ⟨e1, e2, e3⟩ := div_in (n := n) h0 (by omega) hn.1
    have hm0 : 0 ≤ i % n := Int.emod_nonneg _ (by omega)
    have hm1 : i % n < n := Int.emod_lt_of_pos _ (by omega)
    have hv := hf (i % n).toNat (by omega)
    have h5 : 1 ≤ m ^ k := by have : 0 < m ^ k := Int.pow_pos (by omega); omega
    have h6 := pow_le3 hm (k := k) (by omega)
    have h7 := pow_le3 hm (k := k + 1) (by omega)
    have h8 : m ^ (k + 1) = m ^ k * m := Int.pow_succ m k
    have h9 : 0 < m ^ (k + 1) := Int.pow_pos (by omega)
    obtain ⟨s1, s2, s3⟩ := img_step (v := gd f (i % n).toNat) (s := m ^ k) ⟨hv.1, by omega⟩ ⟨h5, h6⟩ at_ ⟨h2, by omega⟩
    refine Ev.step (fun _ => impl_imageIndex.l0.eq_2 ..) (Ev.pos (by omega) (Ev.neg (by omega) ?_))
    rw [Int.tmod_eq_emod_of_nonneg h0, rdi f hm0, s1, e1, w64s (n := ar) (by omega) (by omega), w64 (x := m ^ k * m) (by omega) (by omega), ← h8]
    refine Ev.pos hm0 (Ev.pos (by omega) ((ih (k + 1) (i / n) _ (by omega) e2 (by omega) (by omega) (by omega)).to ?_))
    rw [argsM]
    simp only [imgs, List.map_append, List.map_cons, List.map_nil]
    rw [valM_snoc, h8, Int.add_mul, Int.mul_assoc, Int.mul_comm (m ^ k) m]
    omega
theorem impl_imageIndex_ev (n m : Int) (A B : List IOp) (f : List Int) (hn : 1 ≤ n ∧ n ≤ 8) (hm : 1 ≤ m ∧ m ≤ 8) (hfl : (f.length : Int) = n) (hf : ∀ i, i < f.length → 0 ≤ gd f i ∧ gd f i < m) (ar : Nat) (har : ar ≤ 3) (i : Int) (h0 : 0 ≤ i) (h1 : i ≤ 1048576) :
    Ev (fun g => impl_imageIndex.f g i (ar : Int) n A m B f) (valM m (imgs f (argsM n ar i))) := by
  unfold impl_imageIndex.f
  have := impl_imageIndex_loop n m A B f hn hm hfl hf ar har ar 0 i 0 (by omega) h0 h1 (by omega) (by omega)
  rw [Int.pow_zero] at this
  exact this.to (by omega)
def badHom (n : Int) (A : List IOp) (m : Int) (B : List IOp) (f : List Int) (p : Nat × Nat) : Bool :=
  decide (gd f (gd (A.getD p.1 z87).f1 p.2).toNat ≠ gd (B.getD p.1 z87).f1 (valM m (imgs f (argsM n (A.getD p.1 z87).f0.toNat (p.2 : Int)))).toNat)
def faultM (n : Int) (A : List IOp) (m : Int) (B : List IOp) (f : List Int) : Option (Nat × Nat) := (pairsFrom (fun k => (A.getD k z87).f1.length) (List.range A.length)).find? (badHom n A m B f)
def resI : Option (Nat × Nat) → Int × Int
  | none => (-1, 0)
  | some (k, i) => ((k : Int), (i : Int))
def resS (n : Int) (A : List IOp) : Option (Nat × Nat) → Int × List Int × Bool
  | none => (0, [], false)
  | some (k, i) => ((k : Int), argsM n (A.getD k z87).f0.toNat (i : Int), true)
theorem hom_place {n m : Int} {A B : List IOp} {f : List Int} (h2 : twoB n A m B = true) (hf : mapB n m f = true) {k i : Nat} (hk : k < A.length) (hi : i < (A.getD k z87).f1.length) :
    ∃ ar : Nat, (A.getD k z87).f0 = ar ∧ ar ≤ 3 ∧ i ≤ 512 ∧ 0 ≤ gd (A.getD k z87).f1 i ∧ gd (A.getD k z87).f1 i < (f.length : Int) ∧ (m ^ ar ≤ ((B.getD k z87).f1.length : Int)) ∧
      (∀ x ∈ argsM n ar (i : Int), 0 ≤ x ∧ x < (f.length : Int)) ∧ (∀ x ∈ imgs f (argsM n ar (i : Int)), 0 ≤ x ∧ x < m) ∧ 0 ≤ valM m (imgs f (argsM n ar (i : Int))) ∧ valM m (imgs f (argsM n ar (i : Int))) < ((B.getD k z87).f1.length : Int) := by
  obtain ⟨ha, hb, hl, ht⟩ := two_of h2
  obtain ⟨hfl, hfm⟩ := map_of hf
  have hn := algB_size ha
  have hm := algB_size hb
  obtain ⟨ar, e1, e2, e3, e4⟩ := opB_of (algB_op ha hk)
  obtain ⟨br, g1, g2, g3, g4⟩ := opB_of (algB_op hb (i := k) (by omega))
  have hbr : br = ar := by have := ht k hk; omega
  subst hbr
  have h512 := pow_le3 hn e2
  have hx := e4 (gd (A.getD k z87).f1 i) (by rw [gd_lt hi]; exact List.getElem_mem hi)
  have hargs : ∀ x ∈ argsM n br (i : Int), 0 ≤ x ∧ x < (f.length : Int) := fun x hx => by have := argsM_in hn.1 br (i : Int) (by omega) x hx; omega
  have himg := imgs_in hfm hargs
  have hv := valM_in hm.1 _ himg
  rw [imgs_length, argsM_length] at hv
  exact ⟨br, e1, e2, by omega, hx.1, by omega, by omega, hargs, himg, hv.1, by omega⟩
theorem impl_faultOf_ev (n m : Int) (A B : List IOp) (f : List Int) (h2 : twoB n A m B = true) (hf : mapB n m f = true) : Ev (fun k => impl_faultOf.f k n A m B f) (resI (faultM n A m B f)) := by
  obtain ⟨ha, hb, hl, ht⟩ := two_of h2
  obtain ⟨hfl, hfm⟩ := map_of hf
  have hn := algB_size ha
  have hm := algB_size hb
  have hfew := algB_few ha
  unfold impl_faultOf.f faultM
  refine pairs_loop A.length (fun k => (A.getD k z87).f1.length) (badHom n A m B f) (fun g k => impl_faultOf.l0 g f A (A.length : Int) k n A m B)
    (fun g k i => impl_faultOf.l1 g f k A (A.length : Int) k (A.getD k.toNat z87).f1 ((A.getD k.toNat z87).f1.length : Int) i n A m B (A.getD k.toNat z87).f0 (A.getD k.toNat z87).f1) resI ?_ ?_ ?_ ?_ ?_ A.length 0 (by omega)
  · exact Ev.step (fun _ => impl_faultOf.l0.eq_2 ..) (Ev.neg (by omega) (Ev.now _))
  · intro k r hk h
    rw [Int.toNat_natCast] at h
    refine Ev.step (fun _ => impl_faultOf.l0.eq_2 ..) ?_
    rw [rdO_n]
    exact Ev.pos (by omega) (Ev.pos (by omega) (Ev.pos (by omega) h))
  · intro k r hk h
    rw [Int.toNat_natCast]
    refine Ev.step (fun _ => impl_faultOf.l1.eq_2 ..) (Ev.neg (by omega) ?_)
    rw [w64s (n := A.length) (by omega) (by omega)]
    exact h
  · intro k i hk hi hp
    obtain ⟨ar, e1, e2, e3, e4, e5, e6, e7, e8, e9, e10⟩ := hom_place h2 hf hk hi
    have hp' := of_decide_eq_true hp
    simp only [e1, Int.toNat_natCast] at hp'
    rw [Int.toNat_natCast, e1]
    refine Ev.step (fun _ => impl_faultOf.l1.eq_2 ..) ?_
    rw [rdn, rdi f e4, rdO_n]
    refine Ev.pos (by omega) (Ev.pos (by omega) (Ev.pos (by omega) (Ev.pos e4 (Ev.pos e5 (Ev.pos (by omega) (Ev.pos (by omega) ((impl_imageIndex_ev n m A B f hn hm hfl hfm ar e2 i (by omega) (by omega)).bind ?_)))))))
    rw [rdi _ e9]
    exact Ev.pos e9 (Ev.pos e10 (Ev.neg hp' (Ev.now _)))
  · intro k i r hk hi hp h
    obtain ⟨ar, e1, e2, e3, e4, e5, e6, e7, e8, e9, e10⟩ := hom_place h2 hf hk hi
    have hp' := Classical.not_not.1 (of_decide_eq_false hp)
    simp only [e1, Int.toNat_natCast] at hp'
    rw [Int.toNat_natCast, e1] at h ⊢
    refine Ev.step (fun _ => impl_faultOf.l1.eq_2 ..) ?_
    rw [rdn, rdi f e4, rdO_n, w64s (i := i) (n := 1000) (by omega) (by omega)]
    refine Ev.pos (by omega) (Ev.pos (by omega) (Ev.pos (by omega) (Ev.pos e4 (Ev.pos e5 (Ev.pos (by omega) (Ev.pos (by omega) ((impl_imageIndex_ev n m A B f hn hm hfl hfm ar e2 i (by omega) (by omega)).bind ?_)))))))
    rw [rdi _ e9]
    exact Ev.pos e9 (Ev.pos e10 (Ev.pos hp' h))
theorem spec_l7Fault_ev (n m : Int) (A B : List IOp) (f : List Int) (h2 : twoB n A m B = true) (hf : mapB n m f = true) : Ev (fun k => spec_l7Fault.f k n A m B f) (resS n A (faultM n A m B f)) := by
  obtain ⟨ha, hb, hl, ht⟩ := two_of h2
  obtain ⟨hfl, hfm⟩ := map_of hf
  have hn := algB_size ha
  have hm := algB_size hb
  have hfew := algB_few ha
  unfold spec_l7Fault.f faultM
  refine pairs_loop A.length (fun k => (A.getD k z87).f1.length) (badHom n A m B f) (fun g k => spec_l7Fault.l0 g f k n A m B)
    (fun g k i => spec_l7Fault.l1 g f k i n A m B) (resS n A) ?_ ?_ ?_ ?_ ?_ A.length 0 (by omega)
  · exact Ev.step (fun _ => spec_l7Fault.l0.eq_2 ..) (Ev.neg (by omega) (Ev.now _))
  · intro k r hk h
    exact Ev.step (fun _ => spec_l7Fault.l0.eq_2 ..) (Ev.pos (by omega) h)
  · intro k r hk h
    refine Ev.step (fun _ => spec_l7Fault.l1.eq_2 ..) ?_
    rw [rdO_n, w64s (i := k) (n := A.length) (by omega) (by omega)]
    exact Ev.pos (by omega) (Ev.pos (by omega) (Ev.neg (by omega) h))
  · intro k i hk hi hp
    obtain ⟨ar, e1, e2, e3, e4, e5, e6, e7, e8, e9, e10⟩ := hom_place h2 hf hk hi
    have hp' := of_decide_eq_true hp
    simp only [e1, Int.toNat_natCast] at hp'
    refine Ev.step (fun _ => spec_l7Fault.l1.eq_2 ..) ?_
    rw [rdO_n, rdn, rdi f e4, e1]
    refine Ev.pos (by omega) (Ev.pos (by omega) (Ev.pos (by omega) ((spec_l2Args_ev n ar i hn.1 e2 (by omega) (by omega)).bind (Ev.pos (by omega) (Ev.pos e4 (Ev.pos e5 ((spec_l7Images_ev f _ (by rw [argsM_length]; omega) e7).bind ?_)))))))
    refine (spec_l2Value_ev m B k _ hm (by omega) e8 (by rw [imgs_length, argsM_length]; omega) (by rw [imgs_length, argsM_length]; exact e6)).bind (Ev.neg hp' ((Ev.now _).to ?_))
    simp only [resS, e1, Int.toNat_natCast]
  · intro k i r hk hi hp h
    obtain ⟨ar, e1, e2, e3, e4, e5, e6, e7, e8, e9, e10⟩ := hom_place h2 hf hk hi
    have hp' := Classical.not_not.1 (of_decide_eq_false hp)
    simp only [e1, Int.toNat_natCast] at hp'
    refine Ev.step (fun _ => spec_l7Fault.l1.eq_2 ..) ?_
    rw [rdO_n, rdn, rdi f e4, e1, w64s (i := i) (n := 1000) (by omega) (by omega)]
    refine Ev.pos (by omega) (Ev.pos (by omega) (Ev.pos (by omega) ((spec_l2Args_ev n ar i hn.1 e2 (by omega) (by omega)).bind (Ev.pos (by omega) (Ev.pos e4 (Ev.pos e5 ((spec_l7Images_ev f _ (by rw [argsM_length]; omega) e7).bind ?_)))))))
    exact (spec_l2Value_ev m B k _ hm (by omega) e8 (by rw [imgs_length, argsM_length]; omega) (by rw [imgs_length, argsM_length]; exact e6)).bind (Ev.pos hp' h)
def homB (n : Int) (A : List IOp) (m : Int) (B : List IOp) (f : List Int) : Bool := mapB n m f && (faultM n A m B f).isNone
theorem impl_isHom_ev (n m : Int) (A B : List IOp) (f : List Int) (h2 : twoB n A m B = true) (hl : f.length ≤ 1048576) : Ev (fun k => impl_isHom.f k n A m B f) (homB n A m B f) := by
  unfold impl_isHom.f homB
  refine (impl_isMap_ev n m A B f hl).bind (Ev.ite (fun h => ?_) (fun h => (Ev.now _).to (by simp [h])))
  refine (impl_faultOf_ev n m A B f h2 h).bind ((Ev.now _).to ?_)
  rw [h, Bool.true_and]
  cases h' : faultM n A m B f with
  | none => rfl
  | some p =>
    obtain ⟨k, i⟩ := p
    exact decide_eq_false (by simp only [resI]; omega)
theorem spec_l7Is_ev (n m : Int) (A B : List IOp) (f : List Int) (h2 : twoB n A m B = true) (hl : f.length ≤ 1048576) : Ev (fun k => spec_l7Is.f k n A m B f) (homB n A m B f) := by
  obtain ⟨ha, hb, _, _⟩ := two_of h2
  unfold spec_l7Is.f homB
  refine (spec_l7Map_ev n m A B f (algB_size hb) hl).bind (Ev.ite (fun h => ?_) (fun h => (Ev.now _).to (by simp [h])))
  refine (spec_l7Fault_ev n m A B f h2 h).bind ((Ev.now _).to ?_)
  rw [h, Bool.true_and]
  cases h' : faultM n A m B f with
  | none => rfl
  | some p => rfl
def isHomM (n : Int) (A : List IOp) (m : Int) (B : List IOp) (f : List Int) : Bool × Bool := if twoB n A m B = true then (homB n A m B f, true) else (false, false)
theorem impl_IsHom_ev (n m : Int) (A B : List IOp) (f : List Int) (hA : fitO A) (hB : fitO B) (hl : f.length ≤ 1048576) : Ev (fun k => impl_IsHom.f k n A m B f) (isHomM n A m B f) := by
  unfold impl_IsHom.f isHomM
  refine (impl_areAlike_ev n m A B hA hB).bind (Ev.ite (fun h => ?_) (fun h => (Ev.now _).to (by simp [h])))
  exact (impl_isHom_ev n m A B f h hl).bind ((Ev.now _).to (by simp [h]))
theorem spec_IsHom_ev (n m : Int) (A B : List IOp) (f : List Int) (hA : fitO A) (hB : fitO B) (hl : f.length ≤ 1048576) : Ev (fun k => spec_IsHom.f k n A m B f) (isHomM n A m B f) := by
  unfold spec_IsHom.f isHomM
  refine (spec_l7Two_ev n m A B hA hB).bind (Ev.ite (fun h => ?_) (fun h => (Ev.now _).to (by simp [h])))
  exact (spec_l7Is_ev n m A B f h hl).bind ((Ev.now _).to (by simp [h]))
theorem FnExactIsHom (n : Int) (A : List LOp) (m : Int) (B : List LOp) (f : List Int) (_ : (Lit.int .i64 n).wf = true) (hA : A.length ≤ maxLen) (gA : ∀ x ∈ A, (Lit.int .i64 x.f0).wf = true ∧ x.f1.length ≤ maxLen ∧ ∀ y ∈ x.f1, (Lit.int .i64 y).wf = true) (_ : (Lit.int .i64 m).wf = true) (hB : B.length ≤ maxLen) (gB : ∀ x ∈ B, (Lit.int .i64 x.f0).wf = true ∧ x.f1.length ≤ maxLen ∧ ∀ y ∈ x.f1, (Lit.int .i64 y).wf = true) (hf : f.length ≤ maxLen) (_ : ∀ x ∈ f, (Lit.int .i64 x).wf = true) : ∃ k, laws_FnExactIsHom.f k n A m B f = some true := by
  obtain ⟨t, h1, h2, h3, h4⟩ := laws_szAlgebra_ev n A 1048576 hA (fun x hx => (gA x hx).2.1) (by omega)
  refine Ev.rounds ?_
  unfold laws_FnExactIsHom.f
  refine Ev.ite (fun h => Ev.now _) (fun hl => h1.bind (Ev.ite (fun h => Ev.now _) (fun h => ?_)))
  obtain ⟨u, g1, g2, g3, g4⟩ := laws_szAlgebra_ev m B t hB (fun x hx => (gB x hx).2.1) ⟨by omega, by omega⟩
  refine g1.bind (Ev.ite (fun h => Ev.now _) (fun h' => ?_))
  have h5 := h4 (by omega)
  have g5 := g4 (by omega)
  have hl' : f.length ≤ 1048576 := by omega
  have hx : ∀ x ∈ A, x.f1.length ≤ 1048576 := fun x hx => by have := h5.2 x hx; omega
  have gx : ∀ x ∈ B, x.f1.length ≤ 1048576 := fun x hx => by have := g5.2 x hx; omega
  have fA := conv_fit A (by omega) hx
  have fB := conv_fit B (by omega) gx
  have tA := laws_toAlgebra_ev n A (by omega) (fun x h => by have := hx x h; omega)
  have tB := laws_toAlgebra_ev m B (by omega) (fun x h => by have := gx x h; omega)
  have tf := toIntS_ev f (by omega)
  refine tA.bind (tB.bind (tf.bind ((spec_IsHom_ev n m _ _ f fA fB hl').bind (tA.bind (tB.bind (tf.bind ((impl_IsHom_ev n m _ _ f fA fB hl').bind ?_)))))))
  refine Ev.neg (by simp) (Ev.step (fun _ => laws_FnExactIsHom.j0.eq_2 ..) (Ev.neg (by simp) ?_))
  exact tA.bind ((laws_eqAlgebra_same n _ fA).bind (Ev.pos rfl (tB.bind ((laws_eqAlgebra_same m _ fB).bind (Ev.pos rfl (tf.bind ((eqIntS_same f (by omega)).bind (Ev.pos rfl (Ev.now _)))))))))
end Go.Proofs.Ytijnfpfijgmopaa.Pure
