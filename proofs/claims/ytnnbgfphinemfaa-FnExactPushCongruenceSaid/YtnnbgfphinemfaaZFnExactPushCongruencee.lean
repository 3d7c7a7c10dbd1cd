/- Part 5 of the proof of the law FnExactPushCongruence: functions and lists that say what the Go code computes, and that it does; no condition beside those that each theorem states. -/
import Derived.Test.YtnnbgfphinemfaaZFnExactPushCongruenced
import Derived.Deep.RegionHeld3
namespace Go.Proofs.Ytnnbgfphinemfaa
open Go.RowKit Go.Proofs.YtnnbgfphinemfaaW.PrintWords Go.Proofs.YtnnbgfphinemfaaW.PrintLast Go.Proofs.YtnnbgfphinemfaaW.PrintMore Go.Proofs.Ytnnbgfphinemfaa.Live Go.Proofs.Ytnnbgfphinemfaa.Q
set_option linter.unusedVariables false
set_option linter.unusedSimpArgs false
set_option maxRecDepth 100000
set_option maxHeartbeats 8000000 in
theorem Walk.FnExactPushCongruence (a0 : Int) (A0 : Option Addr) (c0 : Nat) (l0 : List (Q.S110)) (A1 : Option Addr) (c1 : Nat) (l1 : List (Int)) (A2 : Option Addr) (c2 : Nat) (l2 : List (Int)) (W : World) (hr0 : Kd.C k110 W A0 l0.length l0) (hc0 : l0.length ≤ c0) (hr1 : Kd.C (Kd.int .i64) W A1 l1.length l1) (hc1 : l1.length ≤ c1) (hr2 : Kd.C (Kd.int .i64) W A2 l2.length l2) (hc2 : l2.length ≤ c2) (g0 : (Lit.int .i64 a0).wf = true) (hm0 : l0.length ≤ maxLen) (hg0 : ∀ x ∈ l0, (Lit.int .i64 x.f0).wf = true ∧ x.f1.length ≤ maxLen ∧ ∀ y_x ∈ x.f1, (Lit.int .i64 y_x).wf = true) (hm1 : l1.length ≤ maxLen) (hg1 : ∀ x ∈ l1, (Lit.int .i64 x).wf = true) (hm2 : l2.length ≤ maxLen) (hg2 : ∀ x ∈ l2, (Lit.int .i64 x).wf = true) :
    Calls Try.prog 12 #[.agg #[.int .i64 a0, .slice A0 l0.length c0], .slice A1 l1.length c1, .slice A2 l2.length c2] W fun e w' => e = .returned (.bool true) ∧ Below W.heap.size W w' := by
  have P := fun z0 z1 => Pure.FnExactPushCongruence a0 l0 l1 l2 g0 hm0 hg0 hm1 hg1 hm2 hg2 z0 z1
  have hu24 := Try.underlying24
  have hu25 := Try.underlying25
  have hu31 := Try.underlying31
  have HR0 := Aside0.mk hr0
  have HC0 := Aside0.mk hc0
  have hm0_ : l0.length ≤ 9223372036854775807 := by unfold maxLen at hm0; omega
  have HR1 := Aside0.mk hr1
  have HC1 := Aside0.mk hc1
  have hm1_ : l1.length ≤ 9223372036854775807 := by unfold maxLen at hm1; omega
  have HR2 := Aside0.mk hr2
  have HC2 := Aside0.mk hc2
  have hm2_ : l2.length ≤ 9223372036854775807 := by unfold maxLen at hm2; omega
  clear hr0 hc0 hr1 hc1 hr2 hc2 g0 hm0 hg0 hm1 hg1 hm2 hg2
  by_cases cl1 : 1048576 < l1.length
  · have q1 : decide (1048576 < (l1.length : Int)) = true := decide_eq_true (by omega)
    have qn1 : decide (1048576 < l1.length) = true := decide_eq_true cl1
    clear P
    go_enter Try.func12, Try.ntmps12
    obtain ⟨lox1, hix1, HLx1⟩ := Live.make_box (Live.nil W) (.cells #[.int .i64 a0, .slice A0 l0.length c0] 24) (W.heap.size) (by simp)
    go_wp2
    go_ret
    exact ⟨rfl, below_alloc (Below.refl _ _) _⟩
  have q1 : decide (1048576 < (l1.length : Int)) = false := decide_eq_false (by omega)
  have qn1 : decide (1048576 < l1.length) = false := decide_eq_false cl1
  replace P := P
  by_cases cl2 : 1048576 < l2.length
  · have q2 : decide (1048576 < (l2.length : Int)) = true := decide_eq_true (by omega)
    have qn2 : decide (1048576 < l2.length) = true := decide_eq_true cl2
    clear P
    go_enter Try.func12, Try.ntmps12
    obtain ⟨lox1, hix1, HLx1⟩ := Live.make_box (Live.nil W) (.cells #[.int .i64 a0, .slice A0 l0.length c0] 24) (W.heap.size) (by simp)
    go_wp2
    go_ret
    exact ⟨rfl, below_alloc (Below.refl _ _) _⟩
  have q2 : decide (1048576 < (l2.length : Int)) = false := decide_eq_false (by omega)
  have qn2 : decide (1048576 < l2.length) = false := decide_eq_false cl2
  replace P := P
  obtain ⟨k, P⟩ := P (by omega) (by omega)
  obtain ⟨t0, hF0, P⟩ := P
  have F0 := Aside0.mk hF0
  clear hF0
  have HP4 := Aside0.mk P
  clear P
  by_cases d4 : t0 < 0
  · have q4 : decide (t0 < 0) = true := decide_eq_true d4
    go_enter Try.func12, Try.ntmps12
    obtain ⟨lox1, hix1, HLx1⟩ := Live.make_box (Live.nil W) (.cells #[.int .i64 a0, .slice A0 l0.length c0] 24) (W.heap.size) (by simp)
    go_wp2_with fail
    (with_reducible refine (laws_szAlgebra.calls k a0 _ _ l0 1048576 t0 _ (Kd.C_below HR0.out (below_alloc (Below.refl _ _) _)) HC0.out F0.out).mono ?_)
    rintro e w2 ⟨rfl, hbw2⟩
    have HLw2 := Aside0.mk (HLx1.below hbw2)
    have HBw2 := Aside0.mk (below_step (below_alloc (Below.refl _ _) _) (hbw2))
    clear hbw2
    have hxb3_0_w2 : w2.cell? ⟨W.heap.size, 0, none⟩ = some (.int .i64 a0) := (blk_cell (HLw2.out.get 0 rfl).1 0).trans rfl
    have hxb3_1_w2 : w2.cell? ⟨W.heap.size, 1, none⟩ = some (.slice A0 l0.length c0) := (blk_cell (HLw2.out.get 0 rfl).1 1).trans rfl
    go_wp2
    go_ret
    exact ⟨rfl, HBw2.out⟩
  have q4 : decide (t0 < 0) = false := decide_eq_false d4
  have P := HP4.out (by omega)
  clear HP4
  obtain ⟨X0, X1, X2, X3, X4, X5, hF1, hF2, hF3, hF4, hF5, hF6, hF7, hF8, hF9, hF10, hF11, hF12, hF13, hB0⟩ := P
  have F1 := Aside0.mk hF1
  have F2 := Aside0.mk hF2
  have F3 := Aside0.mk hF3
  have F4 := Aside0.mk hF4
  have F5 := Aside0.mk hF5
  have F6 := Aside0.mk hF6
  have F7 := Aside0.mk hF7
  have F8 := Aside0.mk hF8
  have F9 := Aside0.mk hF9
  have F10 := Aside0.mk hF10
  have F11 := Aside0.mk hF11
  have F12 := Aside0.mk hF12
  have F13 := Aside0.mk hF13
  have HBD := Aside0.mk (show (1 + (totO X1 : Int)) ≤ 4611686018427387904 from hB0)
  clear hF1 hF2 hF3 hF4 hF5 hF6 hF7 hF8 hF9 hF10 hF11 hF12 hF13 hB0
  have hneX0 : (X0 != X0) = false := bne_self_eq_false X0
  have hneX5 : (X5 != X5) = false := bne_self_eq_false X5
  go_enter Try.func12, Try.ntmps12
  obtain ⟨lox1, hix1, HLx1⟩ := Live.make_box (Live.nil W) (.cells #[.int .i64 a0, .slice A0 l0.length c0] 24) (W.heap.size) (by simp)
  go_wp2_with fail
  (with_reducible refine (laws_szAlgebra.calls k a0 _ _ l0 1048576 t0 _ (Kd.C_below HR0.out (below_alloc (Below.refl _ _) _)) HC0.out F0.out).mono ?_)
  rintro e w2 ⟨rfl, hbw2⟩
  have HLw2 := Aside0.mk (HLx1.below hbw2)
  have HBw2 := Aside0.mk (below_step (below_alloc (Below.refl _ _) _) (hbw2))
  clear hbw2
  have hxb3_0_w2 : w2.cell? ⟨W.heap.size, 0, none⟩ = some (.int .i64 a0) := (blk_cell (HLw2.out.get 0 rfl).1 0).trans rfl
  have hxb3_1_w2 : w2.cell? ⟨W.heap.size, 1, none⟩ = some (.slice A0 l0.length c0) := (blk_cell (HLw2.out.get 0 rfl).1 1).trans rfl
  go_wp2_with fail
  (with_reducible refine (laws_toAlgebra.calls k a0 _ _ l0 X0 X1 _ (Kd.C_below HR0.out (HBw2.out)) HC0.out F1.out).mono ?_)
  rintro e w3 ⟨vw3_0, rfl, how3_0, hbw3⟩
  obtain ⟨Aw3, cw3, rfl⟩ := Kd.S_slice how3_0
  obtain ⟨low3, hiw3, hlw3⟩ := Live.make_S HLw2.out hbw3 how3_0 (below_size (HBw2.out))
  have HLw3 := Aside0.mk hlw3
  clear hlw3 how3_0
  have HBw3 := Aside0.mk (below_step (HBw2.out) (hbw3))
  clear hbw3
  have hxb3_0_w3 : w3.cell? ⟨W.heap.size, 0, none⟩ = some (.int .i64 a0) := (blk_cell (HLw3.out.get 1 rfl).1 0).trans rfl
  have hxb3_1_w3 : w3.cell? ⟨W.heap.size, 1, none⟩ = some (.slice A0 l0.length c0) := (blk_cell (HLw3.out.get 1 rfl).1 1).trans rfl
  go_wp2_with fail
  (with_reducible refine (laws_toIntS.calls k _ _ l1 X2 _ (Kd.C_below HR1.out (HBw3.out)) HC1.out F2.out).mono ?_)
  rintro e w4 ⟨vw4_0, rfl, how4_0, hbw4⟩
  obtain ⟨Aw4, cw4, rfl⟩ := Kd.R_slice how4_0
  obtain ⟨low4, hiw4, hlw4⟩ := Live.make_R HLw3.out hbw4 how4_0 (below_size (HBw3.out))
  have HLw4 := Aside0.mk hlw4
  clear hlw4 how4_0
  have HBw4 := Aside0.mk (below_step (HBw3.out) (hbw4))
  clear hbw4
  have hxb3_0_w4 : w4.cell? ⟨W.heap.size, 0, none⟩ = some (.int .i64 a0) := (blk_cell (HLw4.out.get 2 rfl).1 0).trans rfl
  have hxb3_1_w4 : w4.cell? ⟨W.heap.size, 1, none⟩ = some (.slice A0 l0.length c0) := (blk_cell (HLw4.out.get 2 rfl).1 1).trans rfl
  go_wp2_with fail
  (with_reducible refine (laws_toIntS.calls k _ _ l2 X3 _ (Kd.C_below HR2.out (HBw4.out)) HC2.out F3.out).mono ?_)
  rintro e w5 ⟨vw5_0, rfl, how5_0, hbw5⟩
  obtain ⟨Aw5, cw5, rfl⟩ := Kd.R_slice how5_0
  obtain ⟨low5, hiw5, hlw5⟩ := Live.make_R HLw4.out hbw5 how5_0 (below_size (HBw4.out))
  have HLw5 := Aside0.mk hlw5
  clear hlw5 how5_0
  have HBw5 := Aside0.mk (below_step (HBw4.out) (hbw5))
  clear hbw5
  have hxb3_0_w5 : w5.cell? ⟨W.heap.size, 0, none⟩ = some (.int .i64 a0) := (blk_cell (HLw5.out.get 3 rfl).1 0).trans rfl
  have hxb3_1_w5 : w5.cell? ⟨W.heap.size, 1, none⟩ = some (.slice A0 l0.length c0) := (blk_cell (HLw5.out.get 3 rfl).1 1).trans rfl
  go_wp2_with fail
  (with_reducible refine (spec_PushCongruence.calls k X0 _ _ X1 _ _ X2 _ _ X3 X4 X5 _ (Kd.S_reads' (HLw5.out.get 2 rfl)).2.2 (Kd.S_reads' (HLw5.out.get 2 rfl)).2.1 (Kd.R_reads' (HLw5.out.get 1 rfl)).2.2 (Kd.R_reads' (HLw5.out.get 1 rfl)).2.1 (Kd.R_reads' (HLw5.out.get 0 rfl)).2.2 (Kd.R_reads' (HLw5.out.get 0 rfl)).2.1 F4.out).mono ?_)
  rintro e w6 ⟨vw6_0, rfl, how6_0, hbw6⟩
  obtain ⟨Aw6, cw6, rfl⟩ := Kd.R_slice how6_0
  obtain ⟨low6, hiw6, hlw6⟩ := Live.make_R HLw5.out hbw6 how6_0 (below_size (HBw5.out))
  have HLw6 := Aside0.mk hlw6
  clear hlw6 how6_0
  have HBw6 := Aside0.mk (below_step (HBw5.out) (hbw6))
  clear hbw6
  have hxb3_0_w6 : w6.cell? ⟨W.heap.size, 0, none⟩ = some (.int .i64 a0) := (blk_cell (HLw6.out.get 4 rfl).1 0).trans rfl
  have hxb3_1_w6 : w6.cell? ⟨W.heap.size, 1, none⟩ = some (.slice A0 l0.length c0) := (blk_cell (HLw6.out.get 4 rfl).1 1).trans rfl
  go_wp2_with fail
  (with_reducible refine (laws_toAlgebra.calls k a0 _ _ l0 X0 X1 _ (Kd.C_below HR0.out (HBw6.out)) HC0.out F1.out).mono ?_)
  rintro e w7 ⟨vw7_0, rfl, how7_0, hbw7⟩
  obtain ⟨Aw7, cw7, rfl⟩ := Kd.S_slice how7_0
  obtain ⟨low7, hiw7, hlw7⟩ := Live.make_S HLw6.out hbw7 how7_0 (below_size (HBw6.out))
  have HLw7 := Aside0.mk hlw7
  clear hlw7 how7_0
  have HBw7 := Aside0.mk (below_step (HBw6.out) (hbw7))
  clear hbw7
  have hxb3_0_w7 : w7.cell? ⟨W.heap.size, 0, none⟩ = some (.int .i64 a0) := (blk_cell (HLw7.out.get 5 rfl).1 0).trans rfl
  have hxb3_1_w7 : w7.cell? ⟨W.heap.size, 1, none⟩ = some (.slice A0 l0.length c0) := (blk_cell (HLw7.out.get 5 rfl).1 1).trans rfl
  obtain ⟨lox8, hix8, HLx8⟩ := Live.make_box HLw7.out (.cells #[.int .i64 X0, .slice Aw7 X1.length cw7] 31) (w7.heap.size) (by simp)
  have hxb3_0_w7allocce : (w7.alloc (.cells #[.int .i64 X0, .slice Aw7 X1.length cw7] 31)).cell? ⟨W.heap.size, 0, none⟩ = some (.int .i64 a0) := (blk_cell (HLx8.get 6 rfl).1 0).trans rfl
  have hxb3_1_w7allocce : (w7.alloc (.cells #[.int .i64 X0, .slice Aw7 X1.length cw7] 31)).cell? ⟨W.heap.size, 1, none⟩ = some (.slice A0 l0.length c0) := (blk_cell (HLx8.get 6 rfl).1 1).trans rfl
  go_wp2_with fail
  (with_reducible refine (laws_toIntS.calls k _ _ l1 X2 _ (Kd.C_below HR1.out (below_alloc (HBw7.out) _)) HC1.out F2.out).mono ?_)
  rintro e w9 ⟨vw9_0, rfl, how9_0, hbw9⟩
  obtain ⟨Aw9, cw9, rfl⟩ := Kd.R_slice how9_0
  obtain ⟨low9, hiw9, hlw9⟩ := Live.make_R HLx8 hbw9 how9_0 (below_size (below_alloc (HBw7.out) _))
  have HLw9 := Aside0.mk hlw9
  clear hlw9 how9_0
  have HBw9 := Aside0.mk (below_step (below_alloc (HBw7.out) _) (hbw9))
  clear hbw9
  have hxb3_0_w9 : w9.cell? ⟨W.heap.size, 0, none⟩ = some (.int .i64 a0) := (blk_cell (HLw9.out.get 7 rfl).1 0).trans rfl
  have hxb3_1_w9 : w9.cell? ⟨W.heap.size, 1, none⟩ = some (.slice A0 l0.length c0) := (blk_cell (HLw9.out.get 7 rfl).1 1).trans rfl
  have hxb10_0_w9 : w9.cell? ⟨w7.heap.size, 0, none⟩ = some (.int .i64 X0) := (blk_cell (HLw9.out.get 1 rfl).1 0).trans rfl
  have hxb10_1_w9 : w9.cell? ⟨w7.heap.size, 1, none⟩ = some (.slice Aw7 X1.length cw7) := (blk_cell (HLw9.out.get 1 rfl).1 1).trans rfl
  go_wp2_with fail
  (with_reducible refine (laws_toIntS.calls k _ _ l2 X3 _ (Kd.C_below HR2.out (HBw9.out)) HC2.out F3.out).mono ?_)
  rintro e w10 ⟨vw10_0, rfl, how10_0, hbw10⟩
  obtain ⟨Aw10, cw10, rfl⟩ := Kd.R_slice how10_0
  obtain ⟨low10, hiw10, hlw10⟩ := Live.make_R HLw9.out hbw10 how10_0 (below_size (HBw9.out))
  have HLw10 := Aside0.mk hlw10
  clear hlw10 how10_0
  have HBw10 := Aside0.mk (below_step (HBw9.out) (hbw10))
  clear hbw10
  have hxb3_0_w10 : w10.cell? ⟨W.heap.size, 0, none⟩ = some (.int .i64 a0) := (blk_cell (HLw10.out.get 8 rfl).1 0).trans rfl
  have hxb3_1_w10 : w10.cell? ⟨W.heap.size, 1, none⟩ = some (.slice A0 l0.length c0) := (blk_cell (HLw10.out.get 8 rfl).1 1).trans rfl
  have hxb10_0_w10 : w10.cell? ⟨w7.heap.size, 0, none⟩ = some (.int .i64 X0) := (blk_cell (HLw10.out.get 2 rfl).1 0).trans rfl
  have hxb10_1_w10 : w10.cell? ⟨w7.heap.size, 1, none⟩ = some (.slice Aw7 X1.length cw7) := (blk_cell (HLw10.out.get 2 rfl).1 1).trans rfl
  go_wp2_with fail
  (with_reducible refine (impl_PushCongruence.calls k X0 _ _ X1 _ _ X2 _ _ X3 X4 X5 _ (Kd.S_reads' (HLw10.out.get 3 rfl)).2.2 (Kd.S_reads' (HLw10.out.get 3 rfl)).2.1 (Kd.R_reads' (HLw10.out.get 1 rfl)).2.2 (Kd.R_reads' (HLw10.out.get 1 rfl)).2.1 (Kd.R_reads' (HLw10.out.get 0 rfl)).2.2 (Kd.R_reads' (HLw10.out.get 0 rfl)).2.1 F5.out).mono ?_)
  rintro e w11 ⟨vw11_0, rfl, how11_0, hbw11⟩
  obtain ⟨Aw11, cw11, rfl⟩ := Kd.R_slice how11_0
  obtain ⟨low11, hiw11, hlw11⟩ := Live.make_R HLw10.out hbw11 how11_0 (below_size (HBw10.out))
  have HLw11 := Aside0.mk hlw11
  clear hlw11 how11_0
  have HBw11 := Aside0.mk (below_step (HBw10.out) (hbw11))
  clear hbw11
  have hxb3_0_w11 : w11.cell? ⟨W.heap.size, 0, none⟩ = some (.int .i64 a0) := (blk_cell (HLw11.out.get 9 rfl).1 0).trans rfl
  have hxb3_1_w11 : w11.cell? ⟨W.heap.size, 1, none⟩ = some (.slice A0 l0.length c0) := (blk_cell (HLw11.out.get 9 rfl).1 1).trans rfl
  have hxb10_0_w11 : w11.cell? ⟨w7.heap.size, 0, none⟩ = some (.int .i64 X0) := (blk_cell (HLw11.out.get 3 rfl).1 0).trans rfl
  have hxb10_1_w11 : w11.cell? ⟨w7.heap.size, 1, none⟩ = some (.slice Aw7 X1.length cw7) := (blk_cell (HLw11.out.get 3 rfl).1 1).trans rfl
  go_wp2_with fail
  (with_reducible refine (laws_eqIntS.calls k _ _ X4 _ _ X4 true _ (Kd.R_reads' (HLw11.out.get 0 rfl)).2.2 (Kd.R_reads' (HLw11.out.get 0 rfl)).2.1 (Kd.R_reads' (HLw11.out.get 5 rfl)).2.2 (Kd.R_reads' (HLw11.out.get 5 rfl)).2.1 F6.out).mono ?_)
  rintro e w12 ⟨rfl, hbw12⟩
  have HLw12 := Aside0.mk (HLw11.out.below hbw12.below)
  have HBw12 := Aside0.mk (below_step (HBw11.out) (hbw12.below))
  clear hbw12
  have hxb3_0_w12 : w12.cell? ⟨W.heap.size, 0, none⟩ = some (.int .i64 a0) := (blk_cell (HLw12.out.get 9 rfl).1 0).trans rfl
  have hxb3_1_w12 : w12.cell? ⟨W.heap.size, 1, none⟩ = some (.slice A0 l0.length c0) := (blk_cell (HLw12.out.get 9 rfl).1 1).trans rfl
  have hxb10_0_w12 : w12.cell? ⟨w7.heap.size, 0, none⟩ = some (.int .i64 X0) := (blk_cell (HLw12.out.get 3 rfl).1 0).trans rfl
  have hxb10_1_w12 : w12.cell? ⟨w7.heap.size, 1, none⟩ = some (.slice Aw7 X1.length cw7) := (blk_cell (HLw12.out.get 3 rfl).1 1).trans rfl
  go_wp2_with fail
  go_region_held3 (fun w' => w'.cell? ⟨W.heap.size, 0, none⟩ = some (.int .i64 a0) ∧ w'.cell? ⟨W.heap.size, 1, none⟩ = some (.slice A0 l0.length c0) ∧ w'.cell? ⟨w7.heap.size, 0, none⟩ = some (.int .i64 X0) ∧ w'.cell? ⟨w7.heap.size, 1, none⟩ = some (.slice Aw7 X1.length cw7)) (first | (simp [*]; done) | go_keep) (first | (go_at_call 17; (with_reducible refine (laws_toAlgebra.calls k a0 _ _ l0 X0 X1 _ (Kd.C_below HR0.out (below_drew1 (HBw12.out))) HC0.out F1.out).mono ?_); rintro e w13 ⟨vw13_0, rfl, how13_0, hbw13⟩; obtain ⟨Aw13, cw13, rfl⟩ := Kd.S_slice how13_0; obtain ⟨low13, hiw13, hlw13⟩ := Live.make_S (Live.drew HLw12.out) hbw13 how13_0 (below_size (below_drew1 (HBw12.out))); have HLw13 := Aside0.mk hlw13; clear hlw13 how13_0; have HBw13 := Aside0.mk (below_step (below_drew1 (HBw12.out)) (hbw13)); clear hbw13; have hxb3_0_w13 : w13.cell? ⟨W.heap.size, 0, none⟩ = some (.int .i64 a0) := (blk_cell (HLw13.out.get 10 rfl).1 0).trans rfl; have hxb3_1_w13 : w13.cell? ⟨W.heap.size, 1, none⟩ = some (.slice A0 l0.length c0) := (blk_cell (HLw13.out.get 10 rfl).1 1).trans rfl; have hxb10_0_w13 : w13.cell? ⟨w7.heap.size, 0, none⟩ = some (.int .i64 X0) := (blk_cell (HLw13.out.get 4 rfl).1 0).trans rfl; have hxb10_1_w13 : w13.cell? ⟨w7.heap.size, 1, none⟩ = some (.slice Aw7 X1.length cw7) := (blk_cell (HLw13.out.get 4 rfl).1 1).trans rfl) | (go_at_call 21; (with_reducible refine (laws_eqAlgebra.calls k X0 _ _ X1 X0 _ _ X1 true _ (Kd.S_reads' (HLw13.out.get 5 rfl)).2.2 (Kd.S_reads' (HLw13.out.get 5 rfl)).2.1 (Kd.S_reads' (HLw13.out.get 0 rfl)).2.2 (Kd.S_reads' (HLw13.out.get 0 rfl)).2.1 F7.out).mono ?_); rintro e w14 ⟨rfl, hbw14⟩; have HLw14 := Aside0.mk (HLw13.out.below hbw14); have HBw14 := Aside0.mk (below_step (HBw13.out) (hbw14)); clear hbw14; have hxb3_0_w14 : w14.cell? ⟨W.heap.size, 0, none⟩ = some (.int .i64 a0) := (blk_cell (HLw14.out.get 10 rfl).1 0).trans rfl; have hxb3_1_w14 : w14.cell? ⟨W.heap.size, 1, none⟩ = some (.slice A0 l0.length c0) := (blk_cell (HLw14.out.get 10 rfl).1 1).trans rfl; have hxb10_0_w14 : w14.cell? ⟨w7.heap.size, 0, none⟩ = some (.int .i64 X0) := (blk_cell (HLw14.out.get 4 rfl).1 0).trans rfl; have hxb10_1_w14 : w14.cell? ⟨w7.heap.size, 1, none⟩ = some (.slice Aw7 X1.length cw7) := (blk_cell (HLw14.out.get 4 rfl).1 1).trans rfl))
  go_wp2_with fail
  (with_reducible refine (laws_toIntS.calls k _ _ l1 X2 _ (Kd.C_below HR1.out (HBw14.out)) HC1.out F2.out).mono ?_)
  rintro e w15 ⟨vw15_0, rfl, how15_0, hbw15⟩
  obtain ⟨Aw15, cw15, rfl⟩ := Kd.R_slice how15_0
  obtain ⟨low15, hiw15, hlw15⟩ := Live.make_R HLw14.out hbw15 how15_0 (below_size (HBw14.out))
  have HLw15 := Aside0.mk hlw15
  clear hlw15 how15_0
  have HBw15 := Aside0.mk (below_step (HBw14.out) (hbw15))
  clear hbw15
  have hxb3_0_w15 : w15.cell? ⟨W.heap.size, 0, none⟩ = some (.int .i64 a0) := (blk_cell (HLw15.out.get 11 rfl).1 0).trans rfl
  have hxb3_1_w15 : w15.cell? ⟨W.heap.size, 1, none⟩ = some (.slice A0 l0.length c0) := (blk_cell (HLw15.out.get 11 rfl).1 1).trans rfl
  have hxb10_0_w15 : w15.cell? ⟨w7.heap.size, 0, none⟩ = some (.int .i64 X0) := (blk_cell (HLw15.out.get 5 rfl).1 0).trans rfl
  have hxb10_1_w15 : w15.cell? ⟨w7.heap.size, 1, none⟩ = some (.slice Aw7 X1.length cw7) := (blk_cell (HLw15.out.get 5 rfl).1 1).trans rfl
  go_wp2_with fail
  (with_reducible refine (laws_eqIntS.calls k _ _ X2 _ _ X2 true _ (Kd.R_reads' (HLw15.out.get 4 rfl)).2.2 (Kd.R_reads' (HLw15.out.get 4 rfl)).2.1 (Kd.R_reads' (HLw15.out.get 0 rfl)).2.2 (Kd.R_reads' (HLw15.out.get 0 rfl)).2.1 F8.out).mono ?_)
  rintro e w16 ⟨rfl, hbw16⟩
  have HLw16 := Aside0.mk (HLw15.out.below hbw16.below)
  have HBw16 := Aside0.mk (below_step (HBw15.out) (hbw16.below))
  clear hbw16
  have hxb3_0_w16 : w16.cell? ⟨W.heap.size, 0, none⟩ = some (.int .i64 a0) := (blk_cell (HLw16.out.get 11 rfl).1 0).trans rfl
  have hxb3_1_w16 : w16.cell? ⟨W.heap.size, 1, none⟩ = some (.slice A0 l0.length c0) := (blk_cell (HLw16.out.get 11 rfl).1 1).trans rfl
  have hxb10_0_w16 : w16.cell? ⟨w7.heap.size, 0, none⟩ = some (.int .i64 X0) := (blk_cell (HLw16.out.get 5 rfl).1 0).trans rfl
  have hxb10_1_w16 : w16.cell? ⟨w7.heap.size, 1, none⟩ = some (.slice Aw7 X1.length cw7) := (blk_cell (HLw16.out.get 5 rfl).1 1).trans rfl
  go_wp2_with fail
  (with_reducible refine (laws_toIntS.calls k _ _ l2 X3 _ (Kd.C_below HR2.out (HBw16.out)) HC2.out F3.out).mono ?_)
  rintro e w17 ⟨vw17_0, rfl, how17_0, hbw17⟩
  obtain ⟨Aw17, cw17, rfl⟩ := Kd.R_slice how17_0
  obtain ⟨low17, hiw17, hlw17⟩ := Live.make_R HLw16.out hbw17 how17_0 (below_size (HBw16.out))
  have HLw17 := Aside0.mk hlw17
  clear hlw17 how17_0
  have HBw17 := Aside0.mk (below_step (HBw16.out) (hbw17))
  clear hbw17
  have hxb3_0_w17 : w17.cell? ⟨W.heap.size, 0, none⟩ = some (.int .i64 a0) := (blk_cell (HLw17.out.get 12 rfl).1 0).trans rfl
  have hxb3_1_w17 : w17.cell? ⟨W.heap.size, 1, none⟩ = some (.slice A0 l0.length c0) := (blk_cell (HLw17.out.get 12 rfl).1 1).trans rfl
  have hxb10_0_w17 : w17.cell? ⟨w7.heap.size, 0, none⟩ = some (.int .i64 X0) := (blk_cell (HLw17.out.get 6 rfl).1 0).trans rfl
  have hxb10_1_w17 : w17.cell? ⟨w7.heap.size, 1, none⟩ = some (.slice Aw7 X1.length cw7) := (blk_cell (HLw17.out.get 6 rfl).1 1).trans rfl
  go_wp2_with fail
  (with_reducible refine (laws_eqIntS.calls k _ _ X3 _ _ X3 true _ (Kd.R_reads' (HLw17.out.get 4 rfl)).2.2 (Kd.R_reads' (HLw17.out.get 4 rfl)).2.1 (Kd.R_reads' (HLw17.out.get 0 rfl)).2.2 (Kd.R_reads' (HLw17.out.get 0 rfl)).2.1 F9.out).mono ?_)
  rintro e w18 ⟨rfl, hbw18⟩
  have HLw18 := Aside0.mk (HLw17.out.below hbw18.below)
  have HBw18 := Aside0.mk (below_step (HBw17.out) (hbw18.below))
  clear hbw18
  have hxb3_0_w18 : w18.cell? ⟨W.heap.size, 0, none⟩ = some (.int .i64 a0) := (blk_cell (HLw18.out.get 12 rfl).1 0).trans rfl
  have hxb3_1_w18 : w18.cell? ⟨W.heap.size, 1, none⟩ = some (.slice A0 l0.length c0) := (blk_cell (HLw18.out.get 12 rfl).1 1).trans rfl
  have hxb10_0_w18 : w18.cell? ⟨w7.heap.size, 0, none⟩ = some (.int .i64 X0) := (blk_cell (HLw18.out.get 6 rfl).1 0).trans rfl
  have hxb10_1_w18 : w18.cell? ⟨w7.heap.size, 1, none⟩ = some (.slice Aw7 X1.length cw7) := (blk_cell (HLw18.out.get 6 rfl).1 1).trans rfl
  go_wp2_with fail
  (with_reducible refine (laws_markAlgebra.marks X0 (fun k => low7 ≤ k ∧ k < hiw7) _ X1 1 W _ (HBw18.out) (HLw18.out.get 7 rfl) (by have := HBD.out; omega) (by have := HBD.out; omega)).mono ?_)
  rintro e w19 ⟨rfl, hm1, hm2, hm3⟩
  have HLw19 := Aside0.mk (Live.mark HLw18.out 7 rfl hm3 (seg_S hm1 (fun k hk _ _ => hk) (Nat.le_refl _)))
  have HBw19 := Aside0.mk hm2
  clear hm1 hm2 hm3
  have hxb3_0_w19 : w19.cell? ⟨W.heap.size, 0, none⟩ = some (.int .i64 a0) := (blk_cell (HLw19.out.get 12 rfl).1 0).trans rfl
  have hxb3_1_w19 : w19.cell? ⟨W.heap.size, 1, none⟩ = some (.slice A0 l0.length c0) := (blk_cell (HLw19.out.get 12 rfl).1 1).trans rfl
  have hxb10_0_w19 : w19.cell? ⟨w7.heap.size, 0, none⟩ = some (.int .i64 X0) := (blk_cell (HLw19.out.get 6 rfl).1 0).trans rfl
  have hxb10_1_w19 : w19.cell? ⟨w7.heap.size, 1, none⟩ = some (.slice Aw7 X1.length cw7) := (blk_cell (HLw19.out.get 6 rfl).1 1).trans rfl
  go_wp2_with fail
  (with_reducible refine (laws_markIntS.calls k (fun k => low9 ≤ k ∧ k < hiw9) _ X2 (1 + (totO X1 : Int)) _ _ W _ (HBw19.out) (HLw19.out.get 5 rfl) F10.out).mono ?_)
  rintro e w20 ⟨rfl, hm1, hm2, hm3⟩
  have HLw20 := Aside0.mk (Live.mark HLw19.out 5 rfl hm3 (seg_R (Kd.R_mono (Kd.R_tight rfl hm1) (fun k hk => (HLw19.out.get 5 rfl).1 k hk.symm)) (fun k hk _ _ => hk) (Nat.le_refl _)))
  have HBw20 := Aside0.mk hm2
  clear hm1 hm2 hm3
  have hxb3_0_w20 : w20.cell? ⟨W.heap.size, 0, none⟩ = some (.int .i64 a0) := (blk_cell (HLw20.out.get 12 rfl).1 0).trans rfl
  have hxb3_1_w20 : w20.cell? ⟨W.heap.size, 1, none⟩ = some (.slice A0 l0.length c0) := (blk_cell (HLw20.out.get 12 rfl).1 1).trans rfl
  have hxb10_0_w20 : w20.cell? ⟨w7.heap.size, 0, none⟩ = some (.int .i64 X0) := (blk_cell (HLw20.out.get 6 rfl).1 0).trans rfl
  have hxb10_1_w20 : w20.cell? ⟨w7.heap.size, 1, none⟩ = some (.slice Aw7 X1.length cw7) := (blk_cell (HLw20.out.get 6 rfl).1 1).trans rfl
  go_wp2_with fail
  (with_reducible refine (laws_markIntS.calls k (fun k => low10 ≤ k ∧ k < hiw10) _ X3 ((1 + (totO X1 : Int)) + (X2.length : Int)) _ _ W _ (HBw20.out) (HLw20.out.get 4 rfl) F11.out).mono ?_)
  rintro e w21 ⟨rfl, hm1, hm2, hm3⟩
  have HLw21 := Aside0.mk (Live.mark HLw20.out 4 rfl hm3 (seg_R (Kd.R_mono (Kd.R_tight rfl hm1) (fun k hk => (HLw20.out.get 4 rfl).1 k hk.symm)) (fun k hk _ _ => hk) (Nat.le_refl _)))
  have HBw21 := Aside0.mk hm2
  clear hm1 hm2 hm3
  have hxb3_0_w21 : w21.cell? ⟨W.heap.size, 0, none⟩ = some (.int .i64 a0) := (blk_cell (HLw21.out.get 12 rfl).1 0).trans rfl
  have hxb3_1_w21 : w21.cell? ⟨W.heap.size, 1, none⟩ = some (.slice A0 l0.length c0) := (blk_cell (HLw21.out.get 12 rfl).1 1).trans rfl
  have hxb10_0_w21 : w21.cell? ⟨w7.heap.size, 0, none⟩ = some (.int .i64 X0) := (blk_cell (HLw21.out.get 6 rfl).1 0).trans rfl
  have hxb10_1_w21 : w21.cell? ⟨w7.heap.size, 1, none⟩ = some (.slice Aw7 X1.length cw7) := (blk_cell (HLw21.out.get 6 rfl).1 1).trans rfl
  go_wp2_with fail
  (with_reducible refine (laws_eqIntS.calls k _ _ X4 _ _ X4 true _ (Kd.R_reads' (HLw21.out.get 3 rfl)).2.2 (Kd.R_reads' (HLw21.out.get 3 rfl)).2.1 (Kd.R_reads' (HLw21.out.get 8 rfl)).2.2 (Kd.R_reads' (HLw21.out.get 8 rfl)).2.1 F6.out).mono ?_)
  rintro e w22 ⟨rfl, hbw22⟩
  have HLw22 := Aside0.mk (HLw21.out.below hbw22.below)
  have HBw22 := Aside0.mk (below_step (HBw21.out) (hbw22.below))
  clear hbw22
  have hxb3_0_w22 : w22.cell? ⟨W.heap.size, 0, none⟩ = some (.int .i64 a0) := (blk_cell (HLw22.out.get 12 rfl).1 0).trans rfl
  have hxb3_1_w22 : w22.cell? ⟨W.heap.size, 1, none⟩ = some (.slice A0 l0.length c0) := (blk_cell (HLw22.out.get 12 rfl).1 1).trans rfl
  have hxb10_0_w22 : w22.cell? ⟨w7.heap.size, 0, none⟩ = some (.int .i64 X0) := (blk_cell (HLw22.out.get 6 rfl).1 0).trans rfl
  have hxb10_1_w22 : w22.cell? ⟨w7.heap.size, 1, none⟩ = some (.slice Aw7 X1.length cw7) := (blk_cell (HLw22.out.get 6 rfl).1 1).trans rfl
  go_wp2_with fail
  (with_reducible refine (laws_markIntS.calls k (fun k => low11 ≤ k ∧ k < hiw11) _ X4 1 _ _ W _ (HBw22.out) (HLw22.out.get 3 rfl) F12.out).mono ?_)
  rintro e w23 ⟨rfl, hm1, hm2, hm3⟩
  have HLw23 := Aside0.mk (Live.mark HLw22.out 3 rfl hm3 (seg_R (Kd.R_mono (Kd.R_tight rfl hm1) (fun k hk => (HLw22.out.get 3 rfl).1 k hk.symm)) (fun k hk _ _ => hk) (Nat.le_refl _)))
  have HBw23 := Aside0.mk hm2
  clear hm1 hm2 hm3
  have hxb3_0_w23 : w23.cell? ⟨W.heap.size, 0, none⟩ = some (.int .i64 a0) := (blk_cell (HLw23.out.get 12 rfl).1 0).trans rfl
  have hxb3_1_w23 : w23.cell? ⟨W.heap.size, 1, none⟩ = some (.slice A0 l0.length c0) := (blk_cell (HLw23.out.get 12 rfl).1 1).trans rfl
  have hxb10_0_w23 : w23.cell? ⟨w7.heap.size, 0, none⟩ = some (.int .i64 X0) := (blk_cell (HLw23.out.get 6 rfl).1 0).trans rfl
  have hxb10_1_w23 : w23.cell? ⟨w7.heap.size, 1, none⟩ = some (.slice Aw7 X1.length cw7) := (blk_cell (HLw23.out.get 6 rfl).1 1).trans rfl
  go_wp2_with fail
  have r_ := (Kd.R_reads' (HLw23.out.get 3 rfl)).2
  have q_ := laws_heldIntS.calls k _ _ (asc X4.length 1) 1 (1 + (X4.length : Int)) _ (by first | exact r_.2 | (rw [asc_length]; exact r_.2)) (by first | exact r_.1 | (rw [asc_length]; exact r_.1)) F13.out
  rw [asc_length] at q_
  (with_reducible refine q_.mono ?_)
  clear q_ r_
  rintro e w24 ⟨rfl, hbw24⟩
  have HLw24 := Aside0.mk (HLw23.out.below hbw24.below)
  have HBw24 := Aside0.mk (below_step (HBw23.out) (hbw24.below))
  clear hbw24
  have hxb3_0_w24 : w24.cell? ⟨W.heap.size, 0, none⟩ = some (.int .i64 a0) := (blk_cell (HLw24.out.get 12 rfl).1 0).trans rfl
  have hxb3_1_w24 : w24.cell? ⟨W.heap.size, 1, none⟩ = some (.slice A0 l0.length c0) := (blk_cell (HLw24.out.get 12 rfl).1 1).trans rfl
  have hxb10_0_w24 : w24.cell? ⟨w7.heap.size, 0, none⟩ = some (.int .i64 X0) := (blk_cell (HLw24.out.get 6 rfl).1 0).trans rfl
  have hxb10_1_w24 : w24.cell? ⟨w7.heap.size, 1, none⟩ = some (.slice Aw7 X1.length cw7) := (blk_cell (HLw24.out.get 6 rfl).1 1).trans rfl
  go_wp2_with fail
  (with_reducible refine (laws_toAlgebra.calls k a0 _ _ l0 X0 X1 _ (Kd.C_below HR0.out (HBw24.out)) HC0.out F1.out).mono ?_)
  rintro e w25 ⟨vw25_0, rfl, how25_0, hbw25⟩
  obtain ⟨Aw25, cw25, rfl⟩ := Kd.S_slice how25_0
  obtain ⟨low25, hiw25, hlw25⟩ := Live.make_S HLw24.out hbw25 how25_0 (below_size (HBw24.out))
  have HLw25 := Aside0.mk hlw25
  clear hlw25 how25_0
  have HBw25 := Aside0.mk (below_step (HBw24.out) (hbw25))
  clear hbw25
  have hxb3_0_w25 : w25.cell? ⟨W.heap.size, 0, none⟩ = some (.int .i64 a0) := (blk_cell (HLw25.out.get 13 rfl).1 0).trans rfl
  have hxb3_1_w25 : w25.cell? ⟨W.heap.size, 1, none⟩ = some (.slice A0 l0.length c0) := (blk_cell (HLw25.out.get 13 rfl).1 1).trans rfl
  have hxb10_0_w25 : w25.cell? ⟨w7.heap.size, 0, none⟩ = some (.int .i64 X0) := (blk_cell (HLw25.out.get 7 rfl).1 0).trans rfl
  have hxb10_1_w25 : w25.cell? ⟨w7.heap.size, 1, none⟩ = some (.slice Aw7 X1.length cw7) := (blk_cell (HLw25.out.get 7 rfl).1 1).trans rfl
  go_wp2_with fail
  (with_reducible refine (laws_toIntS.calls k _ _ l1 X2 _ (Kd.C_below HR1.out (HBw25.out)) HC1.out F2.out).mono ?_)
  rintro e w26 ⟨vw26_0, rfl, how26_0, hbw26⟩
  obtain ⟨Aw26, cw26, rfl⟩ := Kd.R_slice how26_0
  obtain ⟨low26, hiw26, hlw26⟩ := Live.make_R HLw25.out hbw26 how26_0 (below_size (HBw25.out))
  have HLw26 := Aside0.mk hlw26
  clear hlw26 how26_0
  have HBw26 := Aside0.mk (below_step (HBw25.out) (hbw26))
  clear hbw26
  have hxb3_0_w26 : w26.cell? ⟨W.heap.size, 0, none⟩ = some (.int .i64 a0) := (blk_cell (HLw26.out.get 14 rfl).1 0).trans rfl
  have hxb3_1_w26 : w26.cell? ⟨W.heap.size, 1, none⟩ = some (.slice A0 l0.length c0) := (blk_cell (HLw26.out.get 14 rfl).1 1).trans rfl
  have hxb10_0_w26 : w26.cell? ⟨w7.heap.size, 0, none⟩ = some (.int .i64 X0) := (blk_cell (HLw26.out.get 8 rfl).1 0).trans rfl
  have hxb10_1_w26 : w26.cell? ⟨w7.heap.size, 1, none⟩ = some (.slice Aw7 X1.length cw7) := (blk_cell (HLw26.out.get 8 rfl).1 1).trans rfl
  go_wp2_with fail
  (with_reducible refine (laws_toIntS.calls k _ _ l2 X3 _ (Kd.C_below HR2.out (HBw26.out)) HC2.out F3.out).mono ?_)
  rintro e w27 ⟨vw27_0, rfl, how27_0, hbw27⟩
  obtain ⟨Aw27, cw27, rfl⟩ := Kd.R_slice how27_0
  obtain ⟨low27, hiw27, hlw27⟩ := Live.make_R HLw26.out hbw27 how27_0 (below_size (HBw26.out))
  have HLw27 := Aside0.mk hlw27
  clear hlw27 how27_0
  have HBw27 := Aside0.mk (below_step (HBw26.out) (hbw27))
  clear hbw27
  have hxb3_0_w27 : w27.cell? ⟨W.heap.size, 0, none⟩ = some (.int .i64 a0) := (blk_cell (HLw27.out.get 15 rfl).1 0).trans rfl
  have hxb3_1_w27 : w27.cell? ⟨W.heap.size, 1, none⟩ = some (.slice A0 l0.length c0) := (blk_cell (HLw27.out.get 15 rfl).1 1).trans rfl
  have hxb10_0_w27 : w27.cell? ⟨w7.heap.size, 0, none⟩ = some (.int .i64 X0) := (blk_cell (HLw27.out.get 9 rfl).1 0).trans rfl
  have hxb10_1_w27 : w27.cell? ⟨w7.heap.size, 1, none⟩ = some (.slice Aw7 X1.length cw7) := (blk_cell (HLw27.out.get 9 rfl).1 1).trans rfl
  go_wp2_with fail
  (with_reducible refine (impl_PushCongruence.calls k X0 _ _ X1 _ _ X2 _ _ X3 X4 X5 _ (Kd.S_reads' (HLw27.out.get 2 rfl)).2.2 (Kd.S_reads' (HLw27.out.get 2 rfl)).2.1 (Kd.R_reads' (HLw27.out.get 1 rfl)).2.2 (Kd.R_reads' (HLw27.out.get 1 rfl)).2.1 (Kd.R_reads' (HLw27.out.get 0 rfl)).2.2 (Kd.R_reads' (HLw27.out.get 0 rfl)).2.1 F5.out).mono ?_)
  rintro e w28 ⟨vw28_0, rfl, how28_0, hbw28⟩
  obtain ⟨Aw28, cw28, rfl⟩ := Kd.R_slice how28_0
  obtain ⟨low28, hiw28, hlw28⟩ := Live.make_R HLw27.out hbw28 how28_0 (below_size (HBw27.out))
  have HLw28 := Aside0.mk hlw28
  clear hlw28 how28_0
  have HBw28 := Aside0.mk (below_step (HBw27.out) (hbw28))
  clear hbw28
  have hxb3_0_w28 : w28.cell? ⟨W.heap.size, 0, none⟩ = some (.int .i64 a0) := (blk_cell (HLw28.out.get 16 rfl).1 0).trans rfl
  have hxb3_1_w28 : w28.cell? ⟨W.heap.size, 1, none⟩ = some (.slice A0 l0.length c0) := (blk_cell (HLw28.out.get 16 rfl).1 1).trans rfl
  have hxb10_0_w28 : w28.cell? ⟨w7.heap.size, 0, none⟩ = some (.int .i64 X0) := (blk_cell (HLw28.out.get 10 rfl).1 0).trans rfl
  have hxb10_1_w28 : w28.cell? ⟨w7.heap.size, 1, none⟩ = some (.slice Aw7 X1.length cw7) := (blk_cell (HLw28.out.get 10 rfl).1 1).trans rfl
  go_wp2_with fail
  (with_reducible refine (laws_eqIntS.calls k _ _ X4 _ _ X4 true _ (Kd.R_reads' (HLw28.out.get 0 rfl)).2.2 (Kd.R_reads' (HLw28.out.get 0 rfl)).2.1 (Kd.R_reads' (HLw28.out.get 12 rfl)).2.2 (Kd.R_reads' (HLw28.out.get 12 rfl)).2.1 F6.out).mono ?_)
  rintro e w29 ⟨rfl, hbw29⟩
  have HLw29 := Aside0.mk (HLw28.out.below hbw29.below)
  have HBw29 := Aside0.mk (below_step (HBw28.out) (hbw29.below))
  clear hbw29
  have hxb3_0_w29 : w29.cell? ⟨W.heap.size, 0, none⟩ = some (.int .i64 a0) := (blk_cell (HLw29.out.get 16 rfl).1 0).trans rfl
  have hxb3_1_w29 : w29.cell? ⟨W.heap.size, 1, none⟩ = some (.slice A0 l0.length c0) := (blk_cell (HLw29.out.get 16 rfl).1 1).trans rfl
  have hxb10_0_w29 : w29.cell? ⟨w7.heap.size, 0, none⟩ = some (.int .i64 X0) := (blk_cell (HLw29.out.get 10 rfl).1 0).trans rfl
  have hxb10_1_w29 : w29.cell? ⟨w7.heap.size, 1, none⟩ = some (.slice Aw7 X1.length cw7) := (blk_cell (HLw29.out.get 10 rfl).1 1).trans rfl
  go_wp2_with fail
  have r_ := (Kd.R_reads' (HLw29.out.get 7 rfl)).2
  have q_ := laws_heldIntS.calls k _ _ (asc X4.length 1) 1 (1 + (X4.length : Int)) _ (by first | exact r_.2 | (rw [asc_length]; exact r_.2)) (by first | exact r_.1 | (rw [asc_length]; exact r_.1)) F13.out
  rw [asc_length] at q_
  (with_reducible refine q_.mono ?_)
  clear q_ r_
  rintro e w30 ⟨rfl, hbw30⟩
  have HLw30 := Aside0.mk (HLw29.out.below hbw30.below)
  have HBw30 := Aside0.mk (below_step (HBw29.out) (hbw30.below))
  clear hbw30
  have hxb3_0_w30 : w30.cell? ⟨W.heap.size, 0, none⟩ = some (.int .i64 a0) := (blk_cell (HLw30.out.get 16 rfl).1 0).trans rfl
  have hxb3_1_w30 : w30.cell? ⟨W.heap.size, 1, none⟩ = some (.slice A0 l0.length c0) := (blk_cell (HLw30.out.get 16 rfl).1 1).trans rfl
  have hxb10_0_w30 : w30.cell? ⟨w7.heap.size, 0, none⟩ = some (.int .i64 X0) := (blk_cell (HLw30.out.get 10 rfl).1 0).trans rfl
  have hxb10_1_w30 : w30.cell? ⟨w7.heap.size, 1, none⟩ = some (.slice Aw7 X1.length cw7) := (blk_cell (HLw30.out.get 10 rfl).1 1).trans rfl
  go_wp2
  go_ret
  exact ⟨rfl, HBw30.out⟩
end Go.Proofs.Ytnnbgfphinemfaa
