/- Part 5 of the proof of the law FnExactBlockLists: functions and lists that say what the Go code computes, and that it does; no condition beside those that each theorem states. -/
import Derived.Test.YtgockfnhgmlhoaaZFnExactBlockListsd
import Derived.Deep.RegionHeld3
namespace Go.Proofs.Ytgockfnhgmlhoaa
open Go.RowKit Go.Proofs.YtgockfnhgmlhoaaW.PrintWords Go.Proofs.YtgockfnhgmlhoaaW.PrintLast Go.Proofs.YtgockfnhgmlhoaaW.PrintMore Go.Proofs.Ytgockfnhgmlhoaa.Live Go.Proofs.Ytgockfnhgmlhoaa.Q
set_option linter.unusedVariables false
set_option linter.unusedSimpArgs false
set_option maxRecDepth 100000
set_option maxHeartbeats 8000000 in
theorem Walk.FnExactBlockLists (a0 : Int) (A0 : Option Addr) (c0 : Nat) (l0 : List (Q.S77)) (A1 : Option Addr) (c1 : Nat) (l1 : List (List (Int))) (W : World) (hr0 : Kd.C k77 W A0 l0.length l0) (hc0 : l0.length ≤ c0) (hr1 : Kd.C (Kd.slice 3 (Kd.int .i64)) W A1 l1.length l1) (hc1 : l1.length ≤ c1) (g0 : (Lit.int .i64 a0).wf = true) (hm0 : l0.length ≤ maxLen) (hg0 : ∀ x ∈ l0, (Lit.int .i64 x.f0).wf = true ∧ x.f1.length ≤ maxLen ∧ ∀ y_x ∈ x.f1, (Lit.int .i64 y_x).wf = true) (hm1 : l1.length ≤ maxLen) (hg1 : ∀ x ∈ l1, x.length ≤ maxLen ∧ ∀ y_x ∈ x, (Lit.int .i64 y_x).wf = true) :
    Calls Try.prog 8 #[.agg #[.int .i64 a0, .slice A0 l0.length c0], .slice A1 l1.length c1] W fun e w' => e = .returned (.bool true) ∧ Below W.heap.size W w' := by
  have P := fun (_ : True) => Pure.FnExactBlockLists a0 l0 l1 g0 hm0 hg0 hm1 hg1
  have hu24 := Try.underlying24
  have hu31 := Try.underlying31
  have hu39 := Try.underlying39
  have HR0 := Aside0.mk hr0
  have HC0 := Aside0.mk hc0
  have hm0_ : l0.length ≤ 9223372036854775807 := by unfold maxLen at hm0; omega
  have HR1 := Aside0.mk hr1
  have HC1 := Aside0.mk hc1
  have hm1_ : l1.length ≤ 9223372036854775807 := by unfold maxLen at hm1; omega
  clear hr0 hc0 hr1 hc1 g0 hm0 hg0 hm1 hg1
  obtain ⟨k, P⟩ := P trivial
  obtain ⟨t0, hF0, P⟩ := P
  have F0 := Aside0.mk hF0
  clear hF0
  have HP2 := Aside0.mk P
  clear P
  by_cases d2 : t0 < 0
  · have q2 : decide (t0 < 0) = true := decide_eq_true d2
    go_enter Try.func8, Try.ntmps8
    obtain ⟨lox1, hix1, HLx1⟩ := Live.make_box (Live.nil W) (.cells #[.int .i64 a0, .slice A0 l0.length c0] 24) (W.heap.size) (by simp)
    go_wp2_with fail
    (with_reducible refine (laws_szAlgebra.calls k a0 _ _ l0 1048576 t0 _ (Kd.C_below HR0.out (below_alloc (Below.refl _ _) _)) HC0.out F0.out).mono ?_)
    rintro e w2 ⟨rfl, hbw2⟩
    have HLw2 := Aside0.mk (HLx1.below hbw2)
    have HBw2 := Aside0.mk (below_step (below_alloc (Below.refl _ _) _) (hbw2))
    clear hbw2
    have hxb2_0_w2 : w2.cell? ⟨W.heap.size, 0, none⟩ = some (.int .i64 a0) := (blk_cell (HLw2.out.get 0 rfl).1 0).trans rfl
    have hxb2_1_w2 : w2.cell? ⟨W.heap.size, 1, none⟩ = some (.slice A0 l0.length c0) := (blk_cell (HLw2.out.get 0 rfl).1 1).trans rfl
    go_wp2
    go_ret
    exact ⟨rfl, HBw2.out⟩
  have q2 : decide (t0 < 0) = false := decide_eq_false d2
  have P := HP2.out (by omega)
  clear HP2
  obtain ⟨t1, hF1, P⟩ := P
  have F1 := Aside0.mk hF1
  clear hF1
  have HP4 := Aside0.mk P
  clear P
  by_cases d4 : t1 < 0
  · have q4 : decide (t1 < 0) = true := decide_eq_true d4
    go_enter Try.func8, Try.ntmps8
    obtain ⟨lox1, hix1, HLx1⟩ := Live.make_box (Live.nil W) (.cells #[.int .i64 a0, .slice A0 l0.length c0] 24) (W.heap.size) (by simp)
    go_wp2_with fail
    (with_reducible refine (laws_szAlgebra.calls k a0 _ _ l0 1048576 t0 _ (Kd.C_below HR0.out (below_alloc (Below.refl _ _) _)) HC0.out F0.out).mono ?_)
    rintro e w2 ⟨rfl, hbw2⟩
    have HLw2 := Aside0.mk (HLx1.below hbw2)
    have HBw2 := Aside0.mk (below_step (below_alloc (Below.refl _ _) _) (hbw2))
    clear hbw2
    have hxb2_0_w2 : w2.cell? ⟨W.heap.size, 0, none⟩ = some (.int .i64 a0) := (blk_cell (HLw2.out.get 0 rfl).1 0).trans rfl
    have hxb2_1_w2 : w2.cell? ⟨W.heap.size, 1, none⟩ = some (.slice A0 l0.length c0) := (blk_cell (HLw2.out.get 0 rfl).1 1).trans rfl
    go_wp2_with fail
    (with_reducible refine (laws_szIntSS.calls k _ _ l1 t0 t1 _ (Kd.C_below HR1.out (HBw2.out)) HC1.out F1.out).mono ?_)
    rintro e w3 ⟨rfl, hbw3⟩
    have HLw3 := Aside0.mk (HLw2.out.below hbw3.below)
    have HBw3 := Aside0.mk (below_step (HBw2.out) (hbw3.below))
    clear hbw3
    have hxb2_0_w3 : w3.cell? ⟨W.heap.size, 0, none⟩ = some (.int .i64 a0) := (blk_cell (HLw3.out.get 0 rfl).1 0).trans rfl
    have hxb2_1_w3 : w3.cell? ⟨W.heap.size, 1, none⟩ = some (.slice A0 l0.length c0) := (blk_cell (HLw3.out.get 0 rfl).1 1).trans rfl
    go_wp2
    go_ret
    exact ⟨rfl, HBw3.out⟩
  have q4 : decide (t1 < 0) = false := decide_eq_false d4
  have P := HP4.out (by omega)
  clear HP4
  obtain ⟨X0, X1, X2, X3, X4, hF2, hF3, hF4, hF5, hF6, hF7, hF8, hF9, hB0, hB1, hB2⟩ := P
  have F2 := Aside0.mk hF2
  have F3 := Aside0.mk hF3
  have F4 := Aside0.mk hF4
  have F5 := Aside0.mk hF5
  have F6 := Aside0.mk hF6
  have F7 := Aside0.mk hF7
  have F8 := Aside0.mk hF8
  have F9 := Aside0.mk hF9
  have HBD := Aside0.mk (show (1 + (totO X1 : Int)) ≤ 4611686018427387904 ∧ ((1 + (totO X1 : Int)) + (tot X2 : Int)) ≤ 4611686018427387904 ∧ (1 + (tot X3 : Int)) ≤ 4611686018427387904 from ⟨hB0, hB1, hB2⟩)
  clear hF2 hF3 hF4 hF5 hF6 hF7 hF8 hF9 hB0 hB1 hB2
  have hneX0 : (X0 != X0) = false := bne_self_eq_false X0
  have hneX4 : (X4 != X4) = false := bne_self_eq_false X4
  go_enter Try.func8, Try.ntmps8
  obtain ⟨lox1, hix1, HLx1⟩ := Live.make_box (Live.nil W) (.cells #[.int .i64 a0, .slice A0 l0.length c0] 24) (W.heap.size) (by simp)
  go_wp2_with fail
  (with_reducible refine (laws_szAlgebra.calls k a0 _ _ l0 1048576 t0 _ (Kd.C_below HR0.out (below_alloc (Below.refl _ _) _)) HC0.out F0.out).mono ?_)
  rintro e w2 ⟨rfl, hbw2⟩
  have HLw2 := Aside0.mk (HLx1.below hbw2)
  have HBw2 := Aside0.mk (below_step (below_alloc (Below.refl _ _) _) (hbw2))
  clear hbw2
  have hxb2_0_w2 : w2.cell? ⟨W.heap.size, 0, none⟩ = some (.int .i64 a0) := (blk_cell (HLw2.out.get 0 rfl).1 0).trans rfl
  have hxb2_1_w2 : w2.cell? ⟨W.heap.size, 1, none⟩ = some (.slice A0 l0.length c0) := (blk_cell (HLw2.out.get 0 rfl).1 1).trans rfl
  go_wp2_with fail
  (with_reducible refine (laws_szIntSS.calls k _ _ l1 t0 t1 _ (Kd.C_below HR1.out (HBw2.out)) HC1.out F1.out).mono ?_)
  rintro e w3 ⟨rfl, hbw3⟩
  have HLw3 := Aside0.mk (HLw2.out.below hbw3.below)
  have HBw3 := Aside0.mk (below_step (HBw2.out) (hbw3.below))
  clear hbw3
  have hxb2_0_w3 : w3.cell? ⟨W.heap.size, 0, none⟩ = some (.int .i64 a0) := (blk_cell (HLw3.out.get 0 rfl).1 0).trans rfl
  have hxb2_1_w3 : w3.cell? ⟨W.heap.size, 1, none⟩ = some (.slice A0 l0.length c0) := (blk_cell (HLw3.out.get 0 rfl).1 1).trans rfl
  go_wp2_with fail
  (with_reducible refine (laws_toAlgebra.calls k a0 _ _ l0 X0 X1 _ (Kd.C_below HR0.out (HBw3.out)) HC0.out F2.out).mono ?_)
  rintro e w4 ⟨vw4_0, rfl, how4_0, hbw4⟩
  obtain ⟨Aw4, cw4, rfl⟩ := Kd.S_slice how4_0
  obtain ⟨low4, hiw4, hlw4⟩ := Live.make_S HLw3.out hbw4 how4_0 (below_size (HBw3.out))
  have HLw4 := Aside0.mk hlw4
  clear hlw4 how4_0
  have HBw4 := Aside0.mk (below_step (HBw3.out) (hbw4))
  clear hbw4
  have hxb2_0_w4 : w4.cell? ⟨W.heap.size, 0, none⟩ = some (.int .i64 a0) := (blk_cell (HLw4.out.get 1 rfl).1 0).trans rfl
  have hxb2_1_w4 : w4.cell? ⟨W.heap.size, 1, none⟩ = some (.slice A0 l0.length c0) := (blk_cell (HLw4.out.get 1 rfl).1 1).trans rfl
  go_wp2_with fail
  (with_reducible refine (laws_toIntSS.calls k _ _ l1 X2 _ (Kd.C_below HR1.out (HBw4.out)) HC1.out F3.out).mono ?_)
  rintro e w5 ⟨vw5_0, rfl, how5_0, hbw5⟩
  obtain ⟨Aw5, cw5, rfl⟩ := Kd.S_slice how5_0
  obtain ⟨low5, hiw5, hlw5⟩ := Live.make_S HLw4.out hbw5 how5_0 (below_size (HBw4.out))
  have HLw5 := Aside0.mk hlw5
  clear hlw5 how5_0
  have HBw5 := Aside0.mk (below_step (HBw4.out) (hbw5))
  clear hbw5
  have hxb2_0_w5 : w5.cell? ⟨W.heap.size, 0, none⟩ = some (.int .i64 a0) := (blk_cell (HLw5.out.get 2 rfl).1 0).trans rfl
  have hxb2_1_w5 : w5.cell? ⟨W.heap.size, 1, none⟩ = some (.slice A0 l0.length c0) := (blk_cell (HLw5.out.get 2 rfl).1 1).trans rfl
  go_wp2_with fail
  (with_reducible refine (spec_BlockLists.calls k X0 _ _ X1 _ _ X2 X3 X4 _ (Kd.S_reads' (HLw5.out.get 1 rfl)).2.2 (Kd.S_reads' (HLw5.out.get 1 rfl)).2.1 (Kd.S_reads' (HLw5.out.get 0 rfl)).2.2 (Kd.S_reads' (HLw5.out.get 0 rfl)).2.1 F4.out).mono ?_)
  rintro e w6 ⟨vw6_0, rfl, how6_0, hbw6⟩
  obtain ⟨Aw6, cw6, rfl⟩ := Kd.S_slice how6_0
  obtain ⟨low6, hiw6, hlw6⟩ := Live.make_S HLw5.out hbw6 how6_0 (below_size (HBw5.out))
  have HLw6 := Aside0.mk hlw6
  clear hlw6 how6_0
  have HBw6 := Aside0.mk (below_step (HBw5.out) (hbw6))
  clear hbw6
  have hxb2_0_w6 : w6.cell? ⟨W.heap.size, 0, none⟩ = some (.int .i64 a0) := (blk_cell (HLw6.out.get 3 rfl).1 0).trans rfl
  have hxb2_1_w6 : w6.cell? ⟨W.heap.size, 1, none⟩ = some (.slice A0 l0.length c0) := (blk_cell (HLw6.out.get 3 rfl).1 1).trans rfl
  go_wp2_with fail
  (with_reducible refine (laws_toAlgebra.calls k a0 _ _ l0 X0 X1 _ (Kd.C_below HR0.out (HBw6.out)) HC0.out F2.out).mono ?_)
  rintro e w7 ⟨vw7_0, rfl, how7_0, hbw7⟩
  obtain ⟨Aw7, cw7, rfl⟩ := Kd.S_slice how7_0
  obtain ⟨low7, hiw7, hlw7⟩ := Live.make_S HLw6.out hbw7 how7_0 (below_size (HBw6.out))
  have HLw7 := Aside0.mk hlw7
  clear hlw7 how7_0
  have HBw7 := Aside0.mk (below_step (HBw6.out) (hbw7))
  clear hbw7
  have hxb2_0_w7 : w7.cell? ⟨W.heap.size, 0, none⟩ = some (.int .i64 a0) := (blk_cell (HLw7.out.get 4 rfl).1 0).trans rfl
  have hxb2_1_w7 : w7.cell? ⟨W.heap.size, 1, none⟩ = some (.slice A0 l0.length c0) := (blk_cell (HLw7.out.get 4 rfl).1 1).trans rfl
  obtain ⟨lox8, hix8, HLx8⟩ := Live.make_box HLw7.out (.cells #[.int .i64 X0, .slice Aw7 X1.length cw7] 31) (w7.heap.size) (by simp)
  have hxb2_0_w7allocce : (w7.alloc (.cells #[.int .i64 X0, .slice Aw7 X1.length cw7] 31)).cell? ⟨W.heap.size, 0, none⟩ = some (.int .i64 a0) := (blk_cell (HLx8.get 5 rfl).1 0).trans rfl
  have hxb2_1_w7allocce : (w7.alloc (.cells #[.int .i64 X0, .slice Aw7 X1.length cw7] 31)).cell? ⟨W.heap.size, 1, none⟩ = some (.slice A0 l0.length c0) := (blk_cell (HLx8.get 5 rfl).1 1).trans rfl
  go_wp2_with fail
  (with_reducible refine (laws_toIntSS.calls k _ _ l1 X2 _ (Kd.C_below HR1.out (below_alloc (HBw7.out) _)) HC1.out F3.out).mono ?_)
  rintro e w9 ⟨vw9_0, rfl, how9_0, hbw9⟩
  obtain ⟨Aw9, cw9, rfl⟩ := Kd.S_slice how9_0
  obtain ⟨low9, hiw9, hlw9⟩ := Live.make_S HLx8 hbw9 how9_0 (below_size (below_alloc (HBw7.out) _))
  have HLw9 := Aside0.mk hlw9
  clear hlw9 how9_0
  have HBw9 := Aside0.mk (below_step (below_alloc (HBw7.out) _) (hbw9))
  clear hbw9
  have hxb2_0_w9 : w9.cell? ⟨W.heap.size, 0, none⟩ = some (.int .i64 a0) := (blk_cell (HLw9.out.get 6 rfl).1 0).trans rfl
  have hxb2_1_w9 : w9.cell? ⟨W.heap.size, 1, none⟩ = some (.slice A0 l0.length c0) := (blk_cell (HLw9.out.get 6 rfl).1 1).trans rfl
  have hxb8_0_w9 : w9.cell? ⟨w7.heap.size, 0, none⟩ = some (.int .i64 X0) := (blk_cell (HLw9.out.get 1 rfl).1 0).trans rfl
  have hxb8_1_w9 : w9.cell? ⟨w7.heap.size, 1, none⟩ = some (.slice Aw7 X1.length cw7) := (blk_cell (HLw9.out.get 1 rfl).1 1).trans rfl
  go_wp2_with fail
  (with_reducible refine (impl_BlockLists.calls k X0 _ _ X1 _ _ X2 X3 X4 _ (Kd.S_reads' (HLw9.out.get 2 rfl)).2.2 (Kd.S_reads' (HLw9.out.get 2 rfl)).2.1 (Kd.S_reads' (HLw9.out.get 0 rfl)).2.2 (Kd.S_reads' (HLw9.out.get 0 rfl)).2.1 F5.out).mono ?_)
  rintro e w10 ⟨vw10_0, rfl, how10_0, hbw10⟩
  obtain ⟨Aw10, cw10, rfl⟩ := Kd.S_slice how10_0
  obtain ⟨low10, hiw10, hlw10⟩ := Live.make_S HLw9.out hbw10 how10_0 (below_size (HBw9.out))
  have HLw10 := Aside0.mk hlw10
  clear hlw10 how10_0
  have HBw10 := Aside0.mk (below_step (HBw9.out) (hbw10))
  clear hbw10
  have hxb2_0_w10 : w10.cell? ⟨W.heap.size, 0, none⟩ = some (.int .i64 a0) := (blk_cell (HLw10.out.get 7 rfl).1 0).trans rfl
  have hxb2_1_w10 : w10.cell? ⟨W.heap.size, 1, none⟩ = some (.slice A0 l0.length c0) := (blk_cell (HLw10.out.get 7 rfl).1 1).trans rfl
  have hxb8_0_w10 : w10.cell? ⟨w7.heap.size, 0, none⟩ = some (.int .i64 X0) := (blk_cell (HLw10.out.get 2 rfl).1 0).trans rfl
  have hxb8_1_w10 : w10.cell? ⟨w7.heap.size, 1, none⟩ = some (.slice Aw7 X1.length cw7) := (blk_cell (HLw10.out.get 2 rfl).1 1).trans rfl
  go_wp2_with fail
  (with_reducible refine (laws_eqIntSS.calls k _ _ X3 _ _ X3 true _ (Kd.S_reads' (HLw10.out.get 0 rfl)).2.2 (Kd.S_reads' (HLw10.out.get 0 rfl)).2.1 (Kd.S_reads' (HLw10.out.get 4 rfl)).2.2 (Kd.S_reads' (HLw10.out.get 4 rfl)).2.1 F6.out).mono ?_)
  rintro e w11 ⟨rfl, hbw11⟩
  have HLw11 := Aside0.mk (HLw10.out.below hbw11.below)
  have HBw11 := Aside0.mk (below_step (HBw10.out) (hbw11.below))
  clear hbw11
  have hxb2_0_w11 : w11.cell? ⟨W.heap.size, 0, none⟩ = some (.int .i64 a0) := (blk_cell (HLw11.out.get 7 rfl).1 0).trans rfl
  have hxb2_1_w11 : w11.cell? ⟨W.heap.size, 1, none⟩ = some (.slice A0 l0.length c0) := (blk_cell (HLw11.out.get 7 rfl).1 1).trans rfl
  have hxb8_0_w11 : w11.cell? ⟨w7.heap.size, 0, none⟩ = some (.int .i64 X0) := (blk_cell (HLw11.out.get 2 rfl).1 0).trans rfl
  have hxb8_1_w11 : w11.cell? ⟨w7.heap.size, 1, none⟩ = some (.slice Aw7 X1.length cw7) := (blk_cell (HLw11.out.get 2 rfl).1 1).trans rfl
  go_wp2_with fail
  go_region_held3 (fun w' => w'.cell? ⟨W.heap.size, 0, none⟩ = some (.int .i64 a0) ∧ w'.cell? ⟨W.heap.size, 1, none⟩ = some (.slice A0 l0.length c0) ∧ w'.cell? ⟨w7.heap.size, 0, none⟩ = some (.int .i64 X0) ∧ w'.cell? ⟨w7.heap.size, 1, none⟩ = some (.slice Aw7 X1.length cw7)) (first | (simp [*]; done) | go_keep) (first | (go_at_call 13; (with_reducible refine (laws_toAlgebra.calls k a0 _ _ l0 X0 X1 _ (Kd.C_below HR0.out (below_drew1 (HBw11.out))) HC0.out F2.out).mono ?_); rintro e w12 ⟨vw12_0, rfl, how12_0, hbw12⟩; obtain ⟨Aw12, cw12, rfl⟩ := Kd.S_slice how12_0; obtain ⟨low12, hiw12, hlw12⟩ := Live.make_S (Live.drew HLw11.out) hbw12 how12_0 (below_size (below_drew1 (HBw11.out))); have HLw12 := Aside0.mk hlw12; clear hlw12 how12_0; have HBw12 := Aside0.mk (below_step (below_drew1 (HBw11.out)) (hbw12)); clear hbw12; have hxb2_0_w12 : w12.cell? ⟨W.heap.size, 0, none⟩ = some (.int .i64 a0) := (blk_cell (HLw12.out.get 8 rfl).1 0).trans rfl; have hxb2_1_w12 : w12.cell? ⟨W.heap.size, 1, none⟩ = some (.slice A0 l0.length c0) := (blk_cell (HLw12.out.get 8 rfl).1 1).trans rfl; have hxb8_0_w12 : w12.cell? ⟨w7.heap.size, 0, none⟩ = some (.int .i64 X0) := (blk_cell (HLw12.out.get 3 rfl).1 0).trans rfl; have hxb8_1_w12 : w12.cell? ⟨w7.heap.size, 1, none⟩ = some (.slice Aw7 X1.length cw7) := (blk_cell (HLw12.out.get 3 rfl).1 1).trans rfl) | (go_at_call 17; (with_reducible refine (laws_eqAlgebra.calls k X0 _ _ X1 X0 _ _ X1 true _ (Kd.S_reads' (HLw12.out.get 4 rfl)).2.2 (Kd.S_reads' (HLw12.out.get 4 rfl)).2.1 (Kd.S_reads' (HLw12.out.get 0 rfl)).2.2 (Kd.S_reads' (HLw12.out.get 0 rfl)).2.1 F7.out).mono ?_); rintro e w13 ⟨rfl, hbw13⟩; have HLw13 := Aside0.mk (HLw12.out.below hbw13); have HBw13 := Aside0.mk (below_step (HBw12.out) (hbw13)); clear hbw13; have hxb2_0_w13 : w13.cell? ⟨W.heap.size, 0, none⟩ = some (.int .i64 a0) := (blk_cell (HLw13.out.get 8 rfl).1 0).trans rfl; have hxb2_1_w13 : w13.cell? ⟨W.heap.size, 1, none⟩ = some (.slice A0 l0.length c0) := (blk_cell (HLw13.out.get 8 rfl).1 1).trans rfl; have hxb8_0_w13 : w13.cell? ⟨w7.heap.size, 0, none⟩ = some (.int .i64 X0) := (blk_cell (HLw13.out.get 3 rfl).1 0).trans rfl; have hxb8_1_w13 : w13.cell? ⟨w7.heap.size, 1, none⟩ = some (.slice Aw7 X1.length cw7) := (blk_cell (HLw13.out.get 3 rfl).1 1).trans rfl))
  go_wp2_with fail
  (with_reducible refine (laws_toIntSS.calls k _ _ l1 X2 _ (Kd.C_below HR1.out (HBw13.out)) HC1.out F3.out).mono ?_)
  rintro e w14 ⟨vw14_0, rfl, how14_0, hbw14⟩
  obtain ⟨Aw14, cw14, rfl⟩ := Kd.S_slice how14_0
  obtain ⟨low14, hiw14, hlw14⟩ := Live.make_S HLw13.out hbw14 how14_0 (below_size (HBw13.out))
  have HLw14 := Aside0.mk hlw14
  clear hlw14 how14_0
  have HBw14 := Aside0.mk (below_step (HBw13.out) (hbw14))
  clear hbw14
  have hxb2_0_w14 : w14.cell? ⟨W.heap.size, 0, none⟩ = some (.int .i64 a0) := (blk_cell (HLw14.out.get 9 rfl).1 0).trans rfl
  have hxb2_1_w14 : w14.cell? ⟨W.heap.size, 1, none⟩ = some (.slice A0 l0.length c0) := (blk_cell (HLw14.out.get 9 rfl).1 1).trans rfl
  have hxb8_0_w14 : w14.cell? ⟨w7.heap.size, 0, none⟩ = some (.int .i64 X0) := (blk_cell (HLw14.out.get 4 rfl).1 0).trans rfl
  have hxb8_1_w14 : w14.cell? ⟨w7.heap.size, 1, none⟩ = some (.slice Aw7 X1.length cw7) := (blk_cell (HLw14.out.get 4 rfl).1 1).trans rfl
  go_wp2_with fail
  (with_reducible refine (laws_eqIntSS.calls k _ _ X2 _ _ X2 true _ (Kd.S_reads' (HLw14.out.get 3 rfl)).2.2 (Kd.S_reads' (HLw14.out.get 3 rfl)).2.1 (Kd.S_reads' (HLw14.out.get 0 rfl)).2.2 (Kd.S_reads' (HLw14.out.get 0 rfl)).2.1 F8.out).mono ?_)
  rintro e w15 ⟨rfl, hbw15⟩
  have HLw15 := Aside0.mk (HLw14.out.below hbw15.below)
  have HBw15 := Aside0.mk (below_step (HBw14.out) (hbw15.below))
  clear hbw15
  have hxb2_0_w15 : w15.cell? ⟨W.heap.size, 0, none⟩ = some (.int .i64 a0) := (blk_cell (HLw15.out.get 9 rfl).1 0).trans rfl
  have hxb2_1_w15 : w15.cell? ⟨W.heap.size, 1, none⟩ = some (.slice A0 l0.length c0) := (blk_cell (HLw15.out.get 9 rfl).1 1).trans rfl
  have hxb8_0_w15 : w15.cell? ⟨w7.heap.size, 0, none⟩ = some (.int .i64 X0) := (blk_cell (HLw15.out.get 4 rfl).1 0).trans rfl
  have hxb8_1_w15 : w15.cell? ⟨w7.heap.size, 1, none⟩ = some (.slice Aw7 X1.length cw7) := (blk_cell (HLw15.out.get 4 rfl).1 1).trans rfl
  go_wp2_with fail
  (with_reducible refine (laws_markAlgebra.marks X0 (fun k => low7 ≤ k ∧ k < hiw7) _ X1 1 W _ (HBw15.out) (HLw15.out.get 5 rfl) (by have := HBD.out; omega) (by have := HBD.out; omega)).mono ?_)
  rintro e w16 ⟨rfl, hm1, hm2, hm3⟩
  have HLw16 := Aside0.mk (Live.mark HLw15.out 5 rfl hm3 (seg_S hm1 (fun k hk _ _ => hk) (Nat.le_refl _)))
  have HBw16 := Aside0.mk hm2
  clear hm1 hm2 hm3
  have hxb2_0_w16 : w16.cell? ⟨W.heap.size, 0, none⟩ = some (.int .i64 a0) := (blk_cell (HLw16.out.get 9 rfl).1 0).trans rfl
  have hxb2_1_w16 : w16.cell? ⟨W.heap.size, 1, none⟩ = some (.slice A0 l0.length c0) := (blk_cell (HLw16.out.get 9 rfl).1 1).trans rfl
  have hxb8_0_w16 : w16.cell? ⟨w7.heap.size, 0, none⟩ = some (.int .i64 X0) := (blk_cell (HLw16.out.get 4 rfl).1 0).trans rfl
  have hxb8_1_w16 : w16.cell? ⟨w7.heap.size, 1, none⟩ = some (.slice Aw7 X1.length cw7) := (blk_cell (HLw16.out.get 4 rfl).1 1).trans rfl
  go_wp2_with fail
  (with_reducible refine (laws_markIntSS.marks (fun k => low9 ≤ k ∧ k < hiw9) _ X2 (1 + (totO X1 : Int)) W _ (HBw16.out) (HLw16.out.get 3 rfl) (by have := HBD.out; omega) (by have := HBD.out; omega)).mono ?_)
  rintro e w17 ⟨rfl, hm1, hm2, hm3⟩
  have HLw17 := Aside0.mk (Live.mark HLw16.out 3 rfl hm3 (seg_S hm1 (fun k hk _ _ => hk) (Nat.le_refl _)))
  have HBw17 := Aside0.mk hm2
  clear hm1 hm2 hm3
  have hxb2_0_w17 : w17.cell? ⟨W.heap.size, 0, none⟩ = some (.int .i64 a0) := (blk_cell (HLw17.out.get 9 rfl).1 0).trans rfl
  have hxb2_1_w17 : w17.cell? ⟨W.heap.size, 1, none⟩ = some (.slice A0 l0.length c0) := (blk_cell (HLw17.out.get 9 rfl).1 1).trans rfl
  have hxb8_0_w17 : w17.cell? ⟨w7.heap.size, 0, none⟩ = some (.int .i64 X0) := (blk_cell (HLw17.out.get 4 rfl).1 0).trans rfl
  have hxb8_1_w17 : w17.cell? ⟨w7.heap.size, 1, none⟩ = some (.slice Aw7 X1.length cw7) := (blk_cell (HLw17.out.get 4 rfl).1 1).trans rfl
  go_wp2_with fail
  (with_reducible refine (laws_eqIntSS.calls k _ _ X3 _ _ X3 true _ (Kd.S_reads' (HLw17.out.get 2 rfl)).2.2 (Kd.S_reads' (HLw17.out.get 2 rfl)).2.1 (Kd.S_reads' (HLw17.out.get 6 rfl)).2.2 (Kd.S_reads' (HLw17.out.get 6 rfl)).2.1 F6.out).mono ?_)
  rintro e w18 ⟨rfl, hbw18⟩
  have HLw18 := Aside0.mk (HLw17.out.below hbw18.below)
  have HBw18 := Aside0.mk (below_step (HBw17.out) (hbw18.below))
  clear hbw18
  have hxb2_0_w18 : w18.cell? ⟨W.heap.size, 0, none⟩ = some (.int .i64 a0) := (blk_cell (HLw18.out.get 9 rfl).1 0).trans rfl
  have hxb2_1_w18 : w18.cell? ⟨W.heap.size, 1, none⟩ = some (.slice A0 l0.length c0) := (blk_cell (HLw18.out.get 9 rfl).1 1).trans rfl
  have hxb8_0_w18 : w18.cell? ⟨w7.heap.size, 0, none⟩ = some (.int .i64 X0) := (blk_cell (HLw18.out.get 4 rfl).1 0).trans rfl
  have hxb8_1_w18 : w18.cell? ⟨w7.heap.size, 1, none⟩ = some (.slice Aw7 X1.length cw7) := (blk_cell (HLw18.out.get 4 rfl).1 1).trans rfl
  go_wp2_with fail
  (with_reducible refine (laws_markIntSS.marks (fun k => low10 ≤ k ∧ k < hiw10) _ X3 1 W _ (HBw18.out) (HLw18.out.get 2 rfl) (by have := HBD.out; omega) (by have := HBD.out; omega)).mono ?_)
  rintro e w19 ⟨rfl, hm1, hm2, hm3⟩
  have HLw19 := Aside0.mk (Live.mark HLw18.out 2 rfl hm3 (seg_S hm1 (fun k hk _ _ => hk) (Nat.le_refl _)))
  have HBw19 := Aside0.mk hm2
  clear hm1 hm2 hm3
  have hxb2_0_w19 : w19.cell? ⟨W.heap.size, 0, none⟩ = some (.int .i64 a0) := (blk_cell (HLw19.out.get 9 rfl).1 0).trans rfl
  have hxb2_1_w19 : w19.cell? ⟨W.heap.size, 1, none⟩ = some (.slice A0 l0.length c0) := (blk_cell (HLw19.out.get 9 rfl).1 1).trans rfl
  have hxb8_0_w19 : w19.cell? ⟨w7.heap.size, 0, none⟩ = some (.int .i64 X0) := (blk_cell (HLw19.out.get 4 rfl).1 0).trans rfl
  have hxb8_1_w19 : w19.cell? ⟨w7.heap.size, 1, none⟩ = some (.slice Aw7 X1.length cw7) := (blk_cell (HLw19.out.get 4 rfl).1 1).trans rfl
  go_wp2_with fail
  have r_ := (Kd.S_reads' (HLw19.out.get 2 rfl)).2
  have q_ := laws_heldIntSS.calls k _ _ (ascs X3 1) 1 (1 + (tot X3 : Int)) _ (by first | exact r_.2 | (rw [ascs_length]; exact r_.2)) (by first | exact r_.1 | (rw [ascs_length]; exact r_.1)) F9.out
  rw [ascs_length] at q_
  (with_reducible refine q_.mono ?_)
  clear q_ r_
  rintro e w20 ⟨rfl, hbw20⟩
  have HLw20 := Aside0.mk (HLw19.out.below hbw20.below)
  have HBw20 := Aside0.mk (below_step (HBw19.out) (hbw20.below))
  clear hbw20
  have hxb2_0_w20 : w20.cell? ⟨W.heap.size, 0, none⟩ = some (.int .i64 a0) := (blk_cell (HLw20.out.get 9 rfl).1 0).trans rfl
  have hxb2_1_w20 : w20.cell? ⟨W.heap.size, 1, none⟩ = some (.slice A0 l0.length c0) := (blk_cell (HLw20.out.get 9 rfl).1 1).trans rfl
  have hxb8_0_w20 : w20.cell? ⟨w7.heap.size, 0, none⟩ = some (.int .i64 X0) := (blk_cell (HLw20.out.get 4 rfl).1 0).trans rfl
  have hxb8_1_w20 : w20.cell? ⟨w7.heap.size, 1, none⟩ = some (.slice Aw7 X1.length cw7) := (blk_cell (HLw20.out.get 4 rfl).1 1).trans rfl
  go_wp2_with fail
  (with_reducible refine (laws_toAlgebra.calls k a0 _ _ l0 X0 X1 _ (Kd.C_below HR0.out (HBw20.out)) HC0.out F2.out).mono ?_)
  rintro e w21 ⟨vw21_0, rfl, how21_0, hbw21⟩
  obtain ⟨Aw21, cw21, rfl⟩ := Kd.S_slice how21_0
  obtain ⟨low21, hiw21, hlw21⟩ := Live.make_S HLw20.out hbw21 how21_0 (below_size (HBw20.out))
  have HLw21 := Aside0.mk hlw21
  clear hlw21 how21_0
  have HBw21 := Aside0.mk (below_step (HBw20.out) (hbw21))
  clear hbw21
  have hxb2_0_w21 : w21.cell? ⟨W.heap.size, 0, none⟩ = some (.int .i64 a0) := (blk_cell (HLw21.out.get 10 rfl).1 0).trans rfl
  have hxb2_1_w21 : w21.cell? ⟨W.heap.size, 1, none⟩ = some (.slice A0 l0.length c0) := (blk_cell (HLw21.out.get 10 rfl).1 1).trans rfl
  have hxb8_0_w21 : w21.cell? ⟨w7.heap.size, 0, none⟩ = some (.int .i64 X0) := (blk_cell (HLw21.out.get 5 rfl).1 0).trans rfl
  have hxb8_1_w21 : w21.cell? ⟨w7.heap.size, 1, none⟩ = some (.slice Aw7 X1.length cw7) := (blk_cell (HLw21.out.get 5 rfl).1 1).trans rfl
  go_wp2_with fail
  (with_reducible refine (laws_toIntSS.calls k _ _ l1 X2 _ (Kd.C_below HR1.out (HBw21.out)) HC1.out F3.out).mono ?_)
  rintro e w22 ⟨vw22_0, rfl, how22_0, hbw22⟩
  obtain ⟨Aw22, cw22, rfl⟩ := Kd.S_slice how22_0
  obtain ⟨low22, hiw22, hlw22⟩ := Live.make_S HLw21.out hbw22 how22_0 (below_size (HBw21.out))
  have HLw22 := Aside0.mk hlw22
  clear hlw22 how22_0
  have HBw22 := Aside0.mk (below_step (HBw21.out) (hbw22))
  clear hbw22
  have hxb2_0_w22 : w22.cell? ⟨W.heap.size, 0, none⟩ = some (.int .i64 a0) := (blk_cell (HLw22.out.get 11 rfl).1 0).trans rfl
  have hxb2_1_w22 : w22.cell? ⟨W.heap.size, 1, none⟩ = some (.slice A0 l0.length c0) := (blk_cell (HLw22.out.get 11 rfl).1 1).trans rfl
  have hxb8_0_w22 : w22.cell? ⟨w7.heap.size, 0, none⟩ = some (.int .i64 X0) := (blk_cell (HLw22.out.get 6 rfl).1 0).trans rfl
  have hxb8_1_w22 : w22.cell? ⟨w7.heap.size, 1, none⟩ = some (.slice Aw7 X1.length cw7) := (blk_cell (HLw22.out.get 6 rfl).1 1).trans rfl
  go_wp2_with fail
  (with_reducible refine (impl_BlockLists.calls k X0 _ _ X1 _ _ X2 X3 X4 _ (Kd.S_reads' (HLw22.out.get 1 rfl)).2.2 (Kd.S_reads' (HLw22.out.get 1 rfl)).2.1 (Kd.S_reads' (HLw22.out.get 0 rfl)).2.2 (Kd.S_reads' (HLw22.out.get 0 rfl)).2.1 F5.out).mono ?_)
  rintro e w23 ⟨vw23_0, rfl, how23_0, hbw23⟩
  obtain ⟨Aw23, cw23, rfl⟩ := Kd.S_slice how23_0
  obtain ⟨low23, hiw23, hlw23⟩ := Live.make_S HLw22.out hbw23 how23_0 (below_size (HBw22.out))
  have HLw23 := Aside0.mk hlw23
  clear hlw23 how23_0
  have HBw23 := Aside0.mk (below_step (HBw22.out) (hbw23))
  clear hbw23
  have hxb2_0_w23 : w23.cell? ⟨W.heap.size, 0, none⟩ = some (.int .i64 a0) := (blk_cell (HLw23.out.get 12 rfl).1 0).trans rfl
  have hxb2_1_w23 : w23.cell? ⟨W.heap.size, 1, none⟩ = some (.slice A0 l0.length c0) := (blk_cell (HLw23.out.get 12 rfl).1 1).trans rfl
  have hxb8_0_w23 : w23.cell? ⟨w7.heap.size, 0, none⟩ = some (.int .i64 X0) := (blk_cell (HLw23.out.get 7 rfl).1 0).trans rfl
  have hxb8_1_w23 : w23.cell? ⟨w7.heap.size, 1, none⟩ = some (.slice Aw7 X1.length cw7) := (blk_cell (HLw23.out.get 7 rfl).1 1).trans rfl
  go_wp2_with fail
  (with_reducible refine (laws_eqIntSS.calls k _ _ X3 _ _ X3 true _ (Kd.S_reads' (HLw23.out.get 0 rfl)).2.2 (Kd.S_reads' (HLw23.out.get 0 rfl)).2.1 (Kd.S_reads' (HLw23.out.get 9 rfl)).2.2 (Kd.S_reads' (HLw23.out.get 9 rfl)).2.1 F6.out).mono ?_)
  rintro e w24 ⟨rfl, hbw24⟩
  have HLw24 := Aside0.mk (HLw23.out.below hbw24.below)
  have HBw24 := Aside0.mk (below_step (HBw23.out) (hbw24.below))
  clear hbw24
  have hxb2_0_w24 : w24.cell? ⟨W.heap.size, 0, none⟩ = some (.int .i64 a0) := (blk_cell (HLw24.out.get 12 rfl).1 0).trans rfl
  have hxb2_1_w24 : w24.cell? ⟨W.heap.size, 1, none⟩ = some (.slice A0 l0.length c0) := (blk_cell (HLw24.out.get 12 rfl).1 1).trans rfl
  have hxb8_0_w24 : w24.cell? ⟨w7.heap.size, 0, none⟩ = some (.int .i64 X0) := (blk_cell (HLw24.out.get 7 rfl).1 0).trans rfl
  have hxb8_1_w24 : w24.cell? ⟨w7.heap.size, 1, none⟩ = some (.slice Aw7 X1.length cw7) := (blk_cell (HLw24.out.get 7 rfl).1 1).trans rfl
  go_wp2_with fail
  have r_ := (Kd.S_reads' (HLw24.out.get 5 rfl)).2
  have q_ := laws_heldIntSS.calls k _ _ (ascs X3 1) 1 (1 + (tot X3 : Int)) _ (by first | exact r_.2 | (rw [ascs_length]; exact r_.2)) (by first | exact r_.1 | (rw [ascs_length]; exact r_.1)) F9.out
  rw [ascs_length] at q_
  (with_reducible refine q_.mono ?_)
  clear q_ r_
  rintro e w25 ⟨rfl, hbw25⟩
  have HLw25 := Aside0.mk (HLw24.out.below hbw25.below)
  have HBw25 := Aside0.mk (below_step (HBw24.out) (hbw25.below))
  clear hbw25
  have hxb2_0_w25 : w25.cell? ⟨W.heap.size, 0, none⟩ = some (.int .i64 a0) := (blk_cell (HLw25.out.get 12 rfl).1 0).trans rfl
  have hxb2_1_w25 : w25.cell? ⟨W.heap.size, 1, none⟩ = some (.slice A0 l0.length c0) := (blk_cell (HLw25.out.get 12 rfl).1 1).trans rfl
  have hxb8_0_w25 : w25.cell? ⟨w7.heap.size, 0, none⟩ = some (.int .i64 X0) := (blk_cell (HLw25.out.get 7 rfl).1 0).trans rfl
  have hxb8_1_w25 : w25.cell? ⟨w7.heap.size, 1, none⟩ = some (.slice Aw7 X1.length cw7) := (blk_cell (HLw25.out.get 7 rfl).1 1).trans rfl
  go_wp2
  go_ret
  exact ⟨rfl, HBw25.out⟩
end Go.Proofs.Ytgockfnhgmlhoaa
