/- Part 5 of the proof of the law FnExactProductOf: functions and lists that say what the Go code computes, and that it does; no condition beside those that each theorem states. -/
import Derived.Test.YtccjheikjcpgmaaZFnExactProductOfd
import Derived.Deep.RegionHeld3
namespace Go.Proofs.Ytccjheikjcpgmaa
open Go.RowKit Go.Proofs.YtccjheikjcpgmaaW.PrintWords Go.Proofs.YtccjheikjcpgmaaW.PrintLast Go.Proofs.YtccjheikjcpgmaaW.PrintMore Go.Proofs.Ytccjheikjcpgmaa.Live Go.Proofs.Ytccjheikjcpgmaa.Q
set_option linter.unusedVariables false
set_option linter.unusedSimpArgs false
set_option maxRecDepth 100000
set_option maxHeartbeats 40000000 in
theorem Walk.FnExactProductOf (a0 : Int) (A0 : Option Addr) (c0 : Nat) (l0 : List (Q.S37)) (a1 : Int) (A1 : Option Addr) (c1 : Nat) (l1 : List (Q.S37)) (W : World) (hr0 : Kd.C k37 W A0 l0.length l0) (hc0 : l0.length ≤ c0) (hr1 : Kd.C k37 W A1 l1.length l1) (hc1 : l1.length ≤ c1) (g0 : (Lit.int .i64 a0).wf = true) (hm0 : l0.length ≤ maxLen) (hg0 : ∀ x ∈ l0, (Lit.int .i64 x.f0).wf = true ∧ x.f1.length ≤ maxLen ∧ ∀ y_x ∈ x.f1, (Lit.int .i64 y_x).wf = true) (g1 : (Lit.int .i64 a1).wf = true) (hm1 : l1.length ≤ maxLen) (hg1 : ∀ x ∈ l1, (Lit.int .i64 x.f0).wf = true ∧ x.f1.length ≤ maxLen ∧ ∀ y_x ∈ x.f1, (Lit.int .i64 y_x).wf = true) :
  Calls Try.prog 3 #[.agg #[.int .i64 a0, .slice A0 l0.length c0], .agg #[.int .i64 a1, .slice A1 l1.length c1]] W fun e w' => e = .returned (.bool true) ∧ Below W.heap.size W w' := by
 have P := fun (_ : True) => Pure.FnExactProductOf a0 l0 a1 l1 g0 hm0 hg0 g1 hm1 hg1
 have hu24 := Try.underlying24
 have hu28 := Try.underlying28
 have HR0 := Aside0.mk hr0
 have HC0 := Aside0.mk hc0
 have hm0_ : l0.length ≤ 9223372036854775807 := by unfold maxLen at hm0; omega
 have HR1 := Aside0.mk hr1
 have HC1 := Aside0.mk hc1
 have hm1_ : l1.length ≤ 9223372036854775807 := by unfold maxLen at hm1; omega
 clear hr0 hc0 hr1 hc1 g0 hm0 hg0 g1 hm1 hg1
 obtain ⟨k, P⟩ := P trivial
 obtain ⟨t0, hF0, P⟩ := P
 have F0 := Aside0.mk hF0
 clear hF0
 have HP3 := Aside0.mk P
 clear P
 by_cases d3 : t0 < 0
 ·have q3 : decide (t0 < 0) = true := decide_eq_true d3
  go_enter Try.func3, Try.ntmps3
  obtain ⟨lox1, hix1, HLx1⟩ := Live.make_box (Live.nil W) (.cells #[.int .i64 a0, .slice A0 l0.length c0] 24) (W.heap.size) (by simp)
  obtain ⟨lox2, hix2, HLx2⟩ := Live.make_box HLx1 (.cells #[.int .i64 a1, .slice A1 l1.length c1] 24) (W.heap.size + 1) (by simp)
  go_wp2_with fail
  (with_reducible refine (laws_szAlgebra.calls k a0 _ _ l0 1048576 t0 _ (Kd.C_below HR0.out (below_alloc (below_alloc (Below.refl _ _) _) _)) HC0.out F0.out).mono ?_)
  rintro e w3 ⟨rfl, hbw3⟩
  have HLw3 := Aside0.mk (HLx2.below hbw3)
  have HBw3 := Aside0.mk (below_step (below_alloc (below_alloc (Below.refl _ _) _) _) (hbw3))
  clear hbw3
  obtain ⟨hxb2_0_w3, hxb2_1_w3⟩ := cells2 (g := W.heap.size) (HLw3.out.get 1 rfl).1
  obtain ⟨hxb3_0_w3, hxb3_1_w3⟩ := cells2 (g := W.heap.size + 1) (HLw3.out.get 0 rfl).1
  go_wp2
  go_ret
  exact ⟨rfl, HBw3.out⟩
 have q3 : decide (t0 < 0) = false := decide_eq_false d3
 have P := HP3.out (by omega)
 clear HP3
 obtain ⟨t1, hF1, P⟩ := P
 have F1 := Aside0.mk hF1
 clear hF1
 have HP5 := Aside0.mk P
 clear P
 by_cases d5 : t1 < 0
 ·have q5 : decide (t1 < 0) = true := decide_eq_true d5
  go_enter Try.func3, Try.ntmps3
  obtain ⟨lox1, hix1, HLx1⟩ := Live.make_box (Live.nil W) (.cells #[.int .i64 a0, .slice A0 l0.length c0] 24) (W.heap.size) (by simp)
  obtain ⟨lox2, hix2, HLx2⟩ := Live.make_box HLx1 (.cells #[.int .i64 a1, .slice A1 l1.length c1] 24) (W.heap.size + 1) (by simp)
  go_wp2_with fail
  (with_reducible refine (laws_szAlgebra.calls k a0 _ _ l0 1048576 t0 _ (Kd.C_below HR0.out (below_alloc (below_alloc (Below.refl _ _) _) _)) HC0.out F0.out).mono ?_)
  rintro e w3 ⟨rfl, hbw3⟩
  have HLw3 := Aside0.mk (HLx2.below hbw3)
  have HBw3 := Aside0.mk (below_step (below_alloc (below_alloc (Below.refl _ _) _) _) (hbw3))
  clear hbw3
  obtain ⟨hxb2_0_w3, hxb2_1_w3⟩ := cells2 (g := W.heap.size) (HLw3.out.get 1 rfl).1
  obtain ⟨hxb3_0_w3, hxb3_1_w3⟩ := cells2 (g := W.heap.size + 1) (HLw3.out.get 0 rfl).1
  go_wp2_with fail
  (with_reducible refine (laws_szAlgebra.calls k a1 _ _ l1 t0 t1 _ (Kd.C_below HR1.out (HBw3.out)) HC1.out F1.out).mono ?_)
  rintro e w4 ⟨rfl, hbw4⟩
  have HLw4 := Aside0.mk (HLw3.out.below hbw4)
  have HBw4 := Aside0.mk (below_step (HBw3.out) (hbw4))
  clear hbw4
  obtain ⟨hxb2_0_w4, hxb2_1_w4⟩ := cells2 (g := W.heap.size) (HLw4.out.get 1 rfl).1
  obtain ⟨hxb3_0_w4, hxb3_1_w4⟩ := cells2 (g := W.heap.size + 1) (HLw4.out.get 0 rfl).1
  go_wp2
  go_ret
  exact ⟨rfl, HBw4.out⟩
 have q5 : decide (t1 < 0) = false := decide_eq_false d5
 have P := HP5.out (by omega)
 clear HP5
 obtain ⟨X0, X1, X2, X3, X4, X5, X6, hF2, hF3, hF4, hF5, hF6, hF7, hF8, hF9, hB0, hB1, hB2⟩ := P
 have F2 := Aside0.mk hF2
 have F3 := Aside0.mk hF3
 have F4 := Aside0.mk hF4
 have F5 := Aside0.mk hF5
 have F6 := Aside0.mk hF6
 have F7 := Aside0.mk hF7
 have F8 := Aside0.mk hF8
 have F9 := Aside0.mk hF9
 have HBD := Aside0.mk (show (1 + (totO X1 : Int)) ≤ 4611686018427387904 ∧ ((1 + (totO X1 : Int)) + (totO X3 : Int)) ≤ 4611686018427387904 ∧ (1 + (totO X5 : Int)) ≤ 4611686018427387904 from ⟨hB0, hB1, hB2⟩)
 clear hF2 hF3 hF4 hF5 hF6 hF7 hF8 hF9 hB0 hB1 hB2
 have hneX0 : (X0 != X0) = false := bne_self_eq_false X0
 have hneX2 : (X2 != X2) = false := bne_self_eq_false X2
 have hneX4 : (X4 != X4) = false := bne_self_eq_false X4
 have hneX6 : (X6 != X6) = false := bne_self_eq_false X6
 go_enter Try.func3, Try.ntmps3
 obtain ⟨lox1, hix1, HLx1⟩ := Live.make_box (Live.nil W) (.cells #[.int .i64 a0, .slice A0 l0.length c0] 24) (W.heap.size) (by simp)
 obtain ⟨lox2, hix2, HLx2⟩ := Live.make_box HLx1 (.cells #[.int .i64 a1, .slice A1 l1.length c1] 24) (W.heap.size + 1) (by simp)
 go_wp2_with fail
 (with_reducible refine (laws_szAlgebra.calls k a0 _ _ l0 1048576 t0 _ (Kd.C_below HR0.out (below_alloc (below_alloc (Below.refl _ _) _) _)) HC0.out F0.out).mono ?_)
 rintro e w3 ⟨rfl, hbw3⟩
 have HLw3 := Aside0.mk (HLx2.below hbw3)
 have HBw3 := Aside0.mk (below_step (below_alloc (below_alloc (Below.refl _ _) _) _) (hbw3))
 clear hbw3
 obtain ⟨hxb2_0_w3, hxb2_1_w3⟩ := cells2 (g := W.heap.size) (HLw3.out.get 1 rfl).1
 obtain ⟨hxb3_0_w3, hxb3_1_w3⟩ := cells2 (g := W.heap.size + 1) (HLw3.out.get 0 rfl).1
 go_wp2_with fail
 (with_reducible refine (laws_szAlgebra.calls k a1 _ _ l1 t0 t1 _ (Kd.C_below HR1.out (HBw3.out)) HC1.out F1.out).mono ?_)
 rintro e w4 ⟨rfl, hbw4⟩
 have HLw4 := Aside0.mk (HLw3.out.below hbw4)
 have HBw4 := Aside0.mk (below_step (HBw3.out) (hbw4))
 clear hbw4
 obtain ⟨hxb2_0_w4, hxb2_1_w4⟩ := cells2 (g := W.heap.size) (HLw4.out.get 1 rfl).1
 obtain ⟨hxb3_0_w4, hxb3_1_w4⟩ := cells2 (g := W.heap.size + 1) (HLw4.out.get 0 rfl).1
 go_wp2_with fail
 go_region_held3 (fun w' => w'.cell? ⟨W.heap.size, 0, none⟩ = some (.int .i64 a0) ∧ w'.cell? ⟨W.heap.size, 1, none⟩ = some (.slice A0 l0.length c0) ∧ w'.cell? ⟨W.heap.size + 1, 0, none⟩ = some (.int .i64 a1) ∧ w'.cell? ⟨W.heap.size + 1, 1, none⟩ = some (.slice A1 l1.length c1)) (first | (simp [*]; done) | go_keep) (first | (go_at_call 9; (with_reducible refine (laws_toAlgebra.calls k a0 _ _ l0 X0 X1 _ (Kd.C_below HR0.out (below_drew1 (HBw4.out))) HC0.out F2.out).mono ?_); rintro e w5 ⟨vw5_0, rfl, how5_0, hbw5⟩; obtain ⟨Aw5, cw5, rfl⟩ := Kd.S_slice how5_0; obtain ⟨low5, hiw5, hlw5⟩ := Live.make_S (Live.drew HLw4.out) hbw5 how5_0 (below_size (below_drew1 (HBw4.out))); have HLw5 := Aside0.mk hlw5; clear hlw5 how5_0; have HBw5 := Aside0.mk (below_step (below_drew1 (HBw4.out)) (hbw5)); clear hbw5; obtain ⟨hxb2_0_w5, hxb2_1_w5⟩ := cells2 (g := W.heap.size) (HLw5.out.get 2 rfl).1; obtain ⟨hxb3_0_w5, hxb3_1_w5⟩ := cells2 (g := W.heap.size + 1) (HLw5.out.get 1 rfl).1) | (go_at_call 9; (with_reducible refine (laws_toAlgebra.calls k a1 _ _ l1 X2 X3 _ (Kd.C_below HR1.out (HBw5.out)) HC1.out F3.out).mono ?_); rintro e w6 ⟨vw6_0, rfl, how6_0, hbw6⟩; obtain ⟨Aw6, cw6, rfl⟩ := Kd.S_slice how6_0; obtain ⟨low6, hiw6, hlw6⟩ := Live.make_S HLw5.out hbw6 how6_0 (below_size (HBw5.out)); have HLw6 := Aside0.mk hlw6; clear hlw6 how6_0; have HBw6 := Aside0.mk (below_step (HBw5.out) (hbw6)); clear hbw6; obtain ⟨hxb2_0_w6, hxb2_1_w6⟩ := cells2 (g := W.heap.size) (HLw6.out.get 3 rfl).1; obtain ⟨hxb3_0_w6, hxb3_1_w6⟩ := cells2 (g := W.heap.size + 1) (HLw6.out.get 2 rfl).1) | (go_at_call 8; (with_reducible refine (spec_ProductOf.calls k X0 _ _ X1 X2 _ _ X3 X4 X5 X6 _ (Kd.S_reads' (HLw6.out.get 1 rfl)).2.2 (Kd.S_reads' (HLw6.out.get 1 rfl)).2.1 (Kd.S_reads' (HLw6.out.get 0 rfl)).2.2 (Kd.S_reads' (HLw6.out.get 0 rfl)).2.1 F4.out).mono ?_); rintro e w7 ⟨vw7_0, rfl, how7_0, hbw7⟩; obtain ⟨Aw7, cw7, rfl⟩ := Kd.S_slice how7_0; obtain ⟨low7, hiw7, hlw7⟩ := Live.make_S HLw6.out hbw7 how7_0 (below_size (HBw6.out)); have HLw7 := Aside0.mk hlw7; clear hlw7 how7_0; have HBw7 := Aside0.mk (below_step (HBw6.out) (hbw7)); clear hbw7; obtain ⟨hxb2_0_w7, hxb2_1_w7⟩ := cells2 (g := W.heap.size) (HLw7.out.get 4 rfl).1; obtain ⟨hxb3_0_w7, hxb3_1_w7⟩ := cells2 (g := W.heap.size + 1) (HLw7.out.get 3 rfl).1; have hna2_7 := Nat.ne_of_lt (blk_lt (HLw7.out.get 4 rfl).1); have hnb2_7 := hna2_7.symm; have hna3_7 := Nat.ne_of_lt (blk_lt (HLw7.out.get 3 rfl).1); have hnb3_7 := hna3_7.symm; obtain ⟨lox7z6, hix7z6, HLx7z6⟩ := Live.make_box HLw7.out (.cells #[.int .i64 0, .slice none 0 0] 28) (w7.heap.size) (by first | rfl | simp); have hGx7z6 := below_size (HBw7.out); have hz6_0 : (w7.alloc (.cells #[.int .i64 0, .slice none 0 0] 28)).cell? ⟨w7.heap.size, 0, none⟩ = some (.int .i64 0) := (blk_cell (HLx7z6.get 0 rfl).1 0).trans rfl; have hfz6_0 := blk_frozen (HLx7z6.get 0 rfl).1 0; have hz6_1 : (w7.alloc (.cells #[.int .i64 0, .slice none 0 0] 28)).cell? ⟨w7.heap.size, 1, none⟩ = some (.slice none 0 0) := (blk_cell (HLx7z6.get 0 rfl).1 1).trans rfl; have hfz6_1 := blk_frozen (HLx7z6.get 0 rfl).1 1) | (go_at_call 8; have hna2_6 := Nat.ne_of_lt (blk_lt (HLw6.out.get 3 rfl).1); have hnb2_6 := hna2_6.symm; have hna3_6 := Nat.ne_of_lt (blk_lt (HLw6.out.get 2 rfl).1); have hnb3_6 := hna3_6.symm; obtain ⟨lox6z6, hix6z6, HLx6z6⟩ := Live.make_box HLw6.out (.cells #[.int .i64 0, .slice none 0 0] 28) (w6.heap.size) (by first | rfl | simp); have hGx6z6 := below_size (HBw6.out); (with_reducible refine (spec_ProductOf.calls k X0 _ _ X1 X2 _ _ X3 X4 X5 X6 _ (Kd.S_reads' (HLx6z6.get 2 rfl)).2.2 (Kd.S_reads' (HLx6z6.get 2 rfl)).2.1 (Kd.S_reads' (HLx6z6.get 1 rfl)).2.2 (Kd.S_reads' (HLx6z6.get 1 rfl)).2.1 F4.out).mono ?_); rintro e w7 ⟨vw7_0, rfl, how7_0, hbw7⟩; obtain ⟨Aw7, cw7, rfl⟩ := Kd.S_slice how7_0; obtain ⟨low7, hiw7, hlw7⟩ := Live.make_S HLx6z6 hbw7 how7_0 (below_size (below_alloc (HBw6.out) _)); have HLw7 := Aside0.mk hlw7; clear hlw7 how7_0; have HBw7 := Aside0.mk (below_step (below_alloc (HBw6.out) _) (hbw7)); clear hbw7; obtain ⟨hxb2_0_w7, hxb2_1_w7⟩ := cells2 (g := W.heap.size) (HLw7.out.get 5 rfl).1; obtain ⟨hxb3_0_w7, hxb3_1_w7⟩ := cells2 (g := W.heap.size + 1) (HLw7.out.get 4 rfl).1; have hz6_0 : w7.cell? ⟨w6.heap.size, 0, none⟩ = some (.int .i64 0) := (blk_cell (HLw7.out.get 1 rfl).1 0).trans rfl; have hfz6_0 := blk_frozen (HLw7.out.get 1 rfl).1 0; have hz6_1 : w7.cell? ⟨w6.heap.size, 1, none⟩ = some (.slice none 0 0) := (blk_cell (HLw7.out.get 1 rfl).1 1).trans rfl; have hfz6_1 := blk_frozen (HLw7.out.get 1 rfl).1 1) | (go_at_call 9; have hna2_5 := Nat.ne_of_lt (blk_lt (HLw5.out.get 2 rfl).1); have hnb2_5 := hna2_5.symm; have hna3_5 := Nat.ne_of_lt (blk_lt (HLw5.out.get 1 rfl).1); have hnb3_5 := hna3_5.symm; obtain ⟨lox5z6, hix5z6, HLx5z6⟩ := Live.make_box HLw5.out (.cells #[.int .i64 0, .slice none 0 0] 28) (w5.heap.size) (by first | rfl | simp); have hGx5z6 := below_size (HBw5.out); (with_reducible refine (laws_toAlgebra.calls k a1 _ _ l1 X2 X3 _ (Kd.C_below HR1.out (below_alloc (HBw5.out) _)) HC1.out F3.out).mono ?_); rintro e w6 ⟨vw6_0, rfl, how6_0, hbw6⟩; obtain ⟨Aw6, cw6, rfl⟩ := Kd.S_slice how6_0; obtain ⟨low6, hiw6, hlw6⟩ := Live.make_S HLx5z6 hbw6 how6_0 (below_size (below_alloc (HBw5.out) _)); have HLw6 := Aside0.mk hlw6; clear hlw6 how6_0; have HBw6 := Aside0.mk (below_step (below_alloc (HBw5.out) _) (hbw6)); clear hbw6; obtain ⟨hxb2_0_w6, hxb2_1_w6⟩ := cells2 (g := W.heap.size) (HLw6.out.get 4 rfl).1; obtain ⟨hxb3_0_w6, hxb3_1_w6⟩ := cells2 (g := W.heap.size + 1) (HLw6.out.get 3 rfl).1) | (go_at_call 8; (with_reducible refine (spec_ProductOf.calls k X0 _ _ X1 X2 _ _ X3 X4 X5 X6 _ (Kd.S_reads' (HLw6.out.get 2 rfl)).2.2 (Kd.S_reads' (HLw6.out.get 2 rfl)).2.1 (Kd.S_reads' (HLw6.out.get 0 rfl)).2.2 (Kd.S_reads' (HLw6.out.get 0 rfl)).2.1 F4.out).mono ?_); rintro e w7 ⟨vw7_0, rfl, how7_0, hbw7⟩; obtain ⟨Aw7, cw7, rfl⟩ := Kd.S_slice how7_0; obtain ⟨low7, hiw7, hlw7⟩ := Live.make_S HLw6.out hbw7 how7_0 (below_size (HBw6.out)); have HLw7 := Aside0.mk hlw7; clear hlw7 how7_0; have HBw7 := Aside0.mk (below_step (HBw6.out) (hbw7)); clear hbw7; obtain ⟨hxb2_0_w7, hxb2_1_w7⟩ := cells2 (g := W.heap.size) (HLw7.out.get 5 rfl).1; obtain ⟨hxb3_0_w7, hxb3_1_w7⟩ := cells2 (g := W.heap.size + 1) (HLw7.out.get 4 rfl).1; have hz6_0 : w7.cell? ⟨w5.heap.size, 0, none⟩ = some (.int .i64 0) := (blk_cell (HLw7.out.get 2 rfl).1 0).trans rfl; have hfz6_0 := blk_frozen (HLw7.out.get 2 rfl).1 0; have hz6_1 : w7.cell? ⟨w5.heap.size, 1, none⟩ = some (.slice none 0 0) := (blk_cell (HLw7.out.get 2 rfl).1 1).trans rfl; have hfz6_1 := blk_frozen (HLw7.out.get 2 rfl).1 1) | (go_at_call 9; have hna2_4 := Nat.ne_of_lt (blk_lt (HLw4.out.get 1 rfl).1); have hnb2_4 := hna2_4.symm; have hna3_4 := Nat.ne_of_lt (blk_lt (HLw4.out.get 0 rfl).1); have hnb3_4 := hna3_4.symm; obtain ⟨lox4z6, hix4z6, HLx4z6⟩ := Live.make_box HLw4.out (.cells #[.int .i64 0, .slice none 0 0] 28) (w4.heap.size) (by first | rfl | simp); have hGx4z6 := below_size (HBw4.out); (with_reducible refine (laws_toAlgebra.calls k a0 _ _ l0 X0 X1 _ (Kd.C_below HR0.out (below_drew1 (below_alloc (HBw4.out) _))) HC0.out F2.out).mono ?_); rintro e w5 ⟨vw5_0, rfl, how5_0, hbw5⟩; obtain ⟨Aw5, cw5, rfl⟩ := Kd.S_slice how5_0; obtain ⟨low5, hiw5, hlw5⟩ := Live.make_S (Live.drew HLx4z6) hbw5 how5_0 (below_size (below_drew1 (below_alloc (HBw4.out) _))); have HLw5 := Aside0.mk hlw5; clear hlw5 how5_0; have HBw5 := Aside0.mk (below_step (below_drew1 (below_alloc (HBw4.out) _)) (hbw5)); clear hbw5; obtain ⟨hxb2_0_w5, hxb2_1_w5⟩ := cells2 (g := W.heap.size) (HLw5.out.get 3 rfl).1; obtain ⟨hxb3_0_w5, hxb3_1_w5⟩ := cells2 (g := W.heap.size + 1) (HLw5.out.get 2 rfl).1) | (go_at_call 9; (with_reducible refine (laws_toAlgebra.calls k a1 _ _ l1 X2 X3 _ (Kd.C_below HR1.out (HBw5.out)) HC1.out F3.out).mono ?_); rintro e w6 ⟨vw6_0, rfl, how6_0, hbw6⟩; obtain ⟨Aw6, cw6, rfl⟩ := Kd.S_slice how6_0; obtain ⟨low6, hiw6, hlw6⟩ := Live.make_S HLw5.out hbw6 how6_0 (below_size (HBw5.out)); have HLw6 := Aside0.mk hlw6; clear hlw6 how6_0; have HBw6 := Aside0.mk (below_step (HBw5.out) (hbw6)); clear hbw6; obtain ⟨hxb2_0_w6, hxb2_1_w6⟩ := cells2 (g := W.heap.size) (HLw6.out.get 4 rfl).1; obtain ⟨hxb3_0_w6, hxb3_1_w6⟩ := cells2 (g := W.heap.size + 1) (HLw6.out.get 3 rfl).1) | (go_at_call 8; (with_reducible refine (spec_ProductOf.calls k X0 _ _ X1 X2 _ _ X3 X4 X5 X6 _ (Kd.S_reads' (HLw6.out.get 1 rfl)).2.2 (Kd.S_reads' (HLw6.out.get 1 rfl)).2.1 (Kd.S_reads' (HLw6.out.get 0 rfl)).2.2 (Kd.S_reads' (HLw6.out.get 0 rfl)).2.1 F4.out).mono ?_); rintro e w7 ⟨vw7_0, rfl, how7_0, hbw7⟩; obtain ⟨Aw7, cw7, rfl⟩ := Kd.S_slice how7_0; obtain ⟨low7, hiw7, hlw7⟩ := Live.make_S HLw6.out hbw7 how7_0 (below_size (HBw6.out)); have HLw7 := Aside0.mk hlw7; clear hlw7 how7_0; have HBw7 := Aside0.mk (below_step (HBw6.out) (hbw7)); clear hbw7; obtain ⟨hxb2_0_w7, hxb2_1_w7⟩ := cells2 (g := W.heap.size) (HLw7.out.get 5 rfl).1; obtain ⟨hxb3_0_w7, hxb3_1_w7⟩ := cells2 (g := W.heap.size + 1) (HLw7.out.get 4 rfl).1; have hz6_0 : w7.cell? ⟨w4.heap.size, 0, none⟩ = some (.int .i64 0) := (blk_cell (HLw7.out.get 3 rfl).1 0).trans rfl; have hfz6_0 := blk_frozen (HLw7.out.get 3 rfl).1 0; have hz6_1 : w7.cell? ⟨w4.heap.size, 1, none⟩ = some (.slice none 0 0) := (blk_cell (HLw7.out.get 3 rfl).1 1).trans rfl; have hfz6_1 := blk_frozen (HLw7.out.get 3 rfl).1 1))
 ·obtain ⟨lox8, hix8, HLx8⟩ := Live.make_box HLw7.out (.cells #[.int .i64 X4, .slice Aw7 X5.length cw7] 28) (w7.heap.size) (by simp)
  obtain ⟨hxb2_0_w7allocce, hxb2_1_w7allocce⟩ := cells2 (g := W.heap.size) (HLx8.get 5 rfl).1
  obtain ⟨hxb3_0_w7allocce, hxb3_1_w7allocce⟩ := cells2 (g := W.heap.size + 1) (HLx8.get 4 rfl).1
  go_wp2_with fail
  (with_reducible refine (laws_toAlgebra.calls k a0 _ _ l0 X0 X1 _ (Kd.C_below HR0.out (below_alloc (HBw7.out) _)) HC0.out F2.out).mono ?_)
  rintro e w9 ⟨vw9_0, rfl, how9_0, hbw9⟩
  obtain ⟨Aw9, cw9, rfl⟩ := Kd.S_slice how9_0
  obtain ⟨low9, hiw9, hlw9⟩ := Live.make_S HLx8 hbw9 how9_0 (below_size (below_alloc (HBw7.out) _))
  have HLw9 := Aside0.mk hlw9
  clear hlw9 how9_0
  have HBw9 := Aside0.mk (below_step (below_alloc (HBw7.out) _) (hbw9))
  clear hbw9
  obtain ⟨hxb2_0_w9, hxb2_1_w9⟩ := cells2 (g := W.heap.size) (HLw9.out.get 6 rfl).1
  obtain ⟨hxb3_0_w9, hxb3_1_w9⟩ := cells2 (g := W.heap.size + 1) (HLw9.out.get 5 rfl).1
  obtain ⟨hxb6_0_w9, hxb6_1_w9⟩ := cells2 (g := w7.heap.size) (HLw9.out.get 1 rfl).1
  obtain ⟨lox10, hix10, HLx10⟩ := Live.make_box HLw9.out (.cells #[.int .i64 X0, .slice Aw9 X1.length cw9] 28) (w9.heap.size) (by simp)
  obtain ⟨hxb2_0_w9allocce, hxb2_1_w9allocce⟩ := cells2 (g := W.heap.size) (HLx10.get 7 rfl).1
  obtain ⟨hxb3_0_w9allocce, hxb3_1_w9allocce⟩ := cells2 (g := W.heap.size + 1) (HLx10.get 6 rfl).1
  obtain ⟨hxb6_0_w9allocce, hxb6_1_w9allocce⟩ := cells2 (g := w7.heap.size) (HLx10.get 2 rfl).1
  go_wp2_with fail
  (with_reducible refine (laws_toAlgebra.calls k a1 _ _ l1 X2 X3 _ (Kd.C_below HR1.out (below_alloc (HBw9.out) _)) HC1.out F3.out).mono ?_)
  rintro e w11 ⟨vw11_0, rfl, how11_0, hbw11⟩
  obtain ⟨Aw11, cw11, rfl⟩ := Kd.S_slice how11_0
  obtain ⟨low11, hiw11, hlw11⟩ := Live.make_S HLx10 hbw11 how11_0 (below_size (below_alloc (HBw9.out) _))
  have HLw11 := Aside0.mk hlw11
  clear hlw11 how11_0
  have HBw11 := Aside0.mk (below_step (below_alloc (HBw9.out) _) (hbw11))
  clear hbw11
  obtain ⟨hxb2_0_w11, hxb2_1_w11⟩ := cells2 (g := W.heap.size) (HLw11.out.get 8 rfl).1
  obtain ⟨hxb3_0_w11, hxb3_1_w11⟩ := cells2 (g := W.heap.size + 1) (HLw11.out.get 7 rfl).1
  obtain ⟨hxb6_0_w11, hxb6_1_w11⟩ := cells2 (g := w7.heap.size) (HLw11.out.get 3 rfl).1
  obtain ⟨hxb8_0_w11, hxb8_1_w11⟩ := cells2 (g := w9.heap.size) (HLw11.out.get 1 rfl).1
  obtain ⟨lox12, hix12, HLx12⟩ := Live.make_box HLw11.out (.cells #[.int .i64 X2, .slice Aw11 X3.length cw11] 28) (w11.heap.size) (by simp)
  obtain ⟨hxb2_0_w11allocc, hxb2_1_w11allocc⟩ := cells2 (g := W.heap.size) (HLx12.get 9 rfl).1
  obtain ⟨hxb3_0_w11allocc, hxb3_1_w11allocc⟩ := cells2 (g := W.heap.size + 1) (HLx12.get 8 rfl).1
  obtain ⟨hxb6_0_w11allocc, hxb6_1_w11allocc⟩ := cells2 (g := w7.heap.size) (HLx12.get 4 rfl).1
  obtain ⟨hxb8_0_w11allocc, hxb8_1_w11allocc⟩ := cells2 (g := w9.heap.size) (HLx12.get 2 rfl).1
  go_wp2_with fail
  (with_reducible refine (impl_ProductOf.calls k X0 _ _ X1 X2 _ _ X3 X4 X5 X6 _ (Kd.S_reads' (HLx12.get 3 rfl)).2.2 (Kd.S_reads' (HLx12.get 3 rfl)).2.1 (Kd.S_reads' (HLx12.get 1 rfl)).2.2 (Kd.S_reads' (HLx12.get 1 rfl)).2.1 F5.out).mono ?_)
  rintro e w13 ⟨vw13_0, rfl, how13_0, hbw13⟩
  obtain ⟨Aw13, cw13, rfl⟩ := Kd.S_slice how13_0
  obtain ⟨low13, hiw13, hlw13⟩ := Live.make_S HLx12 hbw13 how13_0 (below_size (below_alloc (HBw11.out) _))
  have HLw13 := Aside0.mk hlw13
  clear hlw13 how13_0
  have HBw13 := Aside0.mk (below_step (below_alloc (HBw11.out) _) (hbw13))
  clear hbw13
  obtain ⟨hxb2_0_w13, hxb2_1_w13⟩ := cells2 (g := W.heap.size) (HLw13.out.get 10 rfl).1
  obtain ⟨hxb3_0_w13, hxb3_1_w13⟩ := cells2 (g := W.heap.size + 1) (HLw13.out.get 9 rfl).1
  obtain ⟨hxb6_0_w13, hxb6_1_w13⟩ := cells2 (g := w7.heap.size) (HLw13.out.get 5 rfl).1
  obtain ⟨hxb8_0_w13, hxb8_1_w13⟩ := cells2 (g := w9.heap.size) (HLw13.out.get 3 rfl).1
  obtain ⟨hxb9_0_w13, hxb9_1_w13⟩ := cells2 (g := w11.heap.size) (HLw13.out.get 1 rfl).1
  obtain ⟨lox14, hix14, HLx14⟩ := Live.make_box HLw13.out (.cells #[.int .i64 X4, .slice Aw13 X5.length cw13] 28) (w13.heap.size) (by simp)
  obtain ⟨hxb2_0_w13allocc, hxb2_1_w13allocc⟩ := cells2 (g := W.heap.size) (HLx14.get 11 rfl).1
  obtain ⟨hxb3_0_w13allocc, hxb3_1_w13allocc⟩ := cells2 (g := W.heap.size + 1) (HLx14.get 10 rfl).1
  obtain ⟨hxb6_0_w13allocc, hxb6_1_w13allocc⟩ := cells2 (g := w7.heap.size) (HLx14.get 6 rfl).1
  obtain ⟨hxb8_0_w13allocc, hxb8_1_w13allocc⟩ := cells2 (g := w9.heap.size) (HLx14.get 4 rfl).1
  obtain ⟨hxb9_0_w13allocc, hxb9_1_w13allocc⟩ := cells2 (g := w11.heap.size) (HLx14.get 2 rfl).1
  go_wp2_with fail
  (with_reducible refine (laws_eqAlgebra.calls k X4 _ _ X5 X4 _ _ X5 true _ (Kd.S_reads' (HLx14.get 1 rfl)).2.2 (Kd.S_reads' (HLx14.get 1 rfl)).2.1 (Kd.S_reads' (HLx14.get 7 rfl)).2.2 (Kd.S_reads' (HLx14.get 7 rfl)).2.1 F6.out).mono ?_)
  rintro e w15 ⟨rfl, hbw15⟩
  have HLw15 := Aside0.mk (HLx14.below hbw15)
  have HBw15 := Aside0.mk (below_step (below_alloc (HBw13.out) _) (hbw15))
  clear hbw15
  obtain ⟨hxb2_0_w15, hxb2_1_w15⟩ := cells2 (g := W.heap.size) (HLw15.out.get 11 rfl).1
  obtain ⟨hxb3_0_w15, hxb3_1_w15⟩ := cells2 (g := W.heap.size + 1) (HLw15.out.get 10 rfl).1
  obtain ⟨hxb6_0_w15, hxb6_1_w15⟩ := cells2 (g := w7.heap.size) (HLw15.out.get 6 rfl).1
  obtain ⟨hxb8_0_w15, hxb8_1_w15⟩ := cells2 (g := w9.heap.size) (HLw15.out.get 4 rfl).1
  obtain ⟨hxb9_0_w15, hxb9_1_w15⟩ := cells2 (g := w11.heap.size) (HLw15.out.get 2 rfl).1
  obtain ⟨hxb10_0_w15, hxb10_1_w15⟩ := cells2 (g := w13.heap.size) (HLw15.out.get 0 rfl).1
  go_wp2_with fail
  go_region_held3 (fun w' => w'.cell? ⟨W.heap.size, 0, none⟩ = some (.int .i64 a0) ∧ w'.cell? ⟨W.heap.size, 1, none⟩ = some (.slice A0 l0.length c0) ∧ w'.cell? ⟨W.heap.size + 1, 0, none⟩ = some (.int .i64 a1) ∧ w'.cell? ⟨W.heap.size + 1, 1, none⟩ = some (.slice A1 l1.length c1) ∧ w'.cell? ⟨w7.heap.size, 0, none⟩ = some (.int .i64 X4) ∧ w'.cell? ⟨w7.heap.size, 1, none⟩ = some (.slice Aw7 X5.length cw7) ∧ w'.cell? ⟨w9.heap.size, 0, none⟩ = some (.int .i64 X0) ∧ w'.cell? ⟨w9.heap.size, 1, none⟩ = some (.slice Aw9 X1.length cw9) ∧ w'.cell? ⟨w11.heap.size, 0, none⟩ = some (.int .i64 X2) ∧ w'.cell? ⟨w11.heap.size, 1, none⟩ = some (.slice Aw11 X3.length cw11) ∧ w'.cell? ⟨w13.heap.size, 0, none⟩ = some (.int .i64 X4) ∧ w'.cell? ⟨w13.heap.size, 1, none⟩ = some (.slice Aw13 X5.length cw13)) (first | (simp [*]; done) | go_keep) (first | (go_at_call 9; (with_reducible refine (laws_toAlgebra.calls k a0 _ _ l0 X0 X1 _ (Kd.C_below HR0.out (below_drew1 (HBw15.out))) HC0.out F2.out).mono ?_); rintro e w16 ⟨vw16_0, rfl, how16_0, hbw16⟩; obtain ⟨Aw16, cw16, rfl⟩ := Kd.S_slice how16_0; obtain ⟨low16, hiw16, hlw16⟩ := Live.make_S (Live.drew HLw15.out) hbw16 how16_0 (below_size (below_drew1 (HBw15.out))); have HLw16 := Aside0.mk hlw16; clear hlw16 how16_0; have HBw16 := Aside0.mk (below_step (below_drew1 (HBw15.out)) (hbw16)); clear hbw16; obtain ⟨hxb2_0_w16, hxb2_1_w16⟩ := cells2 (g := W.heap.size) (HLw16.out.get 12 rfl).1; obtain ⟨hxb3_0_w16, hxb3_1_w16⟩ := cells2 (g := W.heap.size + 1) (HLw16.out.get 11 rfl).1; obtain ⟨hxb6_0_w16, hxb6_1_w16⟩ := cells2 (g := w7.heap.size) (HLw16.out.get 7 rfl).1; obtain ⟨hxb8_0_w16, hxb8_1_w16⟩ := cells2 (g := w9.heap.size) (HLw16.out.get 5 rfl).1; obtain ⟨hxb9_0_w16, hxb9_1_w16⟩ := cells2 (g := w11.heap.size) (HLw16.out.get 3 rfl).1; obtain ⟨hxb10_0_w16, hxb10_1_w16⟩ := cells2 (g := w13.heap.size) (HLw16.out.get 1 rfl).1) | (go_at_call 11; (with_reducible refine (laws_eqAlgebra.calls k X0 _ _ X1 X0 _ _ X1 true _ (Kd.S_reads' (HLw16.out.get 6 rfl)).2.2 (Kd.S_reads' (HLw16.out.get 6 rfl)).2.1 (Kd.S_reads' (HLw16.out.get 0 rfl)).2.2 (Kd.S_reads' (HLw16.out.get 0 rfl)).2.1 F7.out).mono ?_); rintro e w17 ⟨rfl, hbw17⟩; have HLw17 := Aside0.mk (HLw16.out.below hbw17); have HBw17 := Aside0.mk (below_step (HBw16.out) (hbw17)); clear hbw17; obtain ⟨hxb2_0_w17, hxb2_1_w17⟩ := cells2 (g := W.heap.size) (HLw17.out.get 12 rfl).1; obtain ⟨hxb3_0_w17, hxb3_1_w17⟩ := cells2 (g := W.heap.size + 1) (HLw17.out.get 11 rfl).1; obtain ⟨hxb6_0_w17, hxb6_1_w17⟩ := cells2 (g := w7.heap.size) (HLw17.out.get 7 rfl).1; obtain ⟨hxb8_0_w17, hxb8_1_w17⟩ := cells2 (g := w9.heap.size) (HLw17.out.get 5 rfl).1; obtain ⟨hxb9_0_w17, hxb9_1_w17⟩ := cells2 (g := w11.heap.size) (HLw17.out.get 3 rfl).1; obtain ⟨hxb10_0_w17, hxb10_1_w17⟩ := cells2 (g := w13.heap.size) (HLw17.out.get 1 rfl).1))
  go_wp2_with fail
  go_region_held3 (fun w' => w'.cell? ⟨W.heap.size, 0, none⟩ = some (.int .i64 a0) ∧ w'.cell? ⟨W.heap.size, 1, none⟩ = some (.slice A0 l0.length c0) ∧ w'.cell? ⟨W.heap.size + 1, 0, none⟩ = some (.int .i64 a1) ∧ w'.cell? ⟨W.heap.size + 1, 1, none⟩ = some (.slice A1 l1.length c1) ∧ w'.cell? ⟨w7.heap.size, 0, none⟩ = some (.int .i64 X4) ∧ w'.cell? ⟨w7.heap.size, 1, none⟩ = some (.slice Aw7 X5.length cw7) ∧ w'.cell? ⟨w9.heap.size, 0, none⟩ = some (.int .i64 X0) ∧ w'.cell? ⟨w9.heap.size, 1, none⟩ = some (.slice Aw9 X1.length cw9) ∧ w'.cell? ⟨w11.heap.size, 0, none⟩ = some (.int .i64 X2) ∧ w'.cell? ⟨w11.heap.size, 1, none⟩ = some (.slice Aw11 X3.length cw11) ∧ w'.cell? ⟨w13.heap.size, 0, none⟩ = some (.int .i64 X4) ∧ w'.cell? ⟨w13.heap.size, 1, none⟩ = some (.slice Aw13 X5.length cw13)) (first | (simp [*]; done) | go_keep) (first | (go_at_call 9; (with_reducible refine (laws_toAlgebra.calls k a1 _ _ l1 X2 X3 _ (Kd.C_below HR1.out (below_drew1 (HBw17.out))) HC1.out F3.out).mono ?_); rintro e w18 ⟨vw18_0, rfl, how18_0, hbw18⟩; obtain ⟨Aw18, cw18, rfl⟩ := Kd.S_slice how18_0; obtain ⟨low18, hiw18, hlw18⟩ := Live.make_S (Live.drew HLw17.out) hbw18 how18_0 (below_size (below_drew1 (HBw17.out))); have HLw18 := Aside0.mk hlw18; clear hlw18 how18_0; have HBw18 := Aside0.mk (below_step (below_drew1 (HBw17.out)) (hbw18)); clear hbw18; obtain ⟨hxb2_0_w18, hxb2_1_w18⟩ := cells2 (g := W.heap.size) (HLw18.out.get 13 rfl).1; obtain ⟨hxb3_0_w18, hxb3_1_w18⟩ := cells2 (g := W.heap.size + 1) (HLw18.out.get 12 rfl).1; obtain ⟨hxb6_0_w18, hxb6_1_w18⟩ := cells2 (g := w7.heap.size) (HLw18.out.get 8 rfl).1; obtain ⟨hxb8_0_w18, hxb8_1_w18⟩ := cells2 (g := w9.heap.size) (HLw18.out.get 6 rfl).1; obtain ⟨hxb9_0_w18, hxb9_1_w18⟩ := cells2 (g := w11.heap.size) (HLw18.out.get 4 rfl).1; obtain ⟨hxb10_0_w18, hxb10_1_w18⟩ := cells2 (g := w13.heap.size) (HLw18.out.get 2 rfl).1) | (go_at_call 11; (with_reducible refine (laws_eqAlgebra.calls k X2 _ _ X3 X2 _ _ X3 true _ (Kd.S_reads' (HLw18.out.get 5 rfl)).2.2 (Kd.S_reads' (HLw18.out.get 5 rfl)).2.1 (Kd.S_reads' (HLw18.out.get 0 rfl)).2.2 (Kd.S_reads' (HLw18.out.get 0 rfl)).2.1 F8.out).mono ?_); rintro e w19 ⟨rfl, hbw19⟩; have HLw19 := Aside0.mk (HLw18.out.below hbw19); have HBw19 := Aside0.mk (below_step (HBw18.out) (hbw19)); clear hbw19; obtain ⟨hxb2_0_w19, hxb2_1_w19⟩ := cells2 (g := W.heap.size) (HLw19.out.get 13 rfl).1; obtain ⟨hxb3_0_w19, hxb3_1_w19⟩ := cells2 (g := W.heap.size + 1) (HLw19.out.get 12 rfl).1; obtain ⟨hxb6_0_w19, hxb6_1_w19⟩ := cells2 (g := w7.heap.size) (HLw19.out.get 8 rfl).1; obtain ⟨hxb8_0_w19, hxb8_1_w19⟩ := cells2 (g := w9.heap.size) (HLw19.out.get 6 rfl).1; obtain ⟨hxb9_0_w19, hxb9_1_w19⟩ := cells2 (g := w11.heap.size) (HLw19.out.get 4 rfl).1; obtain ⟨hxb10_0_w19, hxb10_1_w19⟩ := cells2 (g := w13.heap.size) (HLw19.out.get 2 rfl).1))
  go_wp2_with fail
  (with_reducible refine (laws_markAlgebra.marks X0 (fun k => low9 ≤ k ∧ k < hiw9) _ X1 1 W _ (HBw19.out) (HLw19.out.get 7 rfl) (by have := HBD.out; omega) (by have := HBD.out; omega)).mono ?_)
  rintro e w20 ⟨rfl, hm1, hm2, hm3⟩
  have HLw20 := Aside0.mk (Live.mark HLw19.out 7 rfl hm3 (seg_S hm1 (fun k hk _ _ => hk) (Nat.le_refl _)))
  have HBw20 := Aside0.mk hm2
  clear hm1 hm2 hm3
  obtain ⟨hxb2_0_w20, hxb2_1_w20⟩ := cells2 (g := W.heap.size) (HLw20.out.get 13 rfl).1
  obtain ⟨hxb3_0_w20, hxb3_1_w20⟩ := cells2 (g := W.heap.size + 1) (HLw20.out.get 12 rfl).1
  obtain ⟨hxb6_0_w20, hxb6_1_w20⟩ := cells2 (g := w7.heap.size) (HLw20.out.get 8 rfl).1
  obtain ⟨hxb8_0_w20, hxb8_1_w20⟩ := cells2 (g := w9.heap.size) (HLw20.out.get 6 rfl).1
  obtain ⟨hxb9_0_w20, hxb9_1_w20⟩ := cells2 (g := w11.heap.size) (HLw20.out.get 4 rfl).1
  obtain ⟨hxb10_0_w20, hxb10_1_w20⟩ := cells2 (g := w13.heap.size) (HLw20.out.get 2 rfl).1
  go_wp2_with fail
  (with_reducible refine (laws_markAlgebra.marks X2 (fun k => low11 ≤ k ∧ k < hiw11) _ X3 (1 + (totO X1 : Int)) W _ (HBw20.out) (HLw20.out.get 5 rfl) (by have := HBD.out; omega) (by have := HBD.out; omega)).mono ?_)
  rintro e w21 ⟨rfl, hm1, hm2, hm3⟩
  have HLw21 := Aside0.mk (Live.mark HLw20.out 5 rfl hm3 (seg_S hm1 (fun k hk _ _ => hk) (Nat.le_refl _)))
  have HBw21 := Aside0.mk hm2
  clear hm1 hm2 hm3
  obtain ⟨hxb2_0_w21, hxb2_1_w21⟩ := cells2 (g := W.heap.size) (HLw21.out.get 13 rfl).1
  obtain ⟨hxb3_0_w21, hxb3_1_w21⟩ := cells2 (g := W.heap.size + 1) (HLw21.out.get 12 rfl).1
  obtain ⟨hxb6_0_w21, hxb6_1_w21⟩ := cells2 (g := w7.heap.size) (HLw21.out.get 8 rfl).1
  obtain ⟨hxb8_0_w21, hxb8_1_w21⟩ := cells2 (g := w9.heap.size) (HLw21.out.get 6 rfl).1
  obtain ⟨hxb9_0_w21, hxb9_1_w21⟩ := cells2 (g := w11.heap.size) (HLw21.out.get 4 rfl).1
  obtain ⟨hxb10_0_w21, hxb10_1_w21⟩ := cells2 (g := w13.heap.size) (HLw21.out.get 2 rfl).1
  go_wp2_with fail
  (with_reducible refine (laws_eqAlgebra.calls k X4 _ _ X5 X4 _ _ X5 true _ (Kd.S_reads' (HLw21.out.get 3 rfl)).2.2 (Kd.S_reads' (HLw21.out.get 3 rfl)).2.1 (Kd.S_reads' (HLw21.out.get 9 rfl)).2.2 (Kd.S_reads' (HLw21.out.get 9 rfl)).2.1 F6.out).mono ?_)
  rintro e w22 ⟨rfl, hbw22⟩
  have HLw22 := Aside0.mk (HLw21.out.below hbw22)
  have HBw22 := Aside0.mk (below_step (HBw21.out) (hbw22))
  clear hbw22
  obtain ⟨hxb2_0_w22, hxb2_1_w22⟩ := cells2 (g := W.heap.size) (HLw22.out.get 13 rfl).1
  obtain ⟨hxb3_0_w22, hxb3_1_w22⟩ := cells2 (g := W.heap.size + 1) (HLw22.out.get 12 rfl).1
  obtain ⟨hxb6_0_w22, hxb6_1_w22⟩ := cells2 (g := w7.heap.size) (HLw22.out.get 8 rfl).1
  obtain ⟨hxb8_0_w22, hxb8_1_w22⟩ := cells2 (g := w9.heap.size) (HLw22.out.get 6 rfl).1
  obtain ⟨hxb9_0_w22, hxb9_1_w22⟩ := cells2 (g := w11.heap.size) (HLw22.out.get 4 rfl).1
  obtain ⟨hxb10_0_w22, hxb10_1_w22⟩ := cells2 (g := w13.heap.size) (HLw22.out.get 2 rfl).1
  go_wp2_with fail
  (with_reducible refine (laws_markAlgebra.marks X4 (fun k => low13 ≤ k ∧ k < hiw13) _ X5 1 W _ (HBw22.out) (HLw22.out.get 3 rfl) (by have := HBD.out; omega) (by have := HBD.out; omega)).mono ?_)
  rintro e w23 ⟨rfl, hm1, hm2, hm3⟩
  have HLw23 := Aside0.mk (Live.mark HLw22.out 3 rfl hm3 (seg_S hm1 (fun k hk _ _ => hk) (Nat.le_refl _)))
  have HBw23 := Aside0.mk hm2
  clear hm1 hm2 hm3
  obtain ⟨hxb2_0_w23, hxb2_1_w23⟩ := cells2 (g := W.heap.size) (HLw23.out.get 13 rfl).1
  obtain ⟨hxb3_0_w23, hxb3_1_w23⟩ := cells2 (g := W.heap.size + 1) (HLw23.out.get 12 rfl).1
  obtain ⟨hxb6_0_w23, hxb6_1_w23⟩ := cells2 (g := w7.heap.size) (HLw23.out.get 8 rfl).1
  obtain ⟨hxb8_0_w23, hxb8_1_w23⟩ := cells2 (g := w9.heap.size) (HLw23.out.get 6 rfl).1
  obtain ⟨hxb9_0_w23, hxb9_1_w23⟩ := cells2 (g := w11.heap.size) (HLw23.out.get 4 rfl).1
  obtain ⟨hxb10_0_w23, hxb10_1_w23⟩ := cells2 (g := w13.heap.size) (HLw23.out.get 2 rfl).1
  go_wp2_with fail
  have r_ := (Kd.S_reads' (HLw23.out.get 3 rfl)).2
  have q_ := laws_heldAlgebra.calls k X4 _ _ (mkOps X5 1) 1 (1 + (totO X5 : Int)) _ (by first | exact r_.2 | (rw [mkOps_length]; exact r_.2)) (by first | exact r_.1 | (rw [mkOps_length]; exact r_.1)) F9.out
  rw [mkOps_length] at q_
  (with_reducible refine q_.mono ?_)
  clear q_ r_
  rintro e w24 ⟨rfl, hbw24⟩
  have HLw24 := Aside0.mk (HLw23.out.below hbw24)
  have HBw24 := Aside0.mk (below_step (HBw23.out) (hbw24))
  clear hbw24
  obtain ⟨hxb2_0_w24, hxb2_1_w24⟩ := cells2 (g := W.heap.size) (HLw24.out.get 13 rfl).1
  obtain ⟨hxb3_0_w24, hxb3_1_w24⟩ := cells2 (g := W.heap.size + 1) (HLw24.out.get 12 rfl).1
  obtain ⟨hxb6_0_w24, hxb6_1_w24⟩ := cells2 (g := w7.heap.size) (HLw24.out.get 8 rfl).1
  obtain ⟨hxb8_0_w24, hxb8_1_w24⟩ := cells2 (g := w9.heap.size) (HLw24.out.get 6 rfl).1
  obtain ⟨hxb9_0_w24, hxb9_1_w24⟩ := cells2 (g := w11.heap.size) (HLw24.out.get 4 rfl).1
  obtain ⟨hxb10_0_w24, hxb10_1_w24⟩ := cells2 (g := w13.heap.size) (HLw24.out.get 2 rfl).1
  go_wp2_with fail
  go_region_held3 (fun w' => w'.cell? ⟨W.heap.size, 0, none⟩ = some (.int .i64 a0) ∧ w'.cell? ⟨W.heap.size, 1, none⟩ = some (.slice A0 l0.length c0) ∧ w'.cell? ⟨W.heap.size + 1, 0, none⟩ = some (.int .i64 a1) ∧ w'.cell? ⟨W.heap.size + 1, 1, none⟩ = some (.slice A1 l1.length c1) ∧ w'.cell? ⟨w7.heap.size, 0, none⟩ = some (.int .i64 X4) ∧ w'.cell? ⟨w7.heap.size, 1, none⟩ = some (.slice Aw7 X5.length cw7) ∧ w'.cell? ⟨w9.heap.size, 0, none⟩ = some (.int .i64 X0) ∧ w'.cell? ⟨w9.heap.size, 1, none⟩ = some (.slice Aw9 X1.length cw9) ∧ w'.cell? ⟨w11.heap.size, 0, none⟩ = some (.int .i64 X2) ∧ w'.cell? ⟨w11.heap.size, 1, none⟩ = some (.slice Aw11 X3.length cw11) ∧ w'.cell? ⟨w13.heap.size, 0, none⟩ = some (.int .i64 X4) ∧ w'.cell? ⟨w13.heap.size, 1, none⟩ = some (.slice Aw13 X5.length cw13)) (first | (simp [*]; done) | go_keep) (first | (go_at_call 9; (with_reducible refine (laws_toAlgebra.calls k a0 _ _ l0 X0 X1 _ (Kd.C_below HR0.out (below_drew1 (HBw24.out))) HC0.out F2.out).mono ?_); rintro e w25 ⟨vw25_0, rfl, how25_0, hbw25⟩; obtain ⟨Aw25, cw25, rfl⟩ := Kd.S_slice how25_0; obtain ⟨low25, hiw25, hlw25⟩ := Live.make_S (Live.drew HLw24.out) hbw25 how25_0 (below_size (below_drew1 (HBw24.out))); have HLw25 := Aside0.mk hlw25; clear hlw25 how25_0; have HBw25 := Aside0.mk (below_step (below_drew1 (HBw24.out)) (hbw25)); clear hbw25; obtain ⟨hxb2_0_w25, hxb2_1_w25⟩ := cells2 (g := W.heap.size) (HLw25.out.get 14 rfl).1; obtain ⟨hxb3_0_w25, hxb3_1_w25⟩ := cells2 (g := W.heap.size + 1) (HLw25.out.get 13 rfl).1; obtain ⟨hxb6_0_w25, hxb6_1_w25⟩ := cells2 (g := w7.heap.size) (HLw25.out.get 9 rfl).1; obtain ⟨hxb8_0_w25, hxb8_1_w25⟩ := cells2 (g := w9.heap.size) (HLw25.out.get 7 rfl).1; obtain ⟨hxb9_0_w25, hxb9_1_w25⟩ := cells2 (g := w11.heap.size) (HLw25.out.get 5 rfl).1; obtain ⟨hxb10_0_w25, hxb10_1_w25⟩ := cells2 (g := w13.heap.size) (HLw25.out.get 3 rfl).1) | (go_at_call 9; (with_reducible refine (laws_toAlgebra.calls k a1 _ _ l1 X2 X3 _ (Kd.C_below HR1.out (HBw25.out)) HC1.out F3.out).mono ?_); rintro e w26 ⟨vw26_0, rfl, how26_0, hbw26⟩; obtain ⟨Aw26, cw26, rfl⟩ := Kd.S_slice how26_0; obtain ⟨low26, hiw26, hlw26⟩ := Live.make_S HLw25.out hbw26 how26_0 (below_size (HBw25.out)); have HLw26 := Aside0.mk hlw26; clear hlw26 how26_0; have HBw26 := Aside0.mk (below_step (HBw25.out) (hbw26)); clear hbw26; obtain ⟨hxb2_0_w26, hxb2_1_w26⟩ := cells2 (g := W.heap.size) (HLw26.out.get 15 rfl).1; obtain ⟨hxb3_0_w26, hxb3_1_w26⟩ := cells2 (g := W.heap.size + 1) (HLw26.out.get 14 rfl).1; obtain ⟨hxb6_0_w26, hxb6_1_w26⟩ := cells2 (g := w7.heap.size) (HLw26.out.get 10 rfl).1; obtain ⟨hxb8_0_w26, hxb8_1_w26⟩ := cells2 (g := w9.heap.size) (HLw26.out.get 8 rfl).1; obtain ⟨hxb9_0_w26, hxb9_1_w26⟩ := cells2 (g := w11.heap.size) (HLw26.out.get 6 rfl).1; obtain ⟨hxb10_0_w26, hxb10_1_w26⟩ := cells2 (g := w13.heap.size) (HLw26.out.get 4 rfl).1) | (go_at_call 10; (with_reducible refine (impl_ProductOf.calls k X0 _ _ X1 X2 _ _ X3 X4 X5 X6 _ (Kd.S_reads' (HLw26.out.get 1 rfl)).2.2 (Kd.S_reads' (HLw26.out.get 1 rfl)).2.1 (Kd.S_reads' (HLw26.out.get 0 rfl)).2.2 (Kd.S_reads' (HLw26.out.get 0 rfl)).2.1 F5.out).mono ?_); rintro e w27 ⟨vw27_0, rfl, how27_0, hbw27⟩; obtain ⟨Aw27, cw27, rfl⟩ := Kd.S_slice how27_0; obtain ⟨low27, hiw27, hlw27⟩ := Live.make_S HLw26.out hbw27 how27_0 (below_size (HBw26.out)); have HLw27 := Aside0.mk hlw27; clear hlw27 how27_0; have HBw27 := Aside0.mk (below_step (HBw26.out) (hbw27)); clear hbw27; obtain ⟨hxb2_0_w27, hxb2_1_w27⟩ := cells2 (g := W.heap.size) (HLw27.out.get 16 rfl).1; obtain ⟨hxb3_0_w27, hxb3_1_w27⟩ := cells2 (g := W.heap.size + 1) (HLw27.out.get 15 rfl).1; obtain ⟨hxb6_0_w27, hxb6_1_w27⟩ := cells2 (g := w7.heap.size) (HLw27.out.get 11 rfl).1; obtain ⟨hxb8_0_w27, hxb8_1_w27⟩ := cells2 (g := w9.heap.size) (HLw27.out.get 9 rfl).1; obtain ⟨hxb9_0_w27, hxb9_1_w27⟩ := cells2 (g := w11.heap.size) (HLw27.out.get 7 rfl).1; obtain ⟨hxb10_0_w27, hxb10_1_w27⟩ := cells2 (g := w13.heap.size) (HLw27.out.get 5 rfl).1; have hna2_27 := Nat.ne_of_lt (blk_lt (HLw27.out.get 16 rfl).1); have hnb2_27 := hna2_27.symm; have hna3_27 := Nat.ne_of_lt (blk_lt (HLw27.out.get 15 rfl).1); have hnb3_27 := hna3_27.symm; have hna6_27 := Nat.ne_of_lt (blk_lt (HLw27.out.get 11 rfl).1); have hnb6_27 := hna6_27.symm; have hna8_27 := Nat.ne_of_lt (blk_lt (HLw27.out.get 9 rfl).1); have hnb8_27 := hna8_27.symm; have hna9_27 := Nat.ne_of_lt (blk_lt (HLw27.out.get 7 rfl).1); have hnb9_27 := hna9_27.symm; have hna10_27 := Nat.ne_of_lt (blk_lt (HLw27.out.get 5 rfl).1); have hnb10_27 := hna10_27.symm; obtain ⟨lox27z15, hix27z15, HLx27z15⟩ := Live.make_box HLw27.out (.cells #[.int .i64 0, .slice none 0 0] 28) (w27.heap.size) (by first | rfl | simp); have hGx27z15 := below_size (HBw27.out); have hz15_0 : (w27.alloc (.cells #[.int .i64 0, .slice none 0 0] 28)).cell? ⟨w27.heap.size, 0, none⟩ = some (.int .i64 0) := (blk_cell (HLx27z15.get 0 rfl).1 0).trans rfl; have hfz15_0 := blk_frozen (HLx27z15.get 0 rfl).1 0; have hz15_1 : (w27.alloc (.cells #[.int .i64 0, .slice none 0 0] 28)).cell? ⟨w27.heap.size, 1, none⟩ = some (.slice none 0 0) := (blk_cell (HLx27z15.get 0 rfl).1 1).trans rfl; have hfz15_1 := blk_frozen (HLx27z15.get 0 rfl).1 1) | (go_at_call 10; have hna2_26 := Nat.ne_of_lt (blk_lt (HLw26.out.get 15 rfl).1); have hnb2_26 := hna2_26.symm; have hna3_26 := Nat.ne_of_lt (blk_lt (HLw26.out.get 14 rfl).1); have hnb3_26 := hna3_26.symm; have hna6_26 := Nat.ne_of_lt (blk_lt (HLw26.out.get 10 rfl).1); have hnb6_26 := hna6_26.symm; have hna8_26 := Nat.ne_of_lt (blk_lt (HLw26.out.get 8 rfl).1); have hnb8_26 := hna8_26.symm; have hna9_26 := Nat.ne_of_lt (blk_lt (HLw26.out.get 6 rfl).1); have hnb9_26 := hna9_26.symm; have hna10_26 := Nat.ne_of_lt (blk_lt (HLw26.out.get 4 rfl).1); have hnb10_26 := hna10_26.symm; obtain ⟨lox26z15, hix26z15, HLx26z15⟩ := Live.make_box HLw26.out (.cells #[.int .i64 0, .slice none 0 0] 28) (w26.heap.size) (by first | rfl | simp); have hGx26z15 := below_size (HBw26.out); (with_reducible refine (impl_ProductOf.calls k X0 _ _ X1 X2 _ _ X3 X4 X5 X6 _ (Kd.S_reads' (HLx26z15.get 2 rfl)).2.2 (Kd.S_reads' (HLx26z15.get 2 rfl)).2.1 (Kd.S_reads' (HLx26z15.get 1 rfl)).2.2 (Kd.S_reads' (HLx26z15.get 1 rfl)).2.1 F5.out).mono ?_); rintro e w27 ⟨vw27_0, rfl, how27_0, hbw27⟩; obtain ⟨Aw27, cw27, rfl⟩ := Kd.S_slice how27_0; obtain ⟨low27, hiw27, hlw27⟩ := Live.make_S HLx26z15 hbw27 how27_0 (below_size (below_alloc (HBw26.out) _)); have HLw27 := Aside0.mk hlw27; clear hlw27 how27_0; have HBw27 := Aside0.mk (below_step (below_alloc (HBw26.out) _) (hbw27)); clear hbw27; obtain ⟨hxb2_0_w27, hxb2_1_w27⟩ := cells2 (g := W.heap.size) (HLw27.out.get 17 rfl).1; obtain ⟨hxb3_0_w27, hxb3_1_w27⟩ := cells2 (g := W.heap.size + 1) (HLw27.out.get 16 rfl).1; obtain ⟨hxb6_0_w27, hxb6_1_w27⟩ := cells2 (g := w7.heap.size) (HLw27.out.get 12 rfl).1; obtain ⟨hxb8_0_w27, hxb8_1_w27⟩ := cells2 (g := w9.heap.size) (HLw27.out.get 10 rfl).1; obtain ⟨hxb9_0_w27, hxb9_1_w27⟩ := cells2 (g := w11.heap.size) (HLw27.out.get 8 rfl).1; obtain ⟨hxb10_0_w27, hxb10_1_w27⟩ := cells2 (g := w13.heap.size) (HLw27.out.get 6 rfl).1; have hz15_0 : w27.cell? ⟨w26.heap.size, 0, none⟩ = some (.int .i64 0) := (blk_cell (HLw27.out.get 1 rfl).1 0).trans rfl; have hfz15_0 := blk_frozen (HLw27.out.get 1 rfl).1 0; have hz15_1 : w27.cell? ⟨w26.heap.size, 1, none⟩ = some (.slice none 0 0) := (blk_cell (HLw27.out.get 1 rfl).1 1).trans rfl; have hfz15_1 := blk_frozen (HLw27.out.get 1 rfl).1 1) | (go_at_call 9; have hna2_25 := Nat.ne_of_lt (blk_lt (HLw25.out.get 14 rfl).1); have hnb2_25 := hna2_25.symm; have hna3_25 := Nat.ne_of_lt (blk_lt (HLw25.out.get 13 rfl).1); have hnb3_25 := hna3_25.symm; have hna6_25 := Nat.ne_of_lt (blk_lt (HLw25.out.get 9 rfl).1); have hnb6_25 := hna6_25.symm; have hna8_25 := Nat.ne_of_lt (blk_lt (HLw25.out.get 7 rfl).1); have hnb8_25 := hna8_25.symm; have hna9_25 := Nat.ne_of_lt (blk_lt (HLw25.out.get 5 rfl).1); have hnb9_25 := hna9_25.symm; have hna10_25 := Nat.ne_of_lt (blk_lt (HLw25.out.get 3 rfl).1); have hnb10_25 := hna10_25.symm; obtain ⟨lox25z15, hix25z15, HLx25z15⟩ := Live.make_box HLw25.out (.cells #[.int .i64 0, .slice none 0 0] 28) (w25.heap.size) (by first | rfl | simp); have hGx25z15 := below_size (HBw25.out); (with_reducible refine (laws_toAlgebra.calls k a1 _ _ l1 X2 X3 _ (Kd.C_below HR1.out (below_alloc (HBw25.out) _)) HC1.out F3.out).mono ?_); rintro e w26 ⟨vw26_0, rfl, how26_0, hbw26⟩; obtain ⟨Aw26, cw26, rfl⟩ := Kd.S_slice how26_0; obtain ⟨low26, hiw26, hlw26⟩ := Live.make_S HLx25z15 hbw26 how26_0 (below_size (below_alloc (HBw25.out) _)); have HLw26 := Aside0.mk hlw26; clear hlw26 how26_0; have HBw26 := Aside0.mk (below_step (below_alloc (HBw25.out) _) (hbw26)); clear hbw26; obtain ⟨hxb2_0_w26, hxb2_1_w26⟩ := cells2 (g := W.heap.size) (HLw26.out.get 16 rfl).1; obtain ⟨hxb3_0_w26, hxb3_1_w26⟩ := cells2 (g := W.heap.size + 1) (HLw26.out.get 15 rfl).1; obtain ⟨hxb6_0_w26, hxb6_1_w26⟩ := cells2 (g := w7.heap.size) (HLw26.out.get 11 rfl).1; obtain ⟨hxb8_0_w26, hxb8_1_w26⟩ := cells2 (g := w9.heap.size) (HLw26.out.get 9 rfl).1; obtain ⟨hxb9_0_w26, hxb9_1_w26⟩ := cells2 (g := w11.heap.size) (HLw26.out.get 7 rfl).1; obtain ⟨hxb10_0_w26, hxb10_1_w26⟩ := cells2 (g := w13.heap.size) (HLw26.out.get 5 rfl).1) | (go_at_call 10; (with_reducible refine (impl_ProductOf.calls k X0 _ _ X1 X2 _ _ X3 X4 X5 X6 _ (Kd.S_reads' (HLw26.out.get 2 rfl)).2.2 (Kd.S_reads' (HLw26.out.get 2 rfl)).2.1 (Kd.S_reads' (HLw26.out.get 0 rfl)).2.2 (Kd.S_reads' (HLw26.out.get 0 rfl)).2.1 F5.out).mono ?_); rintro e w27 ⟨vw27_0, rfl, how27_0, hbw27⟩; obtain ⟨Aw27, cw27, rfl⟩ := Kd.S_slice how27_0; obtain ⟨low27, hiw27, hlw27⟩ := Live.make_S HLw26.out hbw27 how27_0 (below_size (HBw26.out)); have HLw27 := Aside0.mk hlw27; clear hlw27 how27_0; have HBw27 := Aside0.mk (below_step (HBw26.out) (hbw27)); clear hbw27; obtain ⟨hxb2_0_w27, hxb2_1_w27⟩ := cells2 (g := W.heap.size) (HLw27.out.get 17 rfl).1; obtain ⟨hxb3_0_w27, hxb3_1_w27⟩ := cells2 (g := W.heap.size + 1) (HLw27.out.get 16 rfl).1; obtain ⟨hxb6_0_w27, hxb6_1_w27⟩ := cells2 (g := w7.heap.size) (HLw27.out.get 12 rfl).1; obtain ⟨hxb8_0_w27, hxb8_1_w27⟩ := cells2 (g := w9.heap.size) (HLw27.out.get 10 rfl).1; obtain ⟨hxb9_0_w27, hxb9_1_w27⟩ := cells2 (g := w11.heap.size) (HLw27.out.get 8 rfl).1; obtain ⟨hxb10_0_w27, hxb10_1_w27⟩ := cells2 (g := w13.heap.size) (HLw27.out.get 6 rfl).1; have hz15_0 : w27.cell? ⟨w25.heap.size, 0, none⟩ = some (.int .i64 0) := (blk_cell (HLw27.out.get 2 rfl).1 0).trans rfl; have hfz15_0 := blk_frozen (HLw27.out.get 2 rfl).1 0; have hz15_1 : w27.cell? ⟨w25.heap.size, 1, none⟩ = some (.slice none 0 0) := (blk_cell (HLw27.out.get 2 rfl).1 1).trans rfl; have hfz15_1 := blk_frozen (HLw27.out.get 2 rfl).1 1) | (go_at_call 9; have hna2_24 := Nat.ne_of_lt (blk_lt (HLw24.out.get 13 rfl).1); have hnb2_24 := hna2_24.symm; have hna3_24 := Nat.ne_of_lt (blk_lt (HLw24.out.get 12 rfl).1); have hnb3_24 := hna3_24.symm; have hna6_24 := Nat.ne_of_lt (blk_lt (HLw24.out.get 8 rfl).1); have hnb6_24 := hna6_24.symm; have hna8_24 := Nat.ne_of_lt (blk_lt (HLw24.out.get 6 rfl).1); have hnb8_24 := hna8_24.symm; have hna9_24 := Nat.ne_of_lt (blk_lt (HLw24.out.get 4 rfl).1); have hnb9_24 := hna9_24.symm; have hna10_24 := Nat.ne_of_lt (blk_lt (HLw24.out.get 2 rfl).1); have hnb10_24 := hna10_24.symm; obtain ⟨lox24z15, hix24z15, HLx24z15⟩ := Live.make_box HLw24.out (.cells #[.int .i64 0, .slice none 0 0] 28) (w24.heap.size) (by first | rfl | simp); have hGx24z15 := below_size (HBw24.out); (with_reducible refine (laws_toAlgebra.calls k a0 _ _ l0 X0 X1 _ (Kd.C_below HR0.out (below_drew1 (below_alloc (HBw24.out) _))) HC0.out F2.out).mono ?_); rintro e w25 ⟨vw25_0, rfl, how25_0, hbw25⟩; obtain ⟨Aw25, cw25, rfl⟩ := Kd.S_slice how25_0; obtain ⟨low25, hiw25, hlw25⟩ := Live.make_S (Live.drew HLx24z15) hbw25 how25_0 (below_size (below_drew1 (below_alloc (HBw24.out) _))); have HLw25 := Aside0.mk hlw25; clear hlw25 how25_0; have HBw25 := Aside0.mk (below_step (below_drew1 (below_alloc (HBw24.out) _)) (hbw25)); clear hbw25; obtain ⟨hxb2_0_w25, hxb2_1_w25⟩ := cells2 (g := W.heap.size) (HLw25.out.get 15 rfl).1; obtain ⟨hxb3_0_w25, hxb3_1_w25⟩ := cells2 (g := W.heap.size + 1) (HLw25.out.get 14 rfl).1; obtain ⟨hxb6_0_w25, hxb6_1_w25⟩ := cells2 (g := w7.heap.size) (HLw25.out.get 10 rfl).1; obtain ⟨hxb8_0_w25, hxb8_1_w25⟩ := cells2 (g := w9.heap.size) (HLw25.out.get 8 rfl).1; obtain ⟨hxb9_0_w25, hxb9_1_w25⟩ := cells2 (g := w11.heap.size) (HLw25.out.get 6 rfl).1; obtain ⟨hxb10_0_w25, hxb10_1_w25⟩ := cells2 (g := w13.heap.size) (HLw25.out.get 4 rfl).1) | (go_at_call 9; (with_reducible refine (laws_toAlgebra.calls k a1 _ _ l1 X2 X3 _ (Kd.C_below HR1.out (HBw25.out)) HC1.out F3.out).mono ?_); rintro e w26 ⟨vw26_0, rfl, how26_0, hbw26⟩; obtain ⟨Aw26, cw26, rfl⟩ := Kd.S_slice how26_0; obtain ⟨low26, hiw26, hlw26⟩ := Live.make_S HLw25.out hbw26 how26_0 (below_size (HBw25.out)); have HLw26 := Aside0.mk hlw26; clear hlw26 how26_0; have HBw26 := Aside0.mk (below_step (HBw25.out) (hbw26)); clear hbw26; obtain ⟨hxb2_0_w26, hxb2_1_w26⟩ := cells2 (g := W.heap.size) (HLw26.out.get 16 rfl).1; obtain ⟨hxb3_0_w26, hxb3_1_w26⟩ := cells2 (g := W.heap.size + 1) (HLw26.out.get 15 rfl).1; obtain ⟨hxb6_0_w26, hxb6_1_w26⟩ := cells2 (g := w7.heap.size) (HLw26.out.get 11 rfl).1; obtain ⟨hxb8_0_w26, hxb8_1_w26⟩ := cells2 (g := w9.heap.size) (HLw26.out.get 9 rfl).1; obtain ⟨hxb9_0_w26, hxb9_1_w26⟩ := cells2 (g := w11.heap.size) (HLw26.out.get 7 rfl).1; obtain ⟨hxb10_0_w26, hxb10_1_w26⟩ := cells2 (g := w13.heap.size) (HLw26.out.get 5 rfl).1) | (go_at_call 10; (with_reducible refine (impl_ProductOf.calls k X0 _ _ X1 X2 _ _ X3 X4 X5 X6 _ (Kd.S_reads' (HLw26.out.get 1 rfl)).2.2 (Kd.S_reads' (HLw26.out.get 1 rfl)).2.1 (Kd.S_reads' (HLw26.out.get 0 rfl)).2.2 (Kd.S_reads' (HLw26.out.get 0 rfl)).2.1 F5.out).mono ?_); rintro e w27 ⟨vw27_0, rfl, how27_0, hbw27⟩; obtain ⟨Aw27, cw27, rfl⟩ := Kd.S_slice how27_0; obtain ⟨low27, hiw27, hlw27⟩ := Live.make_S HLw26.out hbw27 how27_0 (below_size (HBw26.out)); have HLw27 := Aside0.mk hlw27; clear hlw27 how27_0; have HBw27 := Aside0.mk (below_step (HBw26.out) (hbw27)); clear hbw27; obtain ⟨hxb2_0_w27, hxb2_1_w27⟩ := cells2 (g := W.heap.size) (HLw27.out.get 17 rfl).1; obtain ⟨hxb3_0_w27, hxb3_1_w27⟩ := cells2 (g := W.heap.size + 1) (HLw27.out.get 16 rfl).1; obtain ⟨hxb6_0_w27, hxb6_1_w27⟩ := cells2 (g := w7.heap.size) (HLw27.out.get 12 rfl).1; obtain ⟨hxb8_0_w27, hxb8_1_w27⟩ := cells2 (g := w9.heap.size) (HLw27.out.get 10 rfl).1; obtain ⟨hxb9_0_w27, hxb9_1_w27⟩ := cells2 (g := w11.heap.size) (HLw27.out.get 8 rfl).1; obtain ⟨hxb10_0_w27, hxb10_1_w27⟩ := cells2 (g := w13.heap.size) (HLw27.out.get 6 rfl).1; have hz15_0 : w27.cell? ⟨w24.heap.size, 0, none⟩ = some (.int .i64 0) := (blk_cell (HLw27.out.get 3 rfl).1 0).trans rfl; have hfz15_0 := blk_frozen (HLw27.out.get 3 rfl).1 0; have hz15_1 : w27.cell? ⟨w24.heap.size, 1, none⟩ = some (.slice none 0 0) := (blk_cell (HLw27.out.get 3 rfl).1 1).trans rfl; have hfz15_1 := blk_frozen (HLw27.out.get 3 rfl).1 1))
  ·obtain ⟨lox28, hix28, HLx28⟩ := Live.make_box HLw27.out (.cells #[.int .i64 X4, .slice Aw27 X5.length cw27] 28) (w27.heap.size) (by simp)
   obtain ⟨hxb2_0_w27allocc, hxb2_1_w27allocc⟩ := cells2 (g := W.heap.size) (HLx28.get 17 rfl).1
   obtain ⟨hxb3_0_w27allocc, hxb3_1_w27allocc⟩ := cells2 (g := W.heap.size + 1) (HLx28.get 16 rfl).1
   obtain ⟨hxb6_0_w27allocc, hxb6_1_w27allocc⟩ := cells2 (g := w7.heap.size) (HLx28.get 12 rfl).1
   obtain ⟨hxb8_0_w27allocc, hxb8_1_w27allocc⟩ := cells2 (g := w9.heap.size) (HLx28.get 10 rfl).1
   obtain ⟨hxb9_0_w27allocc, hxb9_1_w27allocc⟩ := cells2 (g := w11.heap.size) (HLx28.get 8 rfl).1
   obtain ⟨hxb10_0_w27allocc, hxb10_1_w27allocc⟩ := cells2 (g := w13.heap.size) (HLx28.get 6 rfl).1
   go_wp2_with fail
   (with_reducible refine (laws_eqAlgebra.calls k X4 _ _ X5 X4 _ _ X5 true _ (Kd.S_reads' (HLx28.get 1 rfl)).2.2 (Kd.S_reads' (HLx28.get 1 rfl)).2.1 (Kd.S_reads' (HLx28.get 13 rfl)).2.2 (Kd.S_reads' (HLx28.get 13 rfl)).2.1 F6.out).mono ?_)
   rintro e w29 ⟨rfl, hbw29⟩
   have HLw29 := Aside0.mk (HLx28.below hbw29)
   have HBw29 := Aside0.mk (below_step (below_alloc (HBw27.out) _) (hbw29))
   clear hbw29
   obtain ⟨hxb2_0_w29, hxb2_1_w29⟩ := cells2 (g := W.heap.size) (HLw29.out.get 17 rfl).1
   obtain ⟨hxb3_0_w29, hxb3_1_w29⟩ := cells2 (g := W.heap.size + 1) (HLw29.out.get 16 rfl).1
   obtain ⟨hxb6_0_w29, hxb6_1_w29⟩ := cells2 (g := w7.heap.size) (HLw29.out.get 12 rfl).1
   obtain ⟨hxb8_0_w29, hxb8_1_w29⟩ := cells2 (g := w9.heap.size) (HLw29.out.get 10 rfl).1
   obtain ⟨hxb9_0_w29, hxb9_1_w29⟩ := cells2 (g := w11.heap.size) (HLw29.out.get 8 rfl).1
   obtain ⟨hxb10_0_w29, hxb10_1_w29⟩ := cells2 (g := w13.heap.size) (HLw29.out.get 6 rfl).1
   obtain ⟨hxb15_0_w29, hxb15_1_w29⟩ := cells2 (g := w27.heap.size) (HLw29.out.get 0 rfl).1
   go_wp2_with fail
   have r_ := (Kd.S_reads' (HLw29.out.get 7 rfl)).2
   have q_ := laws_heldAlgebra.calls k X4 _ _ (mkOps X5 1) 1 (1 + (totO X5 : Int)) _ (by first | exact r_.2 | (rw [mkOps_length]; exact r_.2)) (by first | exact r_.1 | (rw [mkOps_length]; exact r_.1)) F9.out
   rw [mkOps_length] at q_
   (with_reducible refine q_.mono ?_)
   clear q_ r_
   rintro e w30 ⟨rfl, hbw30⟩
   have HLw30 := Aside0.mk (HLw29.out.below hbw30)
   have HBw30 := Aside0.mk (below_step (HBw29.out) (hbw30))
   clear hbw30
   obtain ⟨hxb2_0_w30, hxb2_1_w30⟩ := cells2 (g := W.heap.size) (HLw30.out.get 17 rfl).1
   obtain ⟨hxb3_0_w30, hxb3_1_w30⟩ := cells2 (g := W.heap.size + 1) (HLw30.out.get 16 rfl).1
   obtain ⟨hxb6_0_w30, hxb6_1_w30⟩ := cells2 (g := w7.heap.size) (HLw30.out.get 12 rfl).1
   obtain ⟨hxb8_0_w30, hxb8_1_w30⟩ := cells2 (g := w9.heap.size) (HLw30.out.get 10 rfl).1
   obtain ⟨hxb9_0_w30, hxb9_1_w30⟩ := cells2 (g := w11.heap.size) (HLw30.out.get 8 rfl).1
   obtain ⟨hxb10_0_w30, hxb10_1_w30⟩ := cells2 (g := w13.heap.size) (HLw30.out.get 6 rfl).1
   obtain ⟨hxb15_0_w30, hxb15_1_w30⟩ := cells2 (g := w27.heap.size) (HLw30.out.get 0 rfl).1
   go_wp2
   go_ret
   exact ⟨rfl, HBw30.out⟩
  ·have HLp28 := Aside0.mk (Live.put_box (a' := .int .i64 X4) (b' := .slice Aw27 X5.length cw27) HLw27.out 1 rfl)
   have HBp28 := Aside0.mk (show Below W.heap.size W ((w27.setCell ⟨w26.heap.size, 0, none⟩ (.int .i64 X4)).setCell ⟨w26.heap.size, 1, none⟩ (.slice Aw27 X5.length cw27)) from below_set (below_set (HBw27.out) hGx26z15) hGx26z15)
   obtain ⟨hxb2_0_w27setCel, hxb2_1_w27setCel⟩ := cells2 (g := W.heap.size) (HLp28.out.get 17 rfl).1
   obtain ⟨hxb3_0_w27setCel, hxb3_1_w27setCel⟩ := cells2 (g := W.heap.size + 1) (HLp28.out.get 16 rfl).1
   obtain ⟨hxb6_0_w27setCel, hxb6_1_w27setCel⟩ := cells2 (g := w7.heap.size) (HLp28.out.get 12 rfl).1
   obtain ⟨hxb8_0_w27setCel, hxb8_1_w27setCel⟩ := cells2 (g := w9.heap.size) (HLp28.out.get 10 rfl).1
   obtain ⟨hxb9_0_w27setCel, hxb9_1_w27setCel⟩ := cells2 (g := w11.heap.size) (HLp28.out.get 8 rfl).1
   obtain ⟨hxb10_0_w27setCel, hxb10_1_w27setCel⟩ := cells2 (g := w13.heap.size) (HLp28.out.get 6 rfl).1
   obtain ⟨hxb15_0_w27setCel, hxb15_1_w27setCel⟩ := cells2 (g := w26.heap.size) (HLp28.out.get 1 rfl).1
   go_wp2_with fail
   (with_reducible refine (laws_eqAlgebra.calls k X4 _ _ X5 X4 _ _ X5 true _ (Kd.S_reads' (HLp28.out.get 0 rfl)).2.2 (Kd.S_reads' (HLp28.out.get 0 rfl)).2.1 (Kd.S_reads' (HLp28.out.get 13 rfl)).2.2 (Kd.S_reads' (HLp28.out.get 13 rfl)).2.1 F6.out).mono ?_)
   rintro e w29 ⟨rfl, hbw29⟩
   have HLw29 := Aside0.mk (HLp28.out.below hbw29)
   have HBw29 := Aside0.mk (below_step (HBp28.out) (hbw29))
   clear hbw29
   obtain ⟨hxb2_0_w29, hxb2_1_w29⟩ := cells2 (g := W.heap.size) (HLw29.out.get 17 rfl).1
   obtain ⟨hxb3_0_w29, hxb3_1_w29⟩ := cells2 (g := W.heap.size + 1) (HLw29.out.get 16 rfl).1
   obtain ⟨hxb6_0_w29, hxb6_1_w29⟩ := cells2 (g := w7.heap.size) (HLw29.out.get 12 rfl).1
   obtain ⟨hxb8_0_w29, hxb8_1_w29⟩ := cells2 (g := w9.heap.size) (HLw29.out.get 10 rfl).1
   obtain ⟨hxb9_0_w29, hxb9_1_w29⟩ := cells2 (g := w11.heap.size) (HLw29.out.get 8 rfl).1
   obtain ⟨hxb10_0_w29, hxb10_1_w29⟩ := cells2 (g := w13.heap.size) (HLw29.out.get 6 rfl).1
   obtain ⟨hxb15_0_w29, hxb15_1_w29⟩ := cells2 (g := w26.heap.size) (HLw29.out.get 1 rfl).1
   go_wp2_with fail
   have r_ := (Kd.S_reads' (HLw29.out.get 7 rfl)).2
   have q_ := laws_heldAlgebra.calls k X4 _ _ (mkOps X5 1) 1 (1 + (totO X5 : Int)) _ (by first | exact r_.2 | (rw [mkOps_length]; exact r_.2)) (by first | exact r_.1 | (rw [mkOps_length]; exact r_.1)) F9.out
   rw [mkOps_length] at q_
   (with_reducible refine q_.mono ?_)
   clear q_ r_
   rintro e w30 ⟨rfl, hbw30⟩
   have HLw30 := Aside0.mk (HLw29.out.below hbw30)
   have HBw30 := Aside0.mk (below_step (HBw29.out) (hbw30))
   clear hbw30
   obtain ⟨hxb2_0_w30, hxb2_1_w30⟩ := cells2 (g := W.heap.size) (HLw30.out.get 17 rfl).1
   obtain ⟨hxb3_0_w30, hxb3_1_w30⟩ := cells2 (g := W.heap.size + 1) (HLw30.out.get 16 rfl).1
   obtain ⟨hxb6_0_w30, hxb6_1_w30⟩ := cells2 (g := w7.heap.size) (HLw30.out.get 12 rfl).1
   obtain ⟨hxb8_0_w30, hxb8_1_w30⟩ := cells2 (g := w9.heap.size) (HLw30.out.get 10 rfl).1
   obtain ⟨hxb9_0_w30, hxb9_1_w30⟩ := cells2 (g := w11.heap.size) (HLw30.out.get 8 rfl).1
   obtain ⟨hxb10_0_w30, hxb10_1_w30⟩ := cells2 (g := w13.heap.size) (HLw30.out.get 6 rfl).1
   obtain ⟨hxb15_0_w30, hxb15_1_w30⟩ := cells2 (g := w26.heap.size) (HLw30.out.get 1 rfl).1
   go_wp2
   go_ret
   exact ⟨rfl, HBw30.out⟩
  ·have HLp28 := Aside0.mk (Live.put_box (a' := .int .i64 X4) (b' := .slice Aw27 X5.length cw27) HLw27.out 2 rfl)
   have HBp28 := Aside0.mk (show Below W.heap.size W ((w27.setCell ⟨w25.heap.size, 0, none⟩ (.int .i64 X4)).setCell ⟨w25.heap.size, 1, none⟩ (.slice Aw27 X5.length cw27)) from below_set (below_set (HBw27.out) hGx25z15) hGx25z15)
   obtain ⟨hxb2_0_w27setCel, hxb2_1_w27setCel⟩ := cells2 (g := W.heap.size) (HLp28.out.get 17 rfl).1
   obtain ⟨hxb3_0_w27setCel, hxb3_1_w27setCel⟩ := cells2 (g := W.heap.size + 1) (HLp28.out.get 16 rfl).1
   obtain ⟨hxb6_0_w27setCel, hxb6_1_w27setCel⟩ := cells2 (g := w7.heap.size) (HLp28.out.get 12 rfl).1
   obtain ⟨hxb8_0_w27setCel, hxb8_1_w27setCel⟩ := cells2 (g := w9.heap.size) (HLp28.out.get 10 rfl).1
   obtain ⟨hxb9_0_w27setCel, hxb9_1_w27setCel⟩ := cells2 (g := w11.heap.size) (HLp28.out.get 8 rfl).1
   obtain ⟨hxb10_0_w27setCel, hxb10_1_w27setCel⟩ := cells2 (g := w13.heap.size) (HLp28.out.get 6 rfl).1
   obtain ⟨hxb15_0_w27setCel, hxb15_1_w27setCel⟩ := cells2 (g := w25.heap.size) (HLp28.out.get 2 rfl).1
   go_wp2_with fail
   (with_reducible refine (laws_eqAlgebra.calls k X4 _ _ X5 X4 _ _ X5 true _ (Kd.S_reads' (HLp28.out.get 0 rfl)).2.2 (Kd.S_reads' (HLp28.out.get 0 rfl)).2.1 (Kd.S_reads' (HLp28.out.get 13 rfl)).2.2 (Kd.S_reads' (HLp28.out.get 13 rfl)).2.1 F6.out).mono ?_)
   rintro e w29 ⟨rfl, hbw29⟩
   have HLw29 := Aside0.mk (HLp28.out.below hbw29)
   have HBw29 := Aside0.mk (below_step (HBp28.out) (hbw29))
   clear hbw29
   obtain ⟨hxb2_0_w29, hxb2_1_w29⟩ := cells2 (g := W.heap.size) (HLw29.out.get 17 rfl).1
   obtain ⟨hxb3_0_w29, hxb3_1_w29⟩ := cells2 (g := W.heap.size + 1) (HLw29.out.get 16 rfl).1
   obtain ⟨hxb6_0_w29, hxb6_1_w29⟩ := cells2 (g := w7.heap.size) (HLw29.out.get 12 rfl).1
   obtain ⟨hxb8_0_w29, hxb8_1_w29⟩ := cells2 (g := w9.heap.size) (HLw29.out.get 10 rfl).1
   obtain ⟨hxb9_0_w29, hxb9_1_w29⟩ := cells2 (g := w11.heap.size) (HLw29.out.get 8 rfl).1
   obtain ⟨hxb10_0_w29, hxb10_1_w29⟩ := cells2 (g := w13.heap.size) (HLw29.out.get 6 rfl).1
   obtain ⟨hxb15_0_w29, hxb15_1_w29⟩ := cells2 (g := w25.heap.size) (HLw29.out.get 2 rfl).1
   go_wp2_with fail
   have r_ := (Kd.S_reads' (HLw29.out.get 7 rfl)).2
   have q_ := laws_heldAlgebra.calls k X4 _ _ (mkOps X5 1) 1 (1 + (totO X5 : Int)) _ (by first | exact r_.2 | (rw [mkOps_length]; exact r_.2)) (by first | exact r_.1 | (rw [mkOps_length]; exact r_.1)) F9.out
   rw [mkOps_length] at q_
   (with_reducible refine q_.mono ?_)
   clear q_ r_
   rintro e w30 ⟨rfl, hbw30⟩
   have HLw30 := Aside0.mk (HLw29.out.below hbw30)
   have HBw30 := Aside0.mk (below_step (HBw29.out) (hbw30))
   clear hbw30
   obtain ⟨hxb2_0_w30, hxb2_1_w30⟩ := cells2 (g := W.heap.size) (HLw30.out.get 17 rfl).1
   obtain ⟨hxb3_0_w30, hxb3_1_w30⟩ := cells2 (g := W.heap.size + 1) (HLw30.out.get 16 rfl).1
   obtain ⟨hxb6_0_w30, hxb6_1_w30⟩ := cells2 (g := w7.heap.size) (HLw30.out.get 12 rfl).1
   obtain ⟨hxb8_0_w30, hxb8_1_w30⟩ := cells2 (g := w9.heap.size) (HLw30.out.get 10 rfl).1
   obtain ⟨hxb9_0_w30, hxb9_1_w30⟩ := cells2 (g := w11.heap.size) (HLw30.out.get 8 rfl).1
   obtain ⟨hxb10_0_w30, hxb10_1_w30⟩ := cells2 (g := w13.heap.size) (HLw30.out.get 6 rfl).1
   obtain ⟨hxb15_0_w30, hxb15_1_w30⟩ := cells2 (g := w25.heap.size) (HLw30.out.get 2 rfl).1
   go_wp2
   go_ret
   exact ⟨rfl, HBw30.out⟩
  ·have HLp28 := Aside0.mk (Live.put_box (a' := .int .i64 X4) (b' := .slice Aw27 X5.length cw27) HLw27.out 3 rfl)
   have HBp28 := Aside0.mk (show Below W.heap.size W ((w27.setCell ⟨w24.heap.size, 0, none⟩ (.int .i64 X4)).setCell ⟨w24.heap.size, 1, none⟩ (.slice Aw27 X5.length cw27)) from below_set (below_set (HBw27.out) hGx24z15) hGx24z15)
   obtain ⟨hxb2_0_w27setCel, hxb2_1_w27setCel⟩ := cells2 (g := W.heap.size) (HLp28.out.get 17 rfl).1
   obtain ⟨hxb3_0_w27setCel, hxb3_1_w27setCel⟩ := cells2 (g := W.heap.size + 1) (HLp28.out.get 16 rfl).1
   obtain ⟨hxb6_0_w27setCel, hxb6_1_w27setCel⟩ := cells2 (g := w7.heap.size) (HLp28.out.get 12 rfl).1
   obtain ⟨hxb8_0_w27setCel, hxb8_1_w27setCel⟩ := cells2 (g := w9.heap.size) (HLp28.out.get 10 rfl).1
   obtain ⟨hxb9_0_w27setCel, hxb9_1_w27setCel⟩ := cells2 (g := w11.heap.size) (HLp28.out.get 8 rfl).1
   obtain ⟨hxb10_0_w27setCel, hxb10_1_w27setCel⟩ := cells2 (g := w13.heap.size) (HLp28.out.get 6 rfl).1
   obtain ⟨hxb15_0_w27setCel, hxb15_1_w27setCel⟩ := cells2 (g := w24.heap.size) (HLp28.out.get 3 rfl).1
   go_wp2_with fail
   (with_reducible refine (laws_eqAlgebra.calls k X4 _ _ X5 X4 _ _ X5 true _ (Kd.S_reads' (HLp28.out.get 0 rfl)).2.2 (Kd.S_reads' (HLp28.out.get 0 rfl)).2.1 (Kd.S_reads' (HLp28.out.get 13 rfl)).2.2 (Kd.S_reads' (HLp28.out.get 13 rfl)).2.1 F6.out).mono ?_)
   rintro e w29 ⟨rfl, hbw29⟩
   have HLw29 := Aside0.mk (HLp28.out.below hbw29)
   have HBw29 := Aside0.mk (below_step (HBp28.out) (hbw29))
   clear hbw29
   obtain ⟨hxb2_0_w29, hxb2_1_w29⟩ := cells2 (g := W.heap.size) (HLw29.out.get 17 rfl).1
   obtain ⟨hxb3_0_w29, hxb3_1_w29⟩ := cells2 (g := W.heap.size + 1) (HLw29.out.get 16 rfl).1
   obtain ⟨hxb6_0_w29, hxb6_1_w29⟩ := cells2 (g := w7.heap.size) (HLw29.out.get 12 rfl).1
   obtain ⟨hxb8_0_w29, hxb8_1_w29⟩ := cells2 (g := w9.heap.size) (HLw29.out.get 10 rfl).1
   obtain ⟨hxb9_0_w29, hxb9_1_w29⟩ := cells2 (g := w11.heap.size) (HLw29.out.get 8 rfl).1
   obtain ⟨hxb10_0_w29, hxb10_1_w29⟩ := cells2 (g := w13.heap.size) (HLw29.out.get 6 rfl).1
   obtain ⟨hxb15_0_w29, hxb15_1_w29⟩ := cells2 (g := w24.heap.size) (HLw29.out.get 3 rfl).1
   go_wp2_with fail
   have r_ := (Kd.S_reads' (HLw29.out.get 7 rfl)).2
   have q_ := laws_heldAlgebra.calls k X4 _ _ (mkOps X5 1) 1 (1 + (totO X5 : Int)) _ (by first | exact r_.2 | (rw [mkOps_length]; exact r_.2)) (by first | exact r_.1 | (rw [mkOps_length]; exact r_.1)) F9.out
   rw [mkOps_length] at q_
   (with_reducible refine q_.mono ?_)
   clear q_ r_
   rintro e w30 ⟨rfl, hbw30⟩
   have HLw30 := Aside0.mk (HLw29.out.below hbw30)
   have HBw30 := Aside0.mk (below_step (HBw29.out) (hbw30))
   clear hbw30
   obtain ⟨hxb2_0_w30, hxb2_1_w30⟩ := cells2 (g := W.heap.size) (HLw30.out.get 17 rfl).1
   obtain ⟨hxb3_0_w30, hxb3_1_w30⟩ := cells2 (g := W.heap.size + 1) (HLw30.out.get 16 rfl).1
   obtain ⟨hxb6_0_w30, hxb6_1_w30⟩ := cells2 (g := w7.heap.size) (HLw30.out.get 12 rfl).1
   obtain ⟨hxb8_0_w30, hxb8_1_w30⟩ := cells2 (g := w9.heap.size) (HLw30.out.get 10 rfl).1
   obtain ⟨hxb9_0_w30, hxb9_1_w30⟩ := cells2 (g := w11.heap.size) (HLw30.out.get 8 rfl).1
   obtain ⟨hxb10_0_w30, hxb10_1_w30⟩ := cells2 (g := w13.heap.size) (HLw30.out.get 6 rfl).1
   obtain ⟨hxb15_0_w30, hxb15_1_w30⟩ := cells2 (g := w24.heap.size) (HLw30.out.get 3 rfl).1
   go_wp2
   go_ret
   exact ⟨rfl, HBw30.out⟩
 ·have HLp8 := Aside0.mk (Live.put_box (a' := .int .i64 X4) (b' := .slice Aw7 X5.length cw7) HLw7.out 1 rfl)
  have HBp8 := Aside0.mk (show Below W.heap.size W ((w7.setCell ⟨w6.heap.size, 0, none⟩ (.int .i64 X4)).setCell ⟨w6.heap.size, 1, none⟩ (.slice Aw7 X5.length cw7)) from below_set (below_set (HBw7.out) hGx6z6) hGx6z6)
  obtain ⟨hxb2_0_w7setCell, hxb2_1_w7setCell⟩ := cells2 (g := W.heap.size) (HLp8.out.get 5 rfl).1
  obtain ⟨hxb3_0_w7setCell, hxb3_1_w7setCell⟩ := cells2 (g := W.heap.size + 1) (HLp8.out.get 4 rfl).1
  obtain ⟨hxb6_0_w7setCell, hxb6_1_w7setCell⟩ := cells2 (g := w6.heap.size) (HLp8.out.get 1 rfl).1
  go_wp2_with fail
  (with_reducible refine (laws_toAlgebra.calls k a0 _ _ l0 X0 X1 _ (Kd.C_below HR0.out (HBp8.out)) HC0.out F2.out).mono ?_)
  rintro e w9 ⟨vw9_0, rfl, how9_0, hbw9⟩
  obtain ⟨Aw9, cw9, rfl⟩ := Kd.S_slice how9_0
  obtain ⟨low9, hiw9, hlw9⟩ := Live.make_S HLp8.out hbw9 how9_0 (below_size (HBp8.out))
  have HLw9 := Aside0.mk hlw9
  clear hlw9 how9_0
  have HBw9 := Aside0.mk (below_step (HBp8.out) (hbw9))
  clear hbw9
  obtain ⟨hxb2_0_w9, hxb2_1_w9⟩ := cells2 (g := W.heap.size) (HLw9.out.get 6 rfl).1
  obtain ⟨hxb3_0_w9, hxb3_1_w9⟩ := cells2 (g := W.heap.size + 1) (HLw9.out.get 5 rfl).1
  obtain ⟨hxb6_0_w9, hxb6_1_w9⟩ := cells2 (g := w6.heap.size) (HLw9.out.get 2 rfl).1
  obtain ⟨lox10, hix10, HLx10⟩ := Live.make_box HLw9.out (.cells #[.int .i64 X0, .slice Aw9 X1.length cw9] 28) (w9.heap.size) (by simp)
  obtain ⟨hxb2_0_w9allocce, hxb2_1_w9allocce⟩ := cells2 (g := W.heap.size) (HLx10.get 7 rfl).1
  obtain ⟨hxb3_0_w9allocce, hxb3_1_w9allocce⟩ := cells2 (g := W.heap.size + 1) (HLx10.get 6 rfl).1
  obtain ⟨hxb6_0_w9allocce, hxb6_1_w9allocce⟩ := cells2 (g := w6.heap.size) (HLx10.get 3 rfl).1
  go_wp2_with fail
  (with_reducible refine (laws_toAlgebra.calls k a1 _ _ l1 X2 X3 _ (Kd.C_below HR1.out (below_alloc (HBw9.out) _)) HC1.out F3.out).mono ?_)
  rintro e w11 ⟨vw11_0, rfl, how11_0, hbw11⟩
  obtain ⟨Aw11, cw11, rfl⟩ := Kd.S_slice how11_0
  obtain ⟨low11, hiw11, hlw11⟩ := Live.make_S HLx10 hbw11 how11_0 (below_size (below_alloc (HBw9.out) _))
  have HLw11 := Aside0.mk hlw11
  clear hlw11 how11_0
  have HBw11 := Aside0.mk (below_step (below_alloc (HBw9.out) _) (hbw11))
  clear hbw11
  obtain ⟨hxb2_0_w11, hxb2_1_w11⟩ := cells2 (g := W.heap.size) (HLw11.out.get 8 rfl).1
  obtain ⟨hxb3_0_w11, hxb3_1_w11⟩ := cells2 (g := W.heap.size + 1) (HLw11.out.get 7 rfl).1
  obtain ⟨hxb6_0_w11, hxb6_1_w11⟩ := cells2 (g := w6.heap.size) (HLw11.out.get 4 rfl).1
  obtain ⟨hxb8_0_w11, hxb8_1_w11⟩ := cells2 (g := w9.heap.size) (HLw11.out.get 1 rfl).1
  obtain ⟨lox12, hix12, HLx12⟩ := Live.make_box HLw11.out (.cells #[.int .i64 X2, .slice Aw11 X3.length cw11] 28) (w11.heap.size) (by simp)
  obtain ⟨hxb2_0_w11allocc, hxb2_1_w11allocc⟩ := cells2 (g := W.heap.size) (HLx12.get 9 rfl).1
  obtain ⟨hxb3_0_w11allocc, hxb3_1_w11allocc⟩ := cells2 (g := W.heap.size + 1) (HLx12.get 8 rfl).1
  obtain ⟨hxb6_0_w11allocc, hxb6_1_w11allocc⟩ := cells2 (g := w6.heap.size) (HLx12.get 5 rfl).1
  obtain ⟨hxb8_0_w11allocc, hxb8_1_w11allocc⟩ := cells2 (g := w9.heap.size) (HLx12.get 2 rfl).1
  go_wp2_with fail
  (with_reducible refine (impl_ProductOf.calls k X0 _ _ X1 X2 _ _ X3 X4 X5 X6 _ (Kd.S_reads' (HLx12.get 3 rfl)).2.2 (Kd.S_reads' (HLx12.get 3 rfl)).2.1 (Kd.S_reads' (HLx12.get 1 rfl)).2.2 (Kd.S_reads' (HLx12.get 1 rfl)).2.1 F5.out).mono ?_)
  rintro e w13 ⟨vw13_0, rfl, how13_0, hbw13⟩
  obtain ⟨Aw13, cw13, rfl⟩ := Kd.S_slice how13_0
  obtain ⟨low13, hiw13, hlw13⟩ := Live.make_S HLx12 hbw13 how13_0 (below_size (below_alloc (HBw11.out) _))
  have HLw13 := Aside0.mk hlw13
  clear hlw13 how13_0
  have HBw13 := Aside0.mk (below_step (below_alloc (HBw11.out) _) (hbw13))
  clear hbw13
  obtain ⟨hxb2_0_w13, hxb2_1_w13⟩ := cells2 (g := W.heap.size) (HLw13.out.get 10 rfl).1
  obtain ⟨hxb3_0_w13, hxb3_1_w13⟩ := cells2 (g := W.heap.size + 1) (HLw13.out.get 9 rfl).1
  obtain ⟨hxb6_0_w13, hxb6_1_w13⟩ := cells2 (g := w6.heap.size) (HLw13.out.get 6 rfl).1
  obtain ⟨hxb8_0_w13, hxb8_1_w13⟩ := cells2 (g := w9.heap.size) (HLw13.out.get 3 rfl).1
  obtain ⟨hxb9_0_w13, hxb9_1_w13⟩ := cells2 (g := w11.heap.size) (HLw13.out.get 1 rfl).1
  obtain ⟨lox14, hix14, HLx14⟩ := Live.make_box HLw13.out (.cells #[.int .i64 X4, .slice Aw13 X5.length cw13] 28) (w13.heap.size) (by simp)
  obtain ⟨hxb2_0_w13allocc, hxb2_1_w13allocc⟩ := cells2 (g := W.heap.size) (HLx14.get 11 rfl).1
  obtain ⟨hxb3_0_w13allocc, hxb3_1_w13allocc⟩ := cells2 (g := W.heap.size + 1) (HLx14.get 10 rfl).1
  obtain ⟨hxb6_0_w13allocc, hxb6_1_w13allocc⟩ := cells2 (g := w6.heap.size) (HLx14.get 7 rfl).1
  obtain ⟨hxb8_0_w13allocc, hxb8_1_w13allocc⟩ := cells2 (g := w9.heap.size) (HLx14.get 4 rfl).1
  obtain ⟨hxb9_0_w13allocc, hxb9_1_w13allocc⟩ := cells2 (g := w11.heap.size) (HLx14.get 2 rfl).1
  go_wp2_with fail
  (with_reducible refine (laws_eqAlgebra.calls k X4 _ _ X5 X4 _ _ X5 true _ (Kd.S_reads' (HLx14.get 1 rfl)).2.2 (Kd.S_reads' (HLx14.get 1 rfl)).2.1 (Kd.S_reads' (HLx14.get 6 rfl)).2.2 (Kd.S_reads' (HLx14.get 6 rfl)).2.1 F6.out).mono ?_)
  rintro e w15 ⟨rfl, hbw15⟩
  have HLw15 := Aside0.mk (HLx14.below hbw15)
  have HBw15 := Aside0.mk (below_step (below_alloc (HBw13.out) _) (hbw15))
  clear hbw15
  obtain ⟨hxb2_0_w15, hxb2_1_w15⟩ := cells2 (g := W.heap.size) (HLw15.out.get 11 rfl).1
  obtain ⟨hxb3_0_w15, hxb3_1_w15⟩ := cells2 (g := W.heap.size + 1) (HLw15.out.get 10 rfl).1
  obtain ⟨hxb6_0_w15, hxb6_1_w15⟩ := cells2 (g := w6.heap.size) (HLw15.out.get 7 rfl).1
  obtain ⟨hxb8_0_w15, hxb8_1_w15⟩ := cells2 (g := w9.heap.size) (HLw15.out.get 4 rfl).1
  obtain ⟨hxb9_0_w15, hxb9_1_w15⟩ := cells2 (g := w11.heap.size) (HLw15.out.get 2 rfl).1
  obtain ⟨hxb10_0_w15, hxb10_1_w15⟩ := cells2 (g := w13.heap.size) (HLw15.out.get 0 rfl).1
  go_wp2_with fail
  go_region_held3 (fun w' => w'.cell? ⟨W.heap.size, 0, none⟩ = some (.int .i64 a0) ∧ w'.cell? ⟨W.heap.size, 1, none⟩ = some (.slice A0 l0.length c0) ∧ w'.cell? ⟨W.heap.size + 1, 0, none⟩ = some (.int .i64 a1) ∧ w'.cell? ⟨W.heap.size + 1, 1, none⟩ = some (.slice A1 l1.length c1) ∧ w'.cell? ⟨w6.heap.size, 0, none⟩ = some (.int .i64 X4) ∧ w'.cell? ⟨w6.heap.size, 1, none⟩ = some (.slice Aw7 X5.length cw7) ∧ w'.cell? ⟨w9.heap.size, 0, none⟩ = some (.int .i64 X0) ∧ w'.cell? ⟨w9.heap.size, 1, none⟩ = some (.slice Aw9 X1.length cw9) ∧ w'.cell? ⟨w11.heap.size, 0, none⟩ = some (.int .i64 X2) ∧ w'.cell? ⟨w11.heap.size, 1, none⟩ = some (.slice Aw11 X3.length cw11) ∧ w'.cell? ⟨w13.heap.size, 0, none⟩ = some (.int .i64 X4) ∧ w'.cell? ⟨w13.heap.size, 1, none⟩ = some (.slice Aw13 X5.length cw13)) (first | (simp [*]; done) | go_keep) (first | (go_at_call 9; (with_reducible refine (laws_toAlgebra.calls k a0 _ _ l0 X0 X1 _ (Kd.C_below HR0.out (below_drew1 (HBw15.out))) HC0.out F2.out).mono ?_); rintro e w16 ⟨vw16_0, rfl, how16_0, hbw16⟩; obtain ⟨Aw16, cw16, rfl⟩ := Kd.S_slice how16_0; obtain ⟨low16, hiw16, hlw16⟩ := Live.make_S (Live.drew HLw15.out) hbw16 how16_0 (below_size (below_drew1 (HBw15.out))); have HLw16 := Aside0.mk hlw16; clear hlw16 how16_0; have HBw16 := Aside0.mk (below_step (below_drew1 (HBw15.out)) (hbw16)); clear hbw16; obtain ⟨hxb2_0_w16, hxb2_1_w16⟩ := cells2 (g := W.heap.size) (HLw16.out.get 12 rfl).1; obtain ⟨hxb3_0_w16, hxb3_1_w16⟩ := cells2 (g := W.heap.size + 1) (HLw16.out.get 11 rfl).1; obtain ⟨hxb6_0_w16, hxb6_1_w16⟩ := cells2 (g := w6.heap.size) (HLw16.out.get 8 rfl).1; obtain ⟨hxb8_0_w16, hxb8_1_w16⟩ := cells2 (g := w9.heap.size) (HLw16.out.get 5 rfl).1; obtain ⟨hxb9_0_w16, hxb9_1_w16⟩ := cells2 (g := w11.heap.size) (HLw16.out.get 3 rfl).1; obtain ⟨hxb10_0_w16, hxb10_1_w16⟩ := cells2 (g := w13.heap.size) (HLw16.out.get 1 rfl).1) | (go_at_call 11; (with_reducible refine (laws_eqAlgebra.calls k X0 _ _ X1 X0 _ _ X1 true _ (Kd.S_reads' (HLw16.out.get 6 rfl)).2.2 (Kd.S_reads' (HLw16.out.get 6 rfl)).2.1 (Kd.S_reads' (HLw16.out.get 0 rfl)).2.2 (Kd.S_reads' (HLw16.out.get 0 rfl)).2.1 F7.out).mono ?_); rintro e w17 ⟨rfl, hbw17⟩; have HLw17 := Aside0.mk (HLw16.out.below hbw17); have HBw17 := Aside0.mk (below_step (HBw16.out) (hbw17)); clear hbw17; obtain ⟨hxb2_0_w17, hxb2_1_w17⟩ := cells2 (g := W.heap.size) (HLw17.out.get 12 rfl).1; obtain ⟨hxb3_0_w17, hxb3_1_w17⟩ := cells2 (g := W.heap.size + 1) (HLw17.out.get 11 rfl).1; obtain ⟨hxb6_0_w17, hxb6_1_w17⟩ := cells2 (g := w6.heap.size) (HLw17.out.get 8 rfl).1; obtain ⟨hxb8_0_w17, hxb8_1_w17⟩ := cells2 (g := w9.heap.size) (HLw17.out.get 5 rfl).1; obtain ⟨hxb9_0_w17, hxb9_1_w17⟩ := cells2 (g := w11.heap.size) (HLw17.out.get 3 rfl).1; obtain ⟨hxb10_0_w17, hxb10_1_w17⟩ := cells2 (g := w13.heap.size) (HLw17.out.get 1 rfl).1))
  go_wp2_with fail
  go_region_held3 (fun w' => w'.cell? ⟨W.heap.size, 0, none⟩ = some (.int .i64 a0) ∧ w'.cell? ⟨W.heap.size, 1, none⟩ = some (.slice A0 l0.length c0) ∧ w'.cell? ⟨W.heap.size + 1, 0, none⟩ = some (.int .i64 a1) ∧ w'.cell? ⟨W.heap.size + 1, 1, none⟩ = some (.slice A1 l1.length c1) ∧ w'.cell? ⟨w6.heap.size, 0, none⟩ = some (.int .i64 X4) ∧ w'.cell? ⟨w6.heap.size, 1, none⟩ = some (.slice Aw7 X5.length cw7) ∧ w'.cell? ⟨w9.heap.size, 0, none⟩ = some (.int .i64 X0) ∧ w'.cell? ⟨w9.heap.size, 1, none⟩ = some (.slice Aw9 X1.length cw9) ∧ w'.cell? ⟨w11.heap.size, 0, none⟩ = some (.int .i64 X2) ∧ w'.cell? ⟨w11.heap.size, 1, none⟩ = some (.slice Aw11 X3.length cw11) ∧ w'.cell? ⟨w13.heap.size, 0, none⟩ = some (.int .i64 X4) ∧ w'.cell? ⟨w13.heap.size, 1, none⟩ = some (.slice Aw13 X5.length cw13)) (first | (simp [*]; done) | go_keep) (first | (go_at_call 9; (with_reducible refine (laws_toAlgebra.calls k a1 _ _ l1 X2 X3 _ (Kd.C_below HR1.out (below_drew1 (HBw17.out))) HC1.out F3.out).mono ?_); rintro e w18 ⟨vw18_0, rfl, how18_0, hbw18⟩; obtain ⟨Aw18, cw18, rfl⟩ := Kd.S_slice how18_0; obtain ⟨low18, hiw18, hlw18⟩ := Live.make_S (Live.drew HLw17.out) hbw18 how18_0 (below_size (below_drew1 (HBw17.out))); have HLw18 := Aside0.mk hlw18; clear hlw18 how18_0; have HBw18 := Aside0.mk (below_step (below_drew1 (HBw17.out)) (hbw18)); clear hbw18; obtain ⟨hxb2_0_w18, hxb2_1_w18⟩ := cells2 (g := W.heap.size) (HLw18.out.get 13 rfl).1; obtain ⟨hxb3_0_w18, hxb3_1_w18⟩ := cells2 (g := W.heap.size + 1) (HLw18.out.get 12 rfl).1; obtain ⟨hxb6_0_w18, hxb6_1_w18⟩ := cells2 (g := w6.heap.size) (HLw18.out.get 9 rfl).1; obtain ⟨hxb8_0_w18, hxb8_1_w18⟩ := cells2 (g := w9.heap.size) (HLw18.out.get 6 rfl).1; obtain ⟨hxb9_0_w18, hxb9_1_w18⟩ := cells2 (g := w11.heap.size) (HLw18.out.get 4 rfl).1; obtain ⟨hxb10_0_w18, hxb10_1_w18⟩ := cells2 (g := w13.heap.size) (HLw18.out.get 2 rfl).1) | (go_at_call 11; (with_reducible refine (laws_eqAlgebra.calls k X2 _ _ X3 X2 _ _ X3 true _ (Kd.S_reads' (HLw18.out.get 5 rfl)).2.2 (Kd.S_reads' (HLw18.out.get 5 rfl)).2.1 (Kd.S_reads' (HLw18.out.get 0 rfl)).2.2 (Kd.S_reads' (HLw18.out.get 0 rfl)).2.1 F8.out).mono ?_); rintro e w19 ⟨rfl, hbw19⟩; have HLw19 := Aside0.mk (HLw18.out.below hbw19); have HBw19 := Aside0.mk (below_step (HBw18.out) (hbw19)); clear hbw19; obtain ⟨hxb2_0_w19, hxb2_1_w19⟩ := cells2 (g := W.heap.size) (HLw19.out.get 13 rfl).1; obtain ⟨hxb3_0_w19, hxb3_1_w19⟩ := cells2 (g := W.heap.size + 1) (HLw19.out.get 12 rfl).1; obtain ⟨hxb6_0_w19, hxb6_1_w19⟩ := cells2 (g := w6.heap.size) (HLw19.out.get 9 rfl).1; obtain ⟨hxb8_0_w19, hxb8_1_w19⟩ := cells2 (g := w9.heap.size) (HLw19.out.get 6 rfl).1; obtain ⟨hxb9_0_w19, hxb9_1_w19⟩ := cells2 (g := w11.heap.size) (HLw19.out.get 4 rfl).1; obtain ⟨hxb10_0_w19, hxb10_1_w19⟩ := cells2 (g := w13.heap.size) (HLw19.out.get 2 rfl).1))
  go_wp2_with fail
  (with_reducible refine (laws_markAlgebra.marks X0 (fun k => low9 ≤ k ∧ k < hiw9) _ X1 1 W _ (HBw19.out) (HLw19.out.get 7 rfl) (by have := HBD.out; omega) (by have := HBD.out; omega)).mono ?_)
  rintro e w20 ⟨rfl, hm1, hm2, hm3⟩
  have HLw20 := Aside0.mk (Live.mark HLw19.out 7 rfl hm3 (seg_S hm1 (fun k hk _ _ => hk) (Nat.le_refl _)))
  have HBw20 := Aside0.mk hm2
  clear hm1 hm2 hm3
  obtain ⟨hxb2_0_w20, hxb2_1_w20⟩ := cells2 (g := W.heap.size) (HLw20.out.get 13 rfl).1
  obtain ⟨hxb3_0_w20, hxb3_1_w20⟩ := cells2 (g := W.heap.size + 1) (HLw20.out.get 12 rfl).1
  obtain ⟨hxb6_0_w20, hxb6_1_w20⟩ := cells2 (g := w6.heap.size) (HLw20.out.get 9 rfl).1
  obtain ⟨hxb8_0_w20, hxb8_1_w20⟩ := cells2 (g := w9.heap.size) (HLw20.out.get 6 rfl).1
  obtain ⟨hxb9_0_w20, hxb9_1_w20⟩ := cells2 (g := w11.heap.size) (HLw20.out.get 4 rfl).1
  obtain ⟨hxb10_0_w20, hxb10_1_w20⟩ := cells2 (g := w13.heap.size) (HLw20.out.get 2 rfl).1
  go_wp2_with fail
  (with_reducible refine (laws_markAlgebra.marks X2 (fun k => low11 ≤ k ∧ k < hiw11) _ X3 (1 + (totO X1 : Int)) W _ (HBw20.out) (HLw20.out.get 5 rfl) (by have := HBD.out; omega) (by have := HBD.out; omega)).mono ?_)
  rintro e w21 ⟨rfl, hm1, hm2, hm3⟩
  have HLw21 := Aside0.mk (Live.mark HLw20.out 5 rfl hm3 (seg_S hm1 (fun k hk _ _ => hk) (Nat.le_refl _)))
  have HBw21 := Aside0.mk hm2
  clear hm1 hm2 hm3
  obtain ⟨hxb2_0_w21, hxb2_1_w21⟩ := cells2 (g := W.heap.size) (HLw21.out.get 13 rfl).1
  obtain ⟨hxb3_0_w21, hxb3_1_w21⟩ := cells2 (g := W.heap.size + 1) (HLw21.out.get 12 rfl).1
  obtain ⟨hxb6_0_w21, hxb6_1_w21⟩ := cells2 (g := w6.heap.size) (HLw21.out.get 9 rfl).1
  obtain ⟨hxb8_0_w21, hxb8_1_w21⟩ := cells2 (g := w9.heap.size) (HLw21.out.get 6 rfl).1
  obtain ⟨hxb9_0_w21, hxb9_1_w21⟩ := cells2 (g := w11.heap.size) (HLw21.out.get 4 rfl).1
  obtain ⟨hxb10_0_w21, hxb10_1_w21⟩ := cells2 (g := w13.heap.size) (HLw21.out.get 2 rfl).1
  go_wp2_with fail
  (with_reducible refine (laws_eqAlgebra.calls k X4 _ _ X5 X4 _ _ X5 true _ (Kd.S_reads' (HLw21.out.get 3 rfl)).2.2 (Kd.S_reads' (HLw21.out.get 3 rfl)).2.1 (Kd.S_reads' (HLw21.out.get 8 rfl)).2.2 (Kd.S_reads' (HLw21.out.get 8 rfl)).2.1 F6.out).mono ?_)
  rintro e w22 ⟨rfl, hbw22⟩
  have HLw22 := Aside0.mk (HLw21.out.below hbw22)
  have HBw22 := Aside0.mk (below_step (HBw21.out) (hbw22))
  clear hbw22
  obtain ⟨hxb2_0_w22, hxb2_1_w22⟩ := cells2 (g := W.heap.size) (HLw22.out.get 13 rfl).1
  obtain ⟨hxb3_0_w22, hxb3_1_w22⟩ := cells2 (g := W.heap.size + 1) (HLw22.out.get 12 rfl).1
  obtain ⟨hxb6_0_w22, hxb6_1_w22⟩ := cells2 (g := w6.heap.size) (HLw22.out.get 9 rfl).1
  obtain ⟨hxb8_0_w22, hxb8_1_w22⟩ := cells2 (g := w9.heap.size) (HLw22.out.get 6 rfl).1
  obtain ⟨hxb9_0_w22, hxb9_1_w22⟩ := cells2 (g := w11.heap.size) (HLw22.out.get 4 rfl).1
  obtain ⟨hxb10_0_w22, hxb10_1_w22⟩ := cells2 (g := w13.heap.size) (HLw22.out.get 2 rfl).1
  go_wp2_with fail
  (with_reducible refine (laws_markAlgebra.marks X4 (fun k => low13 ≤ k ∧ k < hiw13) _ X5 1 W _ (HBw22.out) (HLw22.out.get 3 rfl) (by have := HBD.out; omega) (by have := HBD.out; omega)).mono ?_)
  rintro e w23 ⟨rfl, hm1, hm2, hm3⟩
  have HLw23 := Aside0.mk (Live.mark HLw22.out 3 rfl hm3 (seg_S hm1 (fun k hk _ _ => hk) (Nat.le_refl _)))
  have HBw23 := Aside0.mk hm2
  clear hm1 hm2 hm3
  obtain ⟨hxb2_0_w23, hxb2_1_w23⟩ := cells2 (g := W.heap.size) (HLw23.out.get 13 rfl).1
  obtain ⟨hxb3_0_w23, hxb3_1_w23⟩ := cells2 (g := W.heap.size + 1) (HLw23.out.get 12 rfl).1
  obtain ⟨hxb6_0_w23, hxb6_1_w23⟩ := cells2 (g := w6.heap.size) (HLw23.out.get 9 rfl).1
  obtain ⟨hxb8_0_w23, hxb8_1_w23⟩ := cells2 (g := w9.heap.size) (HLw23.out.get 6 rfl).1
  obtain ⟨hxb9_0_w23, hxb9_1_w23⟩ := cells2 (g := w11.heap.size) (HLw23.out.get 4 rfl).1
  obtain ⟨hxb10_0_w23, hxb10_1_w23⟩ := cells2 (g := w13.heap.size) (HLw23.out.get 2 rfl).1
  go_wp2_with fail
  have r_ := (Kd.S_reads' (HLw23.out.get 3 rfl)).2
  have q_ := laws_heldAlgebra.calls k X4 _ _ (mkOps X5 1) 1 (1 + (totO X5 : Int)) _ (by first | exact r_.2 | (rw [mkOps_length]; exact r_.2)) (by first | exact r_.1 | (rw [mkOps_length]; exact r_.1)) F9.out
  rw [mkOps_length] at q_
  (with_reducible refine q_.mono ?_)
  clear q_ r_
  rintro e w24 ⟨rfl, hbw24⟩
  have HLw24 := Aside0.mk (HLw23.out.below hbw24)
  have HBw24 := Aside0.mk (below_step (HBw23.out) (hbw24))
  clear hbw24
  obtain ⟨hxb2_0_w24, hxb2_1_w24⟩ := cells2 (g := W.heap.size) (HLw24.out.get 13 rfl).1
  obtain ⟨hxb3_0_w24, hxb3_1_w24⟩ := cells2 (g := W.heap.size + 1) (HLw24.out.get 12 rfl).1
  obtain ⟨hxb6_0_w24, hxb6_1_w24⟩ := cells2 (g := w6.heap.size) (HLw24.out.get 9 rfl).1
  obtain ⟨hxb8_0_w24, hxb8_1_w24⟩ := cells2 (g := w9.heap.size) (HLw24.out.get 6 rfl).1
  obtain ⟨hxb9_0_w24, hxb9_1_w24⟩ := cells2 (g := w11.heap.size) (HLw24.out.get 4 rfl).1
  obtain ⟨hxb10_0_w24, hxb10_1_w24⟩ := cells2 (g := w13.heap.size) (HLw24.out.get 2 rfl).1
  go_wp2_with fail
  go_region_held3 (fun w' => w'.cell? ⟨W.heap.size, 0, none⟩ = some (.int .i64 a0) ∧ w'.cell? ⟨W.heap.size, 1, none⟩ = some (.slice A0 l0.length c0) ∧ w'.cell? ⟨W.heap.size + 1, 0, none⟩ = some (.int .i64 a1) ∧ w'.cell? ⟨W.heap.size + 1, 1, none⟩ = some (.slice A1 l1.length c1) ∧ w'.cell? ⟨w6.heap.size, 0, none⟩ = some (.int .i64 X4) ∧ w'.cell? ⟨w6.heap.size, 1, none⟩ = some (.slice Aw7 X5.length cw7) ∧ w'.cell? ⟨w9.heap.size, 0, none⟩ = some (.int .i64 X0) ∧ w'.cell? ⟨w9.heap.size, 1, none⟩ = some (.slice Aw9 X1.length cw9) ∧ w'.cell? ⟨w11.heap.size, 0, none⟩ = some (.int .i64 X2) ∧ w'.cell? ⟨w11.heap.size, 1, none⟩ = some (.slice Aw11 X3.length cw11) ∧ w'.cell? ⟨w13.heap.size, 0, none⟩ = some (.int .i64 X4) ∧ w'.cell? ⟨w13.heap.size, 1, none⟩ = some (.slice Aw13 X5.length cw13)) (first | (simp [*]; done) | go_keep) (first | (go_at_call 9; (with_reducible refine (laws_toAlgebra.calls k a0 _ _ l0 X0 X1 _ (Kd.C_below HR0.out (below_drew1 (HBw24.out))) HC0.out F2.out).mono ?_); rintro e w25 ⟨vw25_0, rfl, how25_0, hbw25⟩; obtain ⟨Aw25, cw25, rfl⟩ := Kd.S_slice how25_0; obtain ⟨low25, hiw25, hlw25⟩ := Live.make_S (Live.drew HLw24.out) hbw25 how25_0 (below_size (below_drew1 (HBw24.out))); have HLw25 := Aside0.mk hlw25; clear hlw25 how25_0; have HBw25 := Aside0.mk (below_step (below_drew1 (HBw24.out)) (hbw25)); clear hbw25; obtain ⟨hxb2_0_w25, hxb2_1_w25⟩ := cells2 (g := W.heap.size) (HLw25.out.get 14 rfl).1; obtain ⟨hxb3_0_w25, hxb3_1_w25⟩ := cells2 (g := W.heap.size + 1) (HLw25.out.get 13 rfl).1; obtain ⟨hxb6_0_w25, hxb6_1_w25⟩ := cells2 (g := w6.heap.size) (HLw25.out.get 10 rfl).1; obtain ⟨hxb8_0_w25, hxb8_1_w25⟩ := cells2 (g := w9.heap.size) (HLw25.out.get 7 rfl).1; obtain ⟨hxb9_0_w25, hxb9_1_w25⟩ := cells2 (g := w11.heap.size) (HLw25.out.get 5 rfl).1; obtain ⟨hxb10_0_w25, hxb10_1_w25⟩ := cells2 (g := w13.heap.size) (HLw25.out.get 3 rfl).1) | (go_at_call 9; (with_reducible refine (laws_toAlgebra.calls k a1 _ _ l1 X2 X3 _ (Kd.C_below HR1.out (HBw25.out)) HC1.out F3.out).mono ?_); rintro e w26 ⟨vw26_0, rfl, how26_0, hbw26⟩; obtain ⟨Aw26, cw26, rfl⟩ := Kd.S_slice how26_0; obtain ⟨low26, hiw26, hlw26⟩ := Live.make_S HLw25.out hbw26 how26_0 (below_size (HBw25.out)); have HLw26 := Aside0.mk hlw26; clear hlw26 how26_0; have HBw26 := Aside0.mk (below_step (HBw25.out) (hbw26)); clear hbw26; obtain ⟨hxb2_0_w26, hxb2_1_w26⟩ := cells2 (g := W.heap.size) (HLw26.out.get 15 rfl).1; obtain ⟨hxb3_0_w26, hxb3_1_w26⟩ := cells2 (g := W.heap.size + 1) (HLw26.out.get 14 rfl).1; obtain ⟨hxb6_0_w26, hxb6_1_w26⟩ := cells2 (g := w6.heap.size) (HLw26.out.get 11 rfl).1; obtain ⟨hxb8_0_w26, hxb8_1_w26⟩ := cells2 (g := w9.heap.size) (HLw26.out.get 8 rfl).1; obtain ⟨hxb9_0_w26, hxb9_1_w26⟩ := cells2 (g := w11.heap.size) (HLw26.out.get 6 rfl).1; obtain ⟨hxb10_0_w26, hxb10_1_w26⟩ := cells2 (g := w13.heap.size) (HLw26.out.get 4 rfl).1) | (go_at_call 10; (with_reducible refine (impl_ProductOf.calls k X0 _ _ X1 X2 _ _ X3 X4 X5 X6 _ (Kd.S_reads' (HLw26.out.get 1 rfl)).2.2 (Kd.S_reads' (HLw26.out.get 1 rfl)).2.1 (Kd.S_reads' (HLw26.out.get 0 rfl)).2.2 (Kd.S_reads' (HLw26.out.get 0 rfl)).2.1 F5.out).mono ?_); rintro e w27 ⟨vw27_0, rfl, how27_0, hbw27⟩; obtain ⟨Aw27, cw27, rfl⟩ := Kd.S_slice how27_0; obtain ⟨low27, hiw27, hlw27⟩ := Live.make_S HLw26.out hbw27 how27_0 (below_size (HBw26.out)); have HLw27 := Aside0.mk hlw27; clear hlw27 how27_0; have HBw27 := Aside0.mk (below_step (HBw26.out) (hbw27)); clear hbw27; obtain ⟨hxb2_0_w27, hxb2_1_w27⟩ := cells2 (g := W.heap.size) (HLw27.out.get 16 rfl).1; obtain ⟨hxb3_0_w27, hxb3_1_w27⟩ := cells2 (g := W.heap.size + 1) (HLw27.out.get 15 rfl).1; obtain ⟨hxb6_0_w27, hxb6_1_w27⟩ := cells2 (g := w6.heap.size) (HLw27.out.get 12 rfl).1; obtain ⟨hxb8_0_w27, hxb8_1_w27⟩ := cells2 (g := w9.heap.size) (HLw27.out.get 9 rfl).1; obtain ⟨hxb9_0_w27, hxb9_1_w27⟩ := cells2 (g := w11.heap.size) (HLw27.out.get 7 rfl).1; obtain ⟨hxb10_0_w27, hxb10_1_w27⟩ := cells2 (g := w13.heap.size) (HLw27.out.get 5 rfl).1; have hna2_27 := Nat.ne_of_lt (blk_lt (HLw27.out.get 16 rfl).1); have hnb2_27 := hna2_27.symm; have hna3_27 := Nat.ne_of_lt (blk_lt (HLw27.out.get 15 rfl).1); have hnb3_27 := hna3_27.symm; have hna6_27 := Nat.ne_of_lt (blk_lt (HLw27.out.get 12 rfl).1); have hnb6_27 := hna6_27.symm; have hna8_27 := Nat.ne_of_lt (blk_lt (HLw27.out.get 9 rfl).1); have hnb8_27 := hna8_27.symm; have hna9_27 := Nat.ne_of_lt (blk_lt (HLw27.out.get 7 rfl).1); have hnb9_27 := hna9_27.symm; have hna10_27 := Nat.ne_of_lt (blk_lt (HLw27.out.get 5 rfl).1); have hnb10_27 := hna10_27.symm; obtain ⟨lox27z15, hix27z15, HLx27z15⟩ := Live.make_box HLw27.out (.cells #[.int .i64 0, .slice none 0 0] 28) (w27.heap.size) (by first | rfl | simp); have hGx27z15 := below_size (HBw27.out); have hz15_0 : (w27.alloc (.cells #[.int .i64 0, .slice none 0 0] 28)).cell? ⟨w27.heap.size, 0, none⟩ = some (.int .i64 0) := (blk_cell (HLx27z15.get 0 rfl).1 0).trans rfl; have hfz15_0 := blk_frozen (HLx27z15.get 0 rfl).1 0; have hz15_1 : (w27.alloc (.cells #[.int .i64 0, .slice none 0 0] 28)).cell? ⟨w27.heap.size, 1, none⟩ = some (.slice none 0 0) := (blk_cell (HLx27z15.get 0 rfl).1 1).trans rfl; have hfz15_1 := blk_frozen (HLx27z15.get 0 rfl).1 1) | (go_at_call 10; have hna2_26 := Nat.ne_of_lt (blk_lt (HLw26.out.get 15 rfl).1); have hnb2_26 := hna2_26.symm; have hna3_26 := Nat.ne_of_lt (blk_lt (HLw26.out.get 14 rfl).1); have hnb3_26 := hna3_26.symm; have hna6_26 := Nat.ne_of_lt (blk_lt (HLw26.out.get 11 rfl).1); have hnb6_26 := hna6_26.symm; have hna8_26 := Nat.ne_of_lt (blk_lt (HLw26.out.get 8 rfl).1); have hnb8_26 := hna8_26.symm; have hna9_26 := Nat.ne_of_lt (blk_lt (HLw26.out.get 6 rfl).1); have hnb9_26 := hna9_26.symm; have hna10_26 := Nat.ne_of_lt (blk_lt (HLw26.out.get 4 rfl).1); have hnb10_26 := hna10_26.symm; obtain ⟨lox26z15, hix26z15, HLx26z15⟩ := Live.make_box HLw26.out (.cells #[.int .i64 0, .slice none 0 0] 28) (w26.heap.size) (by first | rfl | simp); have hGx26z15 := below_size (HBw26.out); (with_reducible refine (impl_ProductOf.calls k X0 _ _ X1 X2 _ _ X3 X4 X5 X6 _ (Kd.S_reads' (HLx26z15.get 2 rfl)).2.2 (Kd.S_reads' (HLx26z15.get 2 rfl)).2.1 (Kd.S_reads' (HLx26z15.get 1 rfl)).2.2 (Kd.S_reads' (HLx26z15.get 1 rfl)).2.1 F5.out).mono ?_); rintro e w27 ⟨vw27_0, rfl, how27_0, hbw27⟩; obtain ⟨Aw27, cw27, rfl⟩ := Kd.S_slice how27_0; obtain ⟨low27, hiw27, hlw27⟩ := Live.make_S HLx26z15 hbw27 how27_0 (below_size (below_alloc (HBw26.out) _)); have HLw27 := Aside0.mk hlw27; clear hlw27 how27_0; have HBw27 := Aside0.mk (below_step (below_alloc (HBw26.out) _) (hbw27)); clear hbw27; obtain ⟨hxb2_0_w27, hxb2_1_w27⟩ := cells2 (g := W.heap.size) (HLw27.out.get 17 rfl).1; obtain ⟨hxb3_0_w27, hxb3_1_w27⟩ := cells2 (g := W.heap.size + 1) (HLw27.out.get 16 rfl).1; obtain ⟨hxb6_0_w27, hxb6_1_w27⟩ := cells2 (g := w6.heap.size) (HLw27.out.get 13 rfl).1; obtain ⟨hxb8_0_w27, hxb8_1_w27⟩ := cells2 (g := w9.heap.size) (HLw27.out.get 10 rfl).1; obtain ⟨hxb9_0_w27, hxb9_1_w27⟩ := cells2 (g := w11.heap.size) (HLw27.out.get 8 rfl).1; obtain ⟨hxb10_0_w27, hxb10_1_w27⟩ := cells2 (g := w13.heap.size) (HLw27.out.get 6 rfl).1; have hz15_0 : w27.cell? ⟨w26.heap.size, 0, none⟩ = some (.int .i64 0) := (blk_cell (HLw27.out.get 1 rfl).1 0).trans rfl; have hfz15_0 := blk_frozen (HLw27.out.get 1 rfl).1 0; have hz15_1 : w27.cell? ⟨w26.heap.size, 1, none⟩ = some (.slice none 0 0) := (blk_cell (HLw27.out.get 1 rfl).1 1).trans rfl; have hfz15_1 := blk_frozen (HLw27.out.get 1 rfl).1 1) | (go_at_call 9; have hna2_25 := Nat.ne_of_lt (blk_lt (HLw25.out.get 14 rfl).1); have hnb2_25 := hna2_25.symm; have hna3_25 := Nat.ne_of_lt (blk_lt (HLw25.out.get 13 rfl).1); have hnb3_25 := hna3_25.symm; have hna6_25 := Nat.ne_of_lt (blk_lt (HLw25.out.get 10 rfl).1); have hnb6_25 := hna6_25.symm; have hna8_25 := Nat.ne_of_lt (blk_lt (HLw25.out.get 7 rfl).1); have hnb8_25 := hna8_25.symm; have hna9_25 := Nat.ne_of_lt (blk_lt (HLw25.out.get 5 rfl).1); have hnb9_25 := hna9_25.symm; have hna10_25 := Nat.ne_of_lt (blk_lt (HLw25.out.get 3 rfl).1); have hnb10_25 := hna10_25.symm; obtain ⟨lox25z15, hix25z15, HLx25z15⟩ := Live.make_box HLw25.out (.cells #[.int .i64 0, .slice none 0 0] 28) (w25.heap.size) (by first | rfl | simp); have hGx25z15 := below_size (HBw25.out); (with_reducible refine (laws_toAlgebra.calls k a1 _ _ l1 X2 X3 _ (Kd.C_below HR1.out (below_alloc (HBw25.out) _)) HC1.out F3.out).mono ?_); rintro e w26 ⟨vw26_0, rfl, how26_0, hbw26⟩; obtain ⟨Aw26, cw26, rfl⟩ := Kd.S_slice how26_0; obtain ⟨low26, hiw26, hlw26⟩ := Live.make_S HLx25z15 hbw26 how26_0 (below_size (below_alloc (HBw25.out) _)); have HLw26 := Aside0.mk hlw26; clear hlw26 how26_0; have HBw26 := Aside0.mk (below_step (below_alloc (HBw25.out) _) (hbw26)); clear hbw26; obtain ⟨hxb2_0_w26, hxb2_1_w26⟩ := cells2 (g := W.heap.size) (HLw26.out.get 16 rfl).1; obtain ⟨hxb3_0_w26, hxb3_1_w26⟩ := cells2 (g := W.heap.size + 1) (HLw26.out.get 15 rfl).1; obtain ⟨hxb6_0_w26, hxb6_1_w26⟩ := cells2 (g := w6.heap.size) (HLw26.out.get 12 rfl).1; obtain ⟨hxb8_0_w26, hxb8_1_w26⟩ := cells2 (g := w9.heap.size) (HLw26.out.get 9 rfl).1; obtain ⟨hxb9_0_w26, hxb9_1_w26⟩ := cells2 (g := w11.heap.size) (HLw26.out.get 7 rfl).1; obtain ⟨hxb10_0_w26, hxb10_1_w26⟩ := cells2 (g := w13.heap.size) (HLw26.out.get 5 rfl).1) | (go_at_call 10; (with_reducible refine (impl_ProductOf.calls k X0 _ _ X1 X2 _ _ X3 X4 X5 X6 _ (Kd.S_reads' (HLw26.out.get 2 rfl)).2.2 (Kd.S_reads' (HLw26.out.get 2 rfl)).2.1 (Kd.S_reads' (HLw26.out.get 0 rfl)).2.2 (Kd.S_reads' (HLw26.out.get 0 rfl)).2.1 F5.out).mono ?_); rintro e w27 ⟨vw27_0, rfl, how27_0, hbw27⟩; obtain ⟨Aw27, cw27, rfl⟩ := Kd.S_slice how27_0; obtain ⟨low27, hiw27, hlw27⟩ := Live.make_S HLw26.out hbw27 how27_0 (below_size (HBw26.out)); have HLw27 := Aside0.mk hlw27; clear hlw27 how27_0; have HBw27 := Aside0.mk (below_step (HBw26.out) (hbw27)); clear hbw27; obtain ⟨hxb2_0_w27, hxb2_1_w27⟩ := cells2 (g := W.heap.size) (HLw27.out.get 17 rfl).1; obtain ⟨hxb3_0_w27, hxb3_1_w27⟩ := cells2 (g := W.heap.size + 1) (HLw27.out.get 16 rfl).1; obtain ⟨hxb6_0_w27, hxb6_1_w27⟩ := cells2 (g := w6.heap.size) (HLw27.out.get 13 rfl).1; obtain ⟨hxb8_0_w27, hxb8_1_w27⟩ := cells2 (g := w9.heap.size) (HLw27.out.get 10 rfl).1; obtain ⟨hxb9_0_w27, hxb9_1_w27⟩ := cells2 (g := w11.heap.size) (HLw27.out.get 8 rfl).1; obtain ⟨hxb10_0_w27, hxb10_1_w27⟩ := cells2 (g := w13.heap.size) (HLw27.out.get 6 rfl).1; have hz15_0 : w27.cell? ⟨w25.heap.size, 0, none⟩ = some (.int .i64 0) := (blk_cell (HLw27.out.get 2 rfl).1 0).trans rfl; have hfz15_0 := blk_frozen (HLw27.out.get 2 rfl).1 0; have hz15_1 : w27.cell? ⟨w25.heap.size, 1, none⟩ = some (.slice none 0 0) := (blk_cell (HLw27.out.get 2 rfl).1 1).trans rfl; have hfz15_1 := blk_frozen (HLw27.out.get 2 rfl).1 1) | (go_at_call 9; have hna2_24 := Nat.ne_of_lt (blk_lt (HLw24.out.get 13 rfl).1); have hnb2_24 := hna2_24.symm; have hna3_24 := Nat.ne_of_lt (blk_lt (HLw24.out.get 12 rfl).1); have hnb3_24 := hna3_24.symm; have hna6_24 := Nat.ne_of_lt (blk_lt (HLw24.out.get 9 rfl).1); have hnb6_24 := hna6_24.symm; have hna8_24 := Nat.ne_of_lt (blk_lt (HLw24.out.get 6 rfl).1); have hnb8_24 := hna8_24.symm; have hna9_24 := Nat.ne_of_lt (blk_lt (HLw24.out.get 4 rfl).1); have hnb9_24 := hna9_24.symm; have hna10_24 := Nat.ne_of_lt (blk_lt (HLw24.out.get 2 rfl).1); have hnb10_24 := hna10_24.symm; obtain ⟨lox24z15, hix24z15, HLx24z15⟩ := Live.make_box HLw24.out (.cells #[.int .i64 0, .slice none 0 0] 28) (w24.heap.size) (by first | rfl | simp); have hGx24z15 := below_size (HBw24.out); (with_reducible refine (laws_toAlgebra.calls k a0 _ _ l0 X0 X1 _ (Kd.C_below HR0.out (below_drew1 (below_alloc (HBw24.out) _))) HC0.out F2.out).mono ?_); rintro e w25 ⟨vw25_0, rfl, how25_0, hbw25⟩; obtain ⟨Aw25, cw25, rfl⟩ := Kd.S_slice how25_0; obtain ⟨low25, hiw25, hlw25⟩ := Live.make_S (Live.drew HLx24z15) hbw25 how25_0 (below_size (below_drew1 (below_alloc (HBw24.out) _))); have HLw25 := Aside0.mk hlw25; clear hlw25 how25_0; have HBw25 := Aside0.mk (below_step (below_drew1 (below_alloc (HBw24.out) _)) (hbw25)); clear hbw25; obtain ⟨hxb2_0_w25, hxb2_1_w25⟩ := cells2 (g := W.heap.size) (HLw25.out.get 15 rfl).1; obtain ⟨hxb3_0_w25, hxb3_1_w25⟩ := cells2 (g := W.heap.size + 1) (HLw25.out.get 14 rfl).1; obtain ⟨hxb6_0_w25, hxb6_1_w25⟩ := cells2 (g := w6.heap.size) (HLw25.out.get 11 rfl).1; obtain ⟨hxb8_0_w25, hxb8_1_w25⟩ := cells2 (g := w9.heap.size) (HLw25.out.get 8 rfl).1; obtain ⟨hxb9_0_w25, hxb9_1_w25⟩ := cells2 (g := w11.heap.size) (HLw25.out.get 6 rfl).1; obtain ⟨hxb10_0_w25, hxb10_1_w25⟩ := cells2 (g := w13.heap.size) (HLw25.out.get 4 rfl).1) | (go_at_call 9; (with_reducible refine (laws_toAlgebra.calls k a1 _ _ l1 X2 X3 _ (Kd.C_below HR1.out (HBw25.out)) HC1.out F3.out).mono ?_); rintro e w26 ⟨vw26_0, rfl, how26_0, hbw26⟩; obtain ⟨Aw26, cw26, rfl⟩ := Kd.S_slice how26_0; obtain ⟨low26, hiw26, hlw26⟩ := Live.make_S HLw25.out hbw26 how26_0 (below_size (HBw25.out)); have HLw26 := Aside0.mk hlw26; clear hlw26 how26_0; have HBw26 := Aside0.mk (below_step (HBw25.out) (hbw26)); clear hbw26; obtain ⟨hxb2_0_w26, hxb2_1_w26⟩ := cells2 (g := W.heap.size) (HLw26.out.get 16 rfl).1; obtain ⟨hxb3_0_w26, hxb3_1_w26⟩ := cells2 (g := W.heap.size + 1) (HLw26.out.get 15 rfl).1; obtain ⟨hxb6_0_w26, hxb6_1_w26⟩ := cells2 (g := w6.heap.size) (HLw26.out.get 12 rfl).1; obtain ⟨hxb8_0_w26, hxb8_1_w26⟩ := cells2 (g := w9.heap.size) (HLw26.out.get 9 rfl).1; obtain ⟨hxb9_0_w26, hxb9_1_w26⟩ := cells2 (g := w11.heap.size) (HLw26.out.get 7 rfl).1; obtain ⟨hxb10_0_w26, hxb10_1_w26⟩ := cells2 (g := w13.heap.size) (HLw26.out.get 5 rfl).1) | (go_at_call 10; (with_reducible refine (impl_ProductOf.calls k X0 _ _ X1 X2 _ _ X3 X4 X5 X6 _ (Kd.S_reads' (HLw26.out.get 1 rfl)).2.2 (Kd.S_reads' (HLw26.out.get 1 rfl)).2.1 (Kd.S_reads' (HLw26.out.get 0 rfl)).2.2 (Kd.S_reads' (HLw26.out.get 0 rfl)).2.1 F5.out).mono ?_); rintro e w27 ⟨vw27_0, rfl, how27_0, hbw27⟩; obtain ⟨Aw27, cw27, rfl⟩ := Kd.S_slice how27_0; obtain ⟨low27, hiw27, hlw27⟩ := Live.make_S HLw26.out hbw27 how27_0 (below_size (HBw26.out)); have HLw27 := Aside0.mk hlw27; clear hlw27 how27_0; have HBw27 := Aside0.mk (below_step (HBw26.out) (hbw27)); clear hbw27; obtain ⟨hxb2_0_w27, hxb2_1_w27⟩ := cells2 (g := W.heap.size) (HLw27.out.get 17 rfl).1; obtain ⟨hxb3_0_w27, hxb3_1_w27⟩ := cells2 (g := W.heap.size + 1) (HLw27.out.get 16 rfl).1; obtain ⟨hxb6_0_w27, hxb6_1_w27⟩ := cells2 (g := w6.heap.size) (HLw27.out.get 13 rfl).1; obtain ⟨hxb8_0_w27, hxb8_1_w27⟩ := cells2 (g := w9.heap.size) (HLw27.out.get 10 rfl).1; obtain ⟨hxb9_0_w27, hxb9_1_w27⟩ := cells2 (g := w11.heap.size) (HLw27.out.get 8 rfl).1; obtain ⟨hxb10_0_w27, hxb10_1_w27⟩ := cells2 (g := w13.heap.size) (HLw27.out.get 6 rfl).1; have hz15_0 : w27.cell? ⟨w24.heap.size, 0, none⟩ = some (.int .i64 0) := (blk_cell (HLw27.out.get 3 rfl).1 0).trans rfl; have hfz15_0 := blk_frozen (HLw27.out.get 3 rfl).1 0; have hz15_1 : w27.cell? ⟨w24.heap.size, 1, none⟩ = some (.slice none 0 0) := (blk_cell (HLw27.out.get 3 rfl).1 1).trans rfl; have hfz15_1 := blk_frozen (HLw27.out.get 3 rfl).1 1))
  ·obtain ⟨lox28, hix28, HLx28⟩ := Live.make_box HLw27.out (.cells #[.int .i64 X4, .slice Aw27 X5.length cw27] 28) (w27.heap.size) (by simp)
   obtain ⟨hxb2_0_w27allocc, hxb2_1_w27allocc⟩ := cells2 (g := W.heap.size) (HLx28.get 17 rfl).1
   obtain ⟨hxb3_0_w27allocc, hxb3_1_w27allocc⟩ := cells2 (g := W.heap.size + 1) (HLx28.get 16 rfl).1
   obtain ⟨hxb6_0_w27allocc, hxb6_1_w27allocc⟩ := cells2 (g := w6.heap.size) (HLx28.get 13 rfl).1
   obtain ⟨hxb8_0_w27allocc, hxb8_1_w27allocc⟩ := cells2 (g := w9.heap.size) (HLx28.get 10 rfl).1
   obtain ⟨hxb9_0_w27allocc, hxb9_1_w27allocc⟩ := cells2 (g := w11.heap.size) (HLx28.get 8 rfl).1
   obtain ⟨hxb10_0_w27allocc, hxb10_1_w27allocc⟩ := cells2 (g := w13.heap.size) (HLx28.get 6 rfl).1
   go_wp2_with fail
   (with_reducible refine (laws_eqAlgebra.calls k X4 _ _ X5 X4 _ _ X5 true _ (Kd.S_reads' (HLx28.get 1 rfl)).2.2 (Kd.S_reads' (HLx28.get 1 rfl)).2.1 (Kd.S_reads' (HLx28.get 12 rfl)).2.2 (Kd.S_reads' (HLx28.get 12 rfl)).2.1 F6.out).mono ?_)
   rintro e w29 ⟨rfl, hbw29⟩
   have HLw29 := Aside0.mk (HLx28.below hbw29)
   have HBw29 := Aside0.mk (below_step (below_alloc (HBw27.out) _) (hbw29))
   clear hbw29
   obtain ⟨hxb2_0_w29, hxb2_1_w29⟩ := cells2 (g := W.heap.size) (HLw29.out.get 17 rfl).1
   obtain ⟨hxb3_0_w29, hxb3_1_w29⟩ := cells2 (g := W.heap.size + 1) (HLw29.out.get 16 rfl).1
   obtain ⟨hxb6_0_w29, hxb6_1_w29⟩ := cells2 (g := w6.heap.size) (HLw29.out.get 13 rfl).1
   obtain ⟨hxb8_0_w29, hxb8_1_w29⟩ := cells2 (g := w9.heap.size) (HLw29.out.get 10 rfl).1
   obtain ⟨hxb9_0_w29, hxb9_1_w29⟩ := cells2 (g := w11.heap.size) (HLw29.out.get 8 rfl).1
   obtain ⟨hxb10_0_w29, hxb10_1_w29⟩ := cells2 (g := w13.heap.size) (HLw29.out.get 6 rfl).1
   obtain ⟨hxb15_0_w29, hxb15_1_w29⟩ := cells2 (g := w27.heap.size) (HLw29.out.get 0 rfl).1
   go_wp2_with fail
   have r_ := (Kd.S_reads' (HLw29.out.get 7 rfl)).2
   have q_ := laws_heldAlgebra.calls k X4 _ _ (mkOps X5 1) 1 (1 + (totO X5 : Int)) _ (by first | exact r_.2 | (rw [mkOps_length]; exact r_.2)) (by first | exact r_.1 | (rw [mkOps_length]; exact r_.1)) F9.out
   rw [mkOps_length] at q_
   (with_reducible refine q_.mono ?_)
   clear q_ r_
   rintro e w30 ⟨rfl, hbw30⟩
   have HLw30 := Aside0.mk (HLw29.out.below hbw30)
   have HBw30 := Aside0.mk (below_step (HBw29.out) (hbw30))
   clear hbw30
   obtain ⟨hxb2_0_w30, hxb2_1_w30⟩ := cells2 (g := W.heap.size) (HLw30.out.get 17 rfl).1
   obtain ⟨hxb3_0_w30, hxb3_1_w30⟩ := cells2 (g := W.heap.size + 1) (HLw30.out.get 16 rfl).1
   obtain ⟨hxb6_0_w30, hxb6_1_w30⟩ := cells2 (g := w6.heap.size) (HLw30.out.get 13 rfl).1
   obtain ⟨hxb8_0_w30, hxb8_1_w30⟩ := cells2 (g := w9.heap.size) (HLw30.out.get 10 rfl).1
   obtain ⟨hxb9_0_w30, hxb9_1_w30⟩ := cells2 (g := w11.heap.size) (HLw30.out.get 8 rfl).1
   obtain ⟨hxb10_0_w30, hxb10_1_w30⟩ := cells2 (g := w13.heap.size) (HLw30.out.get 6 rfl).1
   obtain ⟨hxb15_0_w30, hxb15_1_w30⟩ := cells2 (g := w27.heap.size) (HLw30.out.get 0 rfl).1
   go_wp2
   go_ret
   exact ⟨rfl, HBw30.out⟩
  ·have HLp28 := Aside0.mk (Live.put_box (a' := .int .i64 X4) (b' := .slice Aw27 X5.length cw27) HLw27.out 1 rfl)
   have HBp28 := Aside0.mk (show Below W.heap.size W ((w27.setCell ⟨w26.heap.size, 0, none⟩ (.int .i64 X4)).setCell ⟨w26.heap.size, 1, none⟩ (.slice Aw27 X5.length cw27)) from below_set (below_set (HBw27.out) hGx26z15) hGx26z15)
   obtain ⟨hxb2_0_w27setCel, hxb2_1_w27setCel⟩ := cells2 (g := W.heap.size) (HLp28.out.get 17 rfl).1
   obtain ⟨hxb3_0_w27setCel, hxb3_1_w27setCel⟩ := cells2 (g := W.heap.size + 1) (HLp28.out.get 16 rfl).1
   obtain ⟨hxb6_0_w27setCel, hxb6_1_w27setCel⟩ := cells2 (g := w6.heap.size) (HLp28.out.get 13 rfl).1
   obtain ⟨hxb8_0_w27setCel, hxb8_1_w27setCel⟩ := cells2 (g := w9.heap.size) (HLp28.out.get 10 rfl).1
   obtain ⟨hxb9_0_w27setCel, hxb9_1_w27setCel⟩ := cells2 (g := w11.heap.size) (HLp28.out.get 8 rfl).1
   obtain ⟨hxb10_0_w27setCel, hxb10_1_w27setCel⟩ := cells2 (g := w13.heap.size) (HLp28.out.get 6 rfl).1
   obtain ⟨hxb15_0_w27setCel, hxb15_1_w27setCel⟩ := cells2 (g := w26.heap.size) (HLp28.out.get 1 rfl).1
   go_wp2_with fail
   (with_reducible refine (laws_eqAlgebra.calls k X4 _ _ X5 X4 _ _ X5 true _ (Kd.S_reads' (HLp28.out.get 0 rfl)).2.2 (Kd.S_reads' (HLp28.out.get 0 rfl)).2.1 (Kd.S_reads' (HLp28.out.get 12 rfl)).2.2 (Kd.S_reads' (HLp28.out.get 12 rfl)).2.1 F6.out).mono ?_)
   rintro e w29 ⟨rfl, hbw29⟩
   have HLw29 := Aside0.mk (HLp28.out.below hbw29)
   have HBw29 := Aside0.mk (below_step (HBp28.out) (hbw29))
   clear hbw29
   obtain ⟨hxb2_0_w29, hxb2_1_w29⟩ := cells2 (g := W.heap.size) (HLw29.out.get 17 rfl).1
   obtain ⟨hxb3_0_w29, hxb3_1_w29⟩ := cells2 (g := W.heap.size + 1) (HLw29.out.get 16 rfl).1
   obtain ⟨hxb6_0_w29, hxb6_1_w29⟩ := cells2 (g := w6.heap.size) (HLw29.out.get 13 rfl).1
   obtain ⟨hxb8_0_w29, hxb8_1_w29⟩ := cells2 (g := w9.heap.size) (HLw29.out.get 10 rfl).1
   obtain ⟨hxb9_0_w29, hxb9_1_w29⟩ := cells2 (g := w11.heap.size) (HLw29.out.get 8 rfl).1
   obtain ⟨hxb10_0_w29, hxb10_1_w29⟩ := cells2 (g := w13.heap.size) (HLw29.out.get 6 rfl).1
   obtain ⟨hxb15_0_w29, hxb15_1_w29⟩ := cells2 (g := w26.heap.size) (HLw29.out.get 1 rfl).1
   go_wp2_with fail
   have r_ := (Kd.S_reads' (HLw29.out.get 7 rfl)).2
   have q_ := laws_heldAlgebra.calls k X4 _ _ (mkOps X5 1) 1 (1 + (totO X5 : Int)) _ (by first | exact r_.2 | (rw [mkOps_length]; exact r_.2)) (by first | exact r_.1 | (rw [mkOps_length]; exact r_.1)) F9.out
   rw [mkOps_length] at q_
   (with_reducible refine q_.mono ?_)
   clear q_ r_
   rintro e w30 ⟨rfl, hbw30⟩
   have HLw30 := Aside0.mk (HLw29.out.below hbw30)
   have HBw30 := Aside0.mk (below_step (HBw29.out) (hbw30))
   clear hbw30
   obtain ⟨hxb2_0_w30, hxb2_1_w30⟩ := cells2 (g := W.heap.size) (HLw30.out.get 17 rfl).1
   obtain ⟨hxb3_0_w30, hxb3_1_w30⟩ := cells2 (g := W.heap.size + 1) (HLw30.out.get 16 rfl).1
   obtain ⟨hxb6_0_w30, hxb6_1_w30⟩ := cells2 (g := w6.heap.size) (HLw30.out.get 13 rfl).1
   obtain ⟨hxb8_0_w30, hxb8_1_w30⟩ := cells2 (g := w9.heap.size) (HLw30.out.get 10 rfl).1
   obtain ⟨hxb9_0_w30, hxb9_1_w30⟩ := cells2 (g := w11.heap.size) (HLw30.out.get 8 rfl).1
   obtain ⟨hxb10_0_w30, hxb10_1_w30⟩ := cells2 (g := w13.heap.size) (HLw30.out.get 6 rfl).1
   obtain ⟨hxb15_0_w30, hxb15_1_w30⟩ := cells2 (g := w26.heap.size) (HLw30.out.get 1 rfl).1
   go_wp2
   go_ret
   exact ⟨rfl, HBw30.out⟩
  ·have HLp28 := Aside0.mk (Live.put_box (a' := .int .i64 X4) (b' := .slice Aw27 X5.length cw27) HLw27.out 2 rfl)
   have HBp28 := Aside0.mk (show Below W.heap.size W ((w27.setCell ⟨w25.heap.size, 0, none⟩ (.int .i64 X4)).setCell ⟨w25.heap.size, 1, none⟩ (.slice Aw27 X5.length cw27)) from below_set (below_set (HBw27.out) hGx25z15) hGx25z15)
   obtain ⟨hxb2_0_w27setCel, hxb2_1_w27setCel⟩ := cells2 (g := W.heap.size) (HLp28.out.get 17 rfl).1
   obtain ⟨hxb3_0_w27setCel, hxb3_1_w27setCel⟩ := cells2 (g := W.heap.size + 1) (HLp28.out.get 16 rfl).1
   obtain ⟨hxb6_0_w27setCel, hxb6_1_w27setCel⟩ := cells2 (g := w6.heap.size) (HLp28.out.get 13 rfl).1
   obtain ⟨hxb8_0_w27setCel, hxb8_1_w27setCel⟩ := cells2 (g := w9.heap.size) (HLp28.out.get 10 rfl).1
   obtain ⟨hxb9_0_w27setCel, hxb9_1_w27setCel⟩ := cells2 (g := w11.heap.size) (HLp28.out.get 8 rfl).1
   obtain ⟨hxb10_0_w27setCel, hxb10_1_w27setCel⟩ := cells2 (g := w13.heap.size) (HLp28.out.get 6 rfl).1
   obtain ⟨hxb15_0_w27setCel, hxb15_1_w27setCel⟩ := cells2 (g := w25.heap.size) (HLp28.out.get 2 rfl).1
   go_wp2_with fail
   (with_reducible refine (laws_eqAlgebra.calls k X4 _ _ X5 X4 _ _ X5 true _ (Kd.S_reads' (HLp28.out.get 0 rfl)).2.2 (Kd.S_reads' (HLp28.out.get 0 rfl)).2.1 (Kd.S_reads' (HLp28.out.get 12 rfl)).2.2 (Kd.S_reads' (HLp28.out.get 12 rfl)).2.1 F6.out).mono ?_)
   rintro e w29 ⟨rfl, hbw29⟩
   have HLw29 := Aside0.mk (HLp28.out.below hbw29)
   have HBw29 := Aside0.mk (below_step (HBp28.out) (hbw29))
   clear hbw29
   obtain ⟨hxb2_0_w29, hxb2_1_w29⟩ := cells2 (g := W.heap.size) (HLw29.out.get 17 rfl).1
   obtain ⟨hxb3_0_w29, hxb3_1_w29⟩ := cells2 (g := W.heap.size + 1) (HLw29.out.get 16 rfl).1
   obtain ⟨hxb6_0_w29, hxb6_1_w29⟩ := cells2 (g := w6.heap.size) (HLw29.out.get 13 rfl).1
   obtain ⟨hxb8_0_w29, hxb8_1_w29⟩ := cells2 (g := w9.heap.size) (HLw29.out.get 10 rfl).1
   obtain ⟨hxb9_0_w29, hxb9_1_w29⟩ := cells2 (g := w11.heap.size) (HLw29.out.get 8 rfl).1
   obtain ⟨hxb10_0_w29, hxb10_1_w29⟩ := cells2 (g := w13.heap.size) (HLw29.out.get 6 rfl).1
   obtain ⟨hxb15_0_w29, hxb15_1_w29⟩ := cells2 (g := w25.heap.size) (HLw29.out.get 2 rfl).1
   go_wp2_with fail
   have r_ := (Kd.S_reads' (HLw29.out.get 7 rfl)).2
   have q_ := laws_heldAlgebra.calls k X4 _ _ (mkOps X5 1) 1 (1 + (totO X5 : Int)) _ (by first | exact r_.2 | (rw [mkOps_length]; exact r_.2)) (by first | exact r_.1 | (rw [mkOps_length]; exact r_.1)) F9.out
   rw [mkOps_length] at q_
   (with_reducible refine q_.mono ?_)
   clear q_ r_
   rintro e w30 ⟨rfl, hbw30⟩
   have HLw30 := Aside0.mk (HLw29.out.below hbw30)
   have HBw30 := Aside0.mk (below_step (HBw29.out) (hbw30))
   clear hbw30
   obtain ⟨hxb2_0_w30, hxb2_1_w30⟩ := cells2 (g := W.heap.size) (HLw30.out.get 17 rfl).1
   obtain ⟨hxb3_0_w30, hxb3_1_w30⟩ := cells2 (g := W.heap.size + 1) (HLw30.out.get 16 rfl).1
   obtain ⟨hxb6_0_w30, hxb6_1_w30⟩ := cells2 (g := w6.heap.size) (HLw30.out.get 13 rfl).1
   obtain ⟨hxb8_0_w30, hxb8_1_w30⟩ := cells2 (g := w9.heap.size) (HLw30.out.get 10 rfl).1
   obtain ⟨hxb9_0_w30, hxb9_1_w30⟩ := cells2 (g := w11.heap.size) (HLw30.out.get 8 rfl).1
   obtain ⟨hxb10_0_w30, hxb10_1_w30⟩ := cells2 (g := w13.heap.size) (HLw30.out.get 6 rfl).1
   obtain ⟨hxb15_0_w30, hxb15_1_w30⟩ := cells2 (g := w25.heap.size) (HLw30.out.get 2 rfl).1
   go_wp2
   go_ret
   exact ⟨rfl, HBw30.out⟩
  ·have HLp28 := Aside0.mk (Live.put_box (a' := .int .i64 X4) (b' := .slice Aw27 X5.length cw27) HLw27.out 3 rfl)
   have HBp28 := Aside0.mk (show Below W.heap.size W ((w27.setCell ⟨w24.heap.size, 0, none⟩ (.int .i64 X4)).setCell ⟨w24.heap.size, 1, none⟩ (.slice Aw27 X5.length cw27)) from below_set (below_set (HBw27.out) hGx24z15) hGx24z15)
   obtain ⟨hxb2_0_w27setCel, hxb2_1_w27setCel⟩ := cells2 (g := W.heap.size) (HLp28.out.get 17 rfl).1
   obtain ⟨hxb3_0_w27setCel, hxb3_1_w27setCel⟩ := cells2 (g := W.heap.size + 1) (HLp28.out.get 16 rfl).1
   obtain ⟨hxb6_0_w27setCel, hxb6_1_w27setCel⟩ := cells2 (g := w6.heap.size) (HLp28.out.get 13 rfl).1
   obtain ⟨hxb8_0_w27setCel, hxb8_1_w27setCel⟩ := cells2 (g := w9.heap.size) (HLp28.out.get 10 rfl).1
   obtain ⟨hxb9_0_w27setCel, hxb9_1_w27setCel⟩ := cells2 (g := w11.heap.size) (HLp28.out.get 8 rfl).1
   obtain ⟨hxb10_0_w27setCel, hxb10_1_w27setCel⟩ := cells2 (g := w13.heap.size) (HLp28.out.get 6 rfl).1
   obtain ⟨hxb15_0_w27setCel, hxb15_1_w27setCel⟩ := cells2 (g := w24.heap.size) (HLp28.out.get 3 rfl).1
   go_wp2_with fail
   (with_reducible refine (laws_eqAlgebra.calls k X4 _ _ X5 X4 _ _ X5 true _ (Kd.S_reads' (HLp28.out.get 0 rfl)).2.2 (Kd.S_reads' (HLp28.out.get 0 rfl)).2.1 (Kd.S_reads' (HLp28.out.get 12 rfl)).2.2 (Kd.S_reads' (HLp28.out.get 12 rfl)).2.1 F6.out).mono ?_)
   rintro e w29 ⟨rfl, hbw29⟩
   have HLw29 := Aside0.mk (HLp28.out.below hbw29)
   have HBw29 := Aside0.mk (below_step (HBp28.out) (hbw29))
   clear hbw29
   obtain ⟨hxb2_0_w29, hxb2_1_w29⟩ := cells2 (g := W.heap.size) (HLw29.out.get 17 rfl).1
   obtain ⟨hxb3_0_w29, hxb3_1_w29⟩ := cells2 (g := W.heap.size + 1) (HLw29.out.get 16 rfl).1
   obtain ⟨hxb6_0_w29, hxb6_1_w29⟩ := cells2 (g := w6.heap.size) (HLw29.out.get 13 rfl).1
   obtain ⟨hxb8_0_w29, hxb8_1_w29⟩ := cells2 (g := w9.heap.size) (HLw29.out.get 10 rfl).1
   obtain ⟨hxb9_0_w29, hxb9_1_w29⟩ := cells2 (g := w11.heap.size) (HLw29.out.get 8 rfl).1
   obtain ⟨hxb10_0_w29, hxb10_1_w29⟩ := cells2 (g := w13.heap.size) (HLw29.out.get 6 rfl).1
   obtain ⟨hxb15_0_w29, hxb15_1_w29⟩ := cells2 (g := w24.heap.size) (HLw29.out.get 3 rfl).1
   go_wp2_with fail
   have r_ := (Kd.S_reads' (HLw29.out.get 7 rfl)).2
   have q_ := laws_heldAlgebra.calls k X4 _ _ (mkOps X5 1) 1 (1 + (totO X5 : Int)) _ (by first | exact r_.2 | (rw [mkOps_length]; exact r_.2)) (by first | exact r_.1 | (rw [mkOps_length]; exact r_.1)) F9.out
   rw [mkOps_length] at q_
   (with_reducible refine q_.mono ?_)
   clear q_ r_
   rintro e w30 ⟨rfl, hbw30⟩
   have HLw30 := Aside0.mk (HLw29.out.below hbw30)
   have HBw30 := Aside0.mk (below_step (HBw29.out) (hbw30))
   clear hbw30
   obtain ⟨hxb2_0_w30, hxb2_1_w30⟩ := cells2 (g := W.heap.size) (HLw30.out.get 17 rfl).1
   obtain ⟨hxb3_0_w30, hxb3_1_w30⟩ := cells2 (g := W.heap.size + 1) (HLw30.out.get 16 rfl).1
   obtain ⟨hxb6_0_w30, hxb6_1_w30⟩ := cells2 (g := w6.heap.size) (HLw30.out.get 13 rfl).1
   obtain ⟨hxb8_0_w30, hxb8_1_w30⟩ := cells2 (g := w9.heap.size) (HLw30.out.get 10 rfl).1
   obtain ⟨hxb9_0_w30, hxb9_1_w30⟩ := cells2 (g := w11.heap.size) (HLw30.out.get 8 rfl).1
   obtain ⟨hxb10_0_w30, hxb10_1_w30⟩ := cells2 (g := w13.heap.size) (HLw30.out.get 6 rfl).1
   obtain ⟨hxb15_0_w30, hxb15_1_w30⟩ := cells2 (g := w24.heap.size) (HLw30.out.get 3 rfl).1
   go_wp2
   go_ret
   exact ⟨rfl, HBw30.out⟩
 ·have HLp8 := Aside0.mk (Live.put_box (a' := .int .i64 X4) (b' := .slice Aw7 X5.length cw7) HLw7.out 2 rfl)
  have HBp8 := Aside0.mk (show Below W.heap.size W ((w7.setCell ⟨w5.heap.size, 0, none⟩ (.int .i64 X4)).setCell ⟨w5.heap.size, 1, none⟩ (.slice Aw7 X5.length cw7)) from below_set (below_set (HBw7.out) hGx5z6) hGx5z6)
  obtain ⟨hxb2_0_w7setCell, hxb2_1_w7setCell⟩ := cells2 (g := W.heap.size) (HLp8.out.get 5 rfl).1
  obtain ⟨hxb3_0_w7setCell, hxb3_1_w7setCell⟩ := cells2 (g := W.heap.size + 1) (HLp8.out.get 4 rfl).1
  obtain ⟨hxb6_0_w7setCell, hxb6_1_w7setCell⟩ := cells2 (g := w5.heap.size) (HLp8.out.get 2 rfl).1
  go_wp2_with fail
  (with_reducible refine (laws_toAlgebra.calls k a0 _ _ l0 X0 X1 _ (Kd.C_below HR0.out (HBp8.out)) HC0.out F2.out).mono ?_)
  rintro e w9 ⟨vw9_0, rfl, how9_0, hbw9⟩
  obtain ⟨Aw9, cw9, rfl⟩ := Kd.S_slice how9_0
  obtain ⟨low9, hiw9, hlw9⟩ := Live.make_S HLp8.out hbw9 how9_0 (below_size (HBp8.out))
  have HLw9 := Aside0.mk hlw9
  clear hlw9 how9_0
  have HBw9 := Aside0.mk (below_step (HBp8.out) (hbw9))
  clear hbw9
  obtain ⟨hxb2_0_w9, hxb2_1_w9⟩ := cells2 (g := W.heap.size) (HLw9.out.get 6 rfl).1
  obtain ⟨hxb3_0_w9, hxb3_1_w9⟩ := cells2 (g := W.heap.size + 1) (HLw9.out.get 5 rfl).1
  obtain ⟨hxb6_0_w9, hxb6_1_w9⟩ := cells2 (g := w5.heap.size) (HLw9.out.get 3 rfl).1
  obtain ⟨lox10, hix10, HLx10⟩ := Live.make_box HLw9.out (.cells #[.int .i64 X0, .slice Aw9 X1.length cw9] 28) (w9.heap.size) (by simp)
  obtain ⟨hxb2_0_w9allocce, hxb2_1_w9allocce⟩ := cells2 (g := W.heap.size) (HLx10.get 7 rfl).1
  obtain ⟨hxb3_0_w9allocce, hxb3_1_w9allocce⟩ := cells2 (g := W.heap.size + 1) (HLx10.get 6 rfl).1
  obtain ⟨hxb6_0_w9allocce, hxb6_1_w9allocce⟩ := cells2 (g := w5.heap.size) (HLx10.get 4 rfl).1
  go_wp2_with fail
  (with_reducible refine (laws_toAlgebra.calls k a1 _ _ l1 X2 X3 _ (Kd.C_below HR1.out (below_alloc (HBw9.out) _)) HC1.out F3.out).mono ?_)
  rintro e w11 ⟨vw11_0, rfl, how11_0, hbw11⟩
  obtain ⟨Aw11, cw11, rfl⟩ := Kd.S_slice how11_0
  obtain ⟨low11, hiw11, hlw11⟩ := Live.make_S HLx10 hbw11 how11_0 (below_size (below_alloc (HBw9.out) _))
  have HLw11 := Aside0.mk hlw11
  clear hlw11 how11_0
  have HBw11 := Aside0.mk (below_step (below_alloc (HBw9.out) _) (hbw11))
  clear hbw11
  obtain ⟨hxb2_0_w11, hxb2_1_w11⟩ := cells2 (g := W.heap.size) (HLw11.out.get 8 rfl).1
  obtain ⟨hxb3_0_w11, hxb3_1_w11⟩ := cells2 (g := W.heap.size + 1) (HLw11.out.get 7 rfl).1
  obtain ⟨hxb6_0_w11, hxb6_1_w11⟩ := cells2 (g := w5.heap.size) (HLw11.out.get 5 rfl).1
  obtain ⟨hxb8_0_w11, hxb8_1_w11⟩ := cells2 (g := w9.heap.size) (HLw11.out.get 1 rfl).1
  obtain ⟨lox12, hix12, HLx12⟩ := Live.make_box HLw11.out (.cells #[.int .i64 X2, .slice Aw11 X3.length cw11] 28) (w11.heap.size) (by simp)
  obtain ⟨hxb2_0_w11allocc, hxb2_1_w11allocc⟩ := cells2 (g := W.heap.size) (HLx12.get 9 rfl).1
  obtain ⟨hxb3_0_w11allocc, hxb3_1_w11allocc⟩ := cells2 (g := W.heap.size + 1) (HLx12.get 8 rfl).1
  obtain ⟨hxb6_0_w11allocc, hxb6_1_w11allocc⟩ := cells2 (g := w5.heap.size) (HLx12.get 6 rfl).1
  obtain ⟨hxb8_0_w11allocc, hxb8_1_w11allocc⟩ := cells2 (g := w9.heap.size) (HLx12.get 2 rfl).1
  go_wp2_with fail
  (with_reducible refine (impl_ProductOf.calls k X0 _ _ X1 X2 _ _ X3 X4 X5 X6 _ (Kd.S_reads' (HLx12.get 3 rfl)).2.2 (Kd.S_reads' (HLx12.get 3 rfl)).2.1 (Kd.S_reads' (HLx12.get 1 rfl)).2.2 (Kd.S_reads' (HLx12.get 1 rfl)).2.1 F5.out).mono ?_)
  rintro e w13 ⟨vw13_0, rfl, how13_0, hbw13⟩
  obtain ⟨Aw13, cw13, rfl⟩ := Kd.S_slice how13_0
  obtain ⟨low13, hiw13, hlw13⟩ := Live.make_S HLx12 hbw13 how13_0 (below_size (below_alloc (HBw11.out) _))
  have HLw13 := Aside0.mk hlw13
  clear hlw13 how13_0
  have HBw13 := Aside0.mk (below_step (below_alloc (HBw11.out) _) (hbw13))
  clear hbw13
  obtain ⟨hxb2_0_w13, hxb2_1_w13⟩ := cells2 (g := W.heap.size) (HLw13.out.get 10 rfl).1
  obtain ⟨hxb3_0_w13, hxb3_1_w13⟩ := cells2 (g := W.heap.size + 1) (HLw13.out.get 9 rfl).1
  obtain ⟨hxb6_0_w13, hxb6_1_w13⟩ := cells2 (g := w5.heap.size) (HLw13.out.get 7 rfl).1
  obtain ⟨hxb8_0_w13, hxb8_1_w13⟩ := cells2 (g := w9.heap.size) (HLw13.out.get 3 rfl).1
  obtain ⟨hxb9_0_w13, hxb9_1_w13⟩ := cells2 (g := w11.heap.size) (HLw13.out.get 1 rfl).1
  obtain ⟨lox14, hix14, HLx14⟩ := Live.make_box HLw13.out (.cells #[.int .i64 X4, .slice Aw13 X5.length cw13] 28) (w13.heap.size) (by simp)
  obtain ⟨hxb2_0_w13allocc, hxb2_1_w13allocc⟩ := cells2 (g := W.heap.size) (HLx14.get 11 rfl).1
  obtain ⟨hxb3_0_w13allocc, hxb3_1_w13allocc⟩ := cells2 (g := W.heap.size + 1) (HLx14.get 10 rfl).1
  obtain ⟨hxb6_0_w13allocc, hxb6_1_w13allocc⟩ := cells2 (g := w5.heap.size) (HLx14.get 8 rfl).1
  obtain ⟨hxb8_0_w13allocc, hxb8_1_w13allocc⟩ := cells2 (g := w9.heap.size) (HLx14.get 4 rfl).1
  obtain ⟨hxb9_0_w13allocc, hxb9_1_w13allocc⟩ := cells2 (g := w11.heap.size) (HLx14.get 2 rfl).1
  go_wp2_with fail
  (with_reducible refine (laws_eqAlgebra.calls k X4 _ _ X5 X4 _ _ X5 true _ (Kd.S_reads' (HLx14.get 1 rfl)).2.2 (Kd.S_reads' (HLx14.get 1 rfl)).2.1 (Kd.S_reads' (HLx14.get 6 rfl)).2.2 (Kd.S_reads' (HLx14.get 6 rfl)).2.1 F6.out).mono ?_)
  rintro e w15 ⟨rfl, hbw15⟩
  have HLw15 := Aside0.mk (HLx14.below hbw15)
  have HBw15 := Aside0.mk (below_step (below_alloc (HBw13.out) _) (hbw15))
  clear hbw15
  obtain ⟨hxb2_0_w15, hxb2_1_w15⟩ := cells2 (g := W.heap.size) (HLw15.out.get 11 rfl).1
  obtain ⟨hxb3_0_w15, hxb3_1_w15⟩ := cells2 (g := W.heap.size + 1) (HLw15.out.get 10 rfl).1
  obtain ⟨hxb6_0_w15, hxb6_1_w15⟩ := cells2 (g := w5.heap.size) (HLw15.out.get 8 rfl).1
  obtain ⟨hxb8_0_w15, hxb8_1_w15⟩ := cells2 (g := w9.heap.size) (HLw15.out.get 4 rfl).1
  obtain ⟨hxb9_0_w15, hxb9_1_w15⟩ := cells2 (g := w11.heap.size) (HLw15.out.get 2 rfl).1
  obtain ⟨hxb10_0_w15, hxb10_1_w15⟩ := cells2 (g := w13.heap.size) (HLw15.out.get 0 rfl).1
  go_wp2_with fail
  go_region_held3 (fun w' => w'.cell? ⟨W.heap.size, 0, none⟩ = some (.int .i64 a0) ∧ w'.cell? ⟨W.heap.size, 1, none⟩ = some (.slice A0 l0.length c0) ∧ w'.cell? ⟨W.heap.size + 1, 0, none⟩ = some (.int .i64 a1) ∧ w'.cell? ⟨W.heap.size + 1, 1, none⟩ = some (.slice A1 l1.length c1) ∧ w'.cell? ⟨w5.heap.size, 0, none⟩ = some (.int .i64 X4) ∧ w'.cell? ⟨w5.heap.size, 1, none⟩ = some (.slice Aw7 X5.length cw7) ∧ w'.cell? ⟨w9.heap.size, 0, none⟩ = some (.int .i64 X0) ∧ w'.cell? ⟨w9.heap.size, 1, none⟩ = some (.slice Aw9 X1.length cw9) ∧ w'.cell? ⟨w11.heap.size, 0, none⟩ = some (.int .i64 X2) ∧ w'.cell? ⟨w11.heap.size, 1, none⟩ = some (.slice Aw11 X3.length cw11) ∧ w'.cell? ⟨w13.heap.size, 0, none⟩ = some (.int .i64 X4) ∧ w'.cell? ⟨w13.heap.size, 1, none⟩ = some (.slice Aw13 X5.length cw13)) (first | (simp [*]; done) | go_keep) (first | (go_at_call 9; (with_reducible refine (laws_toAlgebra.calls k a0 _ _ l0 X0 X1 _ (Kd.C_below HR0.out (below_drew1 (HBw15.out))) HC0.out F2.out).mono ?_); rintro e w16 ⟨vw16_0, rfl, how16_0, hbw16⟩; obtain ⟨Aw16, cw16, rfl⟩ := Kd.S_slice how16_0; obtain ⟨low16, hiw16, hlw16⟩ := Live.make_S (Live.drew HLw15.out) hbw16 how16_0 (below_size (below_drew1 (HBw15.out))); have HLw16 := Aside0.mk hlw16; clear hlw16 how16_0; have HBw16 := Aside0.mk (below_step (below_drew1 (HBw15.out)) (hbw16)); clear hbw16; obtain ⟨hxb2_0_w16, hxb2_1_w16⟩ := cells2 (g := W.heap.size) (HLw16.out.get 12 rfl).1; obtain ⟨hxb3_0_w16, hxb3_1_w16⟩ := cells2 (g := W.heap.size + 1) (HLw16.out.get 11 rfl).1; obtain ⟨hxb6_0_w16, hxb6_1_w16⟩ := cells2 (g := w5.heap.size) (HLw16.out.get 9 rfl).1; obtain ⟨hxb8_0_w16, hxb8_1_w16⟩ := cells2 (g := w9.heap.size) (HLw16.out.get 5 rfl).1; obtain ⟨hxb9_0_w16, hxb9_1_w16⟩ := cells2 (g := w11.heap.size) (HLw16.out.get 3 rfl).1; obtain ⟨hxb10_0_w16, hxb10_1_w16⟩ := cells2 (g := w13.heap.size) (HLw16.out.get 1 rfl).1) | (go_at_call 11; (with_reducible refine (laws_eqAlgebra.calls k X0 _ _ X1 X0 _ _ X1 true _ (Kd.S_reads' (HLw16.out.get 6 rfl)).2.2 (Kd.S_reads' (HLw16.out.get 6 rfl)).2.1 (Kd.S_reads' (HLw16.out.get 0 rfl)).2.2 (Kd.S_reads' (HLw16.out.get 0 rfl)).2.1 F7.out).mono ?_); rintro e w17 ⟨rfl, hbw17⟩; have HLw17 := Aside0.mk (HLw16.out.below hbw17); have HBw17 := Aside0.mk (below_step (HBw16.out) (hbw17)); clear hbw17; obtain ⟨hxb2_0_w17, hxb2_1_w17⟩ := cells2 (g := W.heap.size) (HLw17.out.get 12 rfl).1; obtain ⟨hxb3_0_w17, hxb3_1_w17⟩ := cells2 (g := W.heap.size + 1) (HLw17.out.get 11 rfl).1; obtain ⟨hxb6_0_w17, hxb6_1_w17⟩ := cells2 (g := w5.heap.size) (HLw17.out.get 9 rfl).1; obtain ⟨hxb8_0_w17, hxb8_1_w17⟩ := cells2 (g := w9.heap.size) (HLw17.out.get 5 rfl).1; obtain ⟨hxb9_0_w17, hxb9_1_w17⟩ := cells2 (g := w11.heap.size) (HLw17.out.get 3 rfl).1; obtain ⟨hxb10_0_w17, hxb10_1_w17⟩ := cells2 (g := w13.heap.size) (HLw17.out.get 1 rfl).1))
  go_wp2_with fail
  go_region_held3 (fun w' => w'.cell? ⟨W.heap.size, 0, none⟩ = some (.int .i64 a0) ∧ w'.cell? ⟨W.heap.size, 1, none⟩ = some (.slice A0 l0.length c0) ∧ w'.cell? ⟨W.heap.size + 1, 0, none⟩ = some (.int .i64 a1) ∧ w'.cell? ⟨W.heap.size + 1, 1, none⟩ = some (.slice A1 l1.length c1) ∧ w'.cell? ⟨w5.heap.size, 0, none⟩ = some (.int .i64 X4) ∧ w'.cell? ⟨w5.heap.size, 1, none⟩ = some (.slice Aw7 X5.length cw7) ∧ w'.cell? ⟨w9.heap.size, 0, none⟩ = some (.int .i64 X0) ∧ w'.cell? ⟨w9.heap.size, 1, none⟩ = some (.slice Aw9 X1.length cw9) ∧ w'.cell? ⟨w11.heap.size, 0, none⟩ = some (.int .i64 X2) ∧ w'.cell? ⟨w11.heap.size, 1, none⟩ = some (.slice Aw11 X3.length cw11) ∧ w'.cell? ⟨w13.heap.size, 0, none⟩ = some (.int .i64 X4) ∧ w'.cell? ⟨w13.heap.size, 1, none⟩ = some (.slice Aw13 X5.length cw13)) (first | (simp [*]; done) | go_keep) (first | (go_at_call 9; (with_reducible refine (laws_toAlgebra.calls k a1 _ _ l1 X2 X3 _ (Kd.C_below HR1.out (below_drew1 (HBw17.out))) HC1.out F3.out).mono ?_); rintro e w18 ⟨vw18_0, rfl, how18_0, hbw18⟩; obtain ⟨Aw18, cw18, rfl⟩ := Kd.S_slice how18_0; obtain ⟨low18, hiw18, hlw18⟩ := Live.make_S (Live.drew HLw17.out) hbw18 how18_0 (below_size (below_drew1 (HBw17.out))); have HLw18 := Aside0.mk hlw18; clear hlw18 how18_0; have HBw18 := Aside0.mk (below_step (below_drew1 (HBw17.out)) (hbw18)); clear hbw18; obtain ⟨hxb2_0_w18, hxb2_1_w18⟩ := cells2 (g := W.heap.size) (HLw18.out.get 13 rfl).1; obtain ⟨hxb3_0_w18, hxb3_1_w18⟩ := cells2 (g := W.heap.size + 1) (HLw18.out.get 12 rfl).1; obtain ⟨hxb6_0_w18, hxb6_1_w18⟩ := cells2 (g := w5.heap.size) (HLw18.out.get 10 rfl).1; obtain ⟨hxb8_0_w18, hxb8_1_w18⟩ := cells2 (g := w9.heap.size) (HLw18.out.get 6 rfl).1; obtain ⟨hxb9_0_w18, hxb9_1_w18⟩ := cells2 (g := w11.heap.size) (HLw18.out.get 4 rfl).1; obtain ⟨hxb10_0_w18, hxb10_1_w18⟩ := cells2 (g := w13.heap.size) (HLw18.out.get 2 rfl).1) | (go_at_call 11; (with_reducible refine (laws_eqAlgebra.calls k X2 _ _ X3 X2 _ _ X3 true _ (Kd.S_reads' (HLw18.out.get 5 rfl)).2.2 (Kd.S_reads' (HLw18.out.get 5 rfl)).2.1 (Kd.S_reads' (HLw18.out.get 0 rfl)).2.2 (Kd.S_reads' (HLw18.out.get 0 rfl)).2.1 F8.out).mono ?_); rintro e w19 ⟨rfl, hbw19⟩; have HLw19 := Aside0.mk (HLw18.out.below hbw19); have HBw19 := Aside0.mk (below_step (HBw18.out) (hbw19)); clear hbw19; obtain ⟨hxb2_0_w19, hxb2_1_w19⟩ := cells2 (g := W.heap.size) (HLw19.out.get 13 rfl).1; obtain ⟨hxb3_0_w19, hxb3_1_w19⟩ := cells2 (g := W.heap.size + 1) (HLw19.out.get 12 rfl).1; obtain ⟨hxb6_0_w19, hxb6_1_w19⟩ := cells2 (g := w5.heap.size) (HLw19.out.get 10 rfl).1; obtain ⟨hxb8_0_w19, hxb8_1_w19⟩ := cells2 (g := w9.heap.size) (HLw19.out.get 6 rfl).1; obtain ⟨hxb9_0_w19, hxb9_1_w19⟩ := cells2 (g := w11.heap.size) (HLw19.out.get 4 rfl).1; obtain ⟨hxb10_0_w19, hxb10_1_w19⟩ := cells2 (g := w13.heap.size) (HLw19.out.get 2 rfl).1))
  go_wp2_with fail
  (with_reducible refine (laws_markAlgebra.marks X0 (fun k => low9 ≤ k ∧ k < hiw9) _ X1 1 W _ (HBw19.out) (HLw19.out.get 7 rfl) (by have := HBD.out; omega) (by have := HBD.out; omega)).mono ?_)
  rintro e w20 ⟨rfl, hm1, hm2, hm3⟩
  have HLw20 := Aside0.mk (Live.mark HLw19.out 7 rfl hm3 (seg_S hm1 (fun k hk _ _ => hk) (Nat.le_refl _)))
  have HBw20 := Aside0.mk hm2
  clear hm1 hm2 hm3
  obtain ⟨hxb2_0_w20, hxb2_1_w20⟩ := cells2 (g := W.heap.size) (HLw20.out.get 13 rfl).1
  obtain ⟨hxb3_0_w20, hxb3_1_w20⟩ := cells2 (g := W.heap.size + 1) (HLw20.out.get 12 rfl).1
  obtain ⟨hxb6_0_w20, hxb6_1_w20⟩ := cells2 (g := w5.heap.size) (HLw20.out.get 10 rfl).1
  obtain ⟨hxb8_0_w20, hxb8_1_w20⟩ := cells2 (g := w9.heap.size) (HLw20.out.get 6 rfl).1
  obtain ⟨hxb9_0_w20, hxb9_1_w20⟩ := cells2 (g := w11.heap.size) (HLw20.out.get 4 rfl).1
  obtain ⟨hxb10_0_w20, hxb10_1_w20⟩ := cells2 (g := w13.heap.size) (HLw20.out.get 2 rfl).1
  go_wp2_with fail
  (with_reducible refine (laws_markAlgebra.marks X2 (fun k => low11 ≤ k ∧ k < hiw11) _ X3 (1 + (totO X1 : Int)) W _ (HBw20.out) (HLw20.out.get 5 rfl) (by have := HBD.out; omega) (by have := HBD.out; omega)).mono ?_)
  rintro e w21 ⟨rfl, hm1, hm2, hm3⟩
  have HLw21 := Aside0.mk (Live.mark HLw20.out 5 rfl hm3 (seg_S hm1 (fun k hk _ _ => hk) (Nat.le_refl _)))
  have HBw21 := Aside0.mk hm2
  clear hm1 hm2 hm3
  obtain ⟨hxb2_0_w21, hxb2_1_w21⟩ := cells2 (g := W.heap.size) (HLw21.out.get 13 rfl).1
  obtain ⟨hxb3_0_w21, hxb3_1_w21⟩ := cells2 (g := W.heap.size + 1) (HLw21.out.get 12 rfl).1
  obtain ⟨hxb6_0_w21, hxb6_1_w21⟩ := cells2 (g := w5.heap.size) (HLw21.out.get 10 rfl).1
  obtain ⟨hxb8_0_w21, hxb8_1_w21⟩ := cells2 (g := w9.heap.size) (HLw21.out.get 6 rfl).1
  obtain ⟨hxb9_0_w21, hxb9_1_w21⟩ := cells2 (g := w11.heap.size) (HLw21.out.get 4 rfl).1
  obtain ⟨hxb10_0_w21, hxb10_1_w21⟩ := cells2 (g := w13.heap.size) (HLw21.out.get 2 rfl).1
  go_wp2_with fail
  (with_reducible refine (laws_eqAlgebra.calls k X4 _ _ X5 X4 _ _ X5 true _ (Kd.S_reads' (HLw21.out.get 3 rfl)).2.2 (Kd.S_reads' (HLw21.out.get 3 rfl)).2.1 (Kd.S_reads' (HLw21.out.get 8 rfl)).2.2 (Kd.S_reads' (HLw21.out.get 8 rfl)).2.1 F6.out).mono ?_)
  rintro e w22 ⟨rfl, hbw22⟩
  have HLw22 := Aside0.mk (HLw21.out.below hbw22)
  have HBw22 := Aside0.mk (below_step (HBw21.out) (hbw22))
  clear hbw22
  obtain ⟨hxb2_0_w22, hxb2_1_w22⟩ := cells2 (g := W.heap.size) (HLw22.out.get 13 rfl).1
  obtain ⟨hxb3_0_w22, hxb3_1_w22⟩ := cells2 (g := W.heap.size + 1) (HLw22.out.get 12 rfl).1
  obtain ⟨hxb6_0_w22, hxb6_1_w22⟩ := cells2 (g := w5.heap.size) (HLw22.out.get 10 rfl).1
  obtain ⟨hxb8_0_w22, hxb8_1_w22⟩ := cells2 (g := w9.heap.size) (HLw22.out.get 6 rfl).1
  obtain ⟨hxb9_0_w22, hxb9_1_w22⟩ := cells2 (g := w11.heap.size) (HLw22.out.get 4 rfl).1
  obtain ⟨hxb10_0_w22, hxb10_1_w22⟩ := cells2 (g := w13.heap.size) (HLw22.out.get 2 rfl).1
  go_wp2_with fail
  (with_reducible refine (laws_markAlgebra.marks X4 (fun k => low13 ≤ k ∧ k < hiw13) _ X5 1 W _ (HBw22.out) (HLw22.out.get 3 rfl) (by have := HBD.out; omega) (by have := HBD.out; omega)).mono ?_)
  rintro e w23 ⟨rfl, hm1, hm2, hm3⟩
  have HLw23 := Aside0.mk (Live.mark HLw22.out 3 rfl hm3 (seg_S hm1 (fun k hk _ _ => hk) (Nat.le_refl _)))
  have HBw23 := Aside0.mk hm2
  clear hm1 hm2 hm3
  obtain ⟨hxb2_0_w23, hxb2_1_w23⟩ := cells2 (g := W.heap.size) (HLw23.out.get 13 rfl).1
  obtain ⟨hxb3_0_w23, hxb3_1_w23⟩ := cells2 (g := W.heap.size + 1) (HLw23.out.get 12 rfl).1
  obtain ⟨hxb6_0_w23, hxb6_1_w23⟩ := cells2 (g := w5.heap.size) (HLw23.out.get 10 rfl).1
  obtain ⟨hxb8_0_w23, hxb8_1_w23⟩ := cells2 (g := w9.heap.size) (HLw23.out.get 6 rfl).1
  obtain ⟨hxb9_0_w23, hxb9_1_w23⟩ := cells2 (g := w11.heap.size) (HLw23.out.get 4 rfl).1
  obtain ⟨hxb10_0_w23, hxb10_1_w23⟩ := cells2 (g := w13.heap.size) (HLw23.out.get 2 rfl).1
  go_wp2_with fail
  have r_ := (Kd.S_reads' (HLw23.out.get 3 rfl)).2
  have q_ := laws_heldAlgebra.calls k X4 _ _ (mkOps X5 1) 1 (1 + (totO X5 : Int)) _ (by first | exact r_.2 | (rw [mkOps_length]; exact r_.2)) (by first | exact r_.1 | (rw [mkOps_length]; exact r_.1)) F9.out
  rw [mkOps_length] at q_
  (with_reducible refine q_.mono ?_)
  clear q_ r_
  rintro e w24 ⟨rfl, hbw24⟩
  have HLw24 := Aside0.mk (HLw23.out.below hbw24)
  have HBw24 := Aside0.mk (below_step (HBw23.out) (hbw24))
  clear hbw24
  obtain ⟨hxb2_0_w24, hxb2_1_w24⟩ := cells2 (g := W.heap.size) (HLw24.out.get 13 rfl).1
  obtain ⟨hxb3_0_w24, hxb3_1_w24⟩ := cells2 (g := W.heap.size + 1) (HLw24.out.get 12 rfl).1
  obtain ⟨hxb6_0_w24, hxb6_1_w24⟩ := cells2 (g := w5.heap.size) (HLw24.out.get 10 rfl).1
  obtain ⟨hxb8_0_w24, hxb8_1_w24⟩ := cells2 (g := w9.heap.size) (HLw24.out.get 6 rfl).1
  obtain ⟨hxb9_0_w24, hxb9_1_w24⟩ := cells2 (g := w11.heap.size) (HLw24.out.get 4 rfl).1
  obtain ⟨hxb10_0_w24, hxb10_1_w24⟩ := cells2 (g := w13.heap.size) (HLw24.out.get 2 rfl).1
  go_wp2_with fail
  go_region_held3 (fun w' => w'.cell? ⟨W.heap.size, 0, none⟩ = some (.int .i64 a0) ∧ w'.cell? ⟨W.heap.size, 1, none⟩ = some (.slice A0 l0.length c0) ∧ w'.cell? ⟨W.heap.size + 1, 0, none⟩ = some (.int .i64 a1) ∧ w'.cell? ⟨W.heap.size + 1, 1, none⟩ = some (.slice A1 l1.length c1) ∧ w'.cell? ⟨w5.heap.size, 0, none⟩ = some (.int .i64 X4) ∧ w'.cell? ⟨w5.heap.size, 1, none⟩ = some (.slice Aw7 X5.length cw7) ∧ w'.cell? ⟨w9.heap.size, 0, none⟩ = some (.int .i64 X0) ∧ w'.cell? ⟨w9.heap.size, 1, none⟩ = some (.slice Aw9 X1.length cw9) ∧ w'.cell? ⟨w11.heap.size, 0, none⟩ = some (.int .i64 X2) ∧ w'.cell? ⟨w11.heap.size, 1, none⟩ = some (.slice Aw11 X3.length cw11) ∧ w'.cell? ⟨w13.heap.size, 0, none⟩ = some (.int .i64 X4) ∧ w'.cell? ⟨w13.heap.size, 1, none⟩ = some (.slice Aw13 X5.length cw13)) (first | (simp [*]; done) | go_keep) (first | (go_at_call 9; (with_reducible refine (laws_toAlgebra.calls k a0 _ _ l0 X0 X1 _ (Kd.C_below HR0.out (below_drew1 (HBw24.out))) HC0.out F2.out).mono ?_); rintro e w25 ⟨vw25_0, rfl, how25_0, hbw25⟩; obtain ⟨Aw25, cw25, rfl⟩ := Kd.S_slice how25_0; obtain ⟨low25, hiw25, hlw25⟩ := Live.make_S (Live.drew HLw24.out) hbw25 how25_0 (below_size (below_drew1 (HBw24.out))); have HLw25 := Aside0.mk hlw25; clear hlw25 how25_0; have HBw25 := Aside0.mk (below_step (below_drew1 (HBw24.out)) (hbw25)); clear hbw25; obtain ⟨hxb2_0_w25, hxb2_1_w25⟩ := cells2 (g := W.heap.size) (HLw25.out.get 14 rfl).1; obtain ⟨hxb3_0_w25, hxb3_1_w25⟩ := cells2 (g := W.heap.size + 1) (HLw25.out.get 13 rfl).1; obtain ⟨hxb6_0_w25, hxb6_1_w25⟩ := cells2 (g := w5.heap.size) (HLw25.out.get 11 rfl).1; obtain ⟨hxb8_0_w25, hxb8_1_w25⟩ := cells2 (g := w9.heap.size) (HLw25.out.get 7 rfl).1; obtain ⟨hxb9_0_w25, hxb9_1_w25⟩ := cells2 (g := w11.heap.size) (HLw25.out.get 5 rfl).1; obtain ⟨hxb10_0_w25, hxb10_1_w25⟩ := cells2 (g := w13.heap.size) (HLw25.out.get 3 rfl).1) | (go_at_call 9; (with_reducible refine (laws_toAlgebra.calls k a1 _ _ l1 X2 X3 _ (Kd.C_below HR1.out (HBw25.out)) HC1.out F3.out).mono ?_); rintro e w26 ⟨vw26_0, rfl, how26_0, hbw26⟩; obtain ⟨Aw26, cw26, rfl⟩ := Kd.S_slice how26_0; obtain ⟨low26, hiw26, hlw26⟩ := Live.make_S HLw25.out hbw26 how26_0 (below_size (HBw25.out)); have HLw26 := Aside0.mk hlw26; clear hlw26 how26_0; have HBw26 := Aside0.mk (below_step (HBw25.out) (hbw26)); clear hbw26; obtain ⟨hxb2_0_w26, hxb2_1_w26⟩ := cells2 (g := W.heap.size) (HLw26.out.get 15 rfl).1; obtain ⟨hxb3_0_w26, hxb3_1_w26⟩ := cells2 (g := W.heap.size + 1) (HLw26.out.get 14 rfl).1; obtain ⟨hxb6_0_w26, hxb6_1_w26⟩ := cells2 (g := w5.heap.size) (HLw26.out.get 12 rfl).1; obtain ⟨hxb8_0_w26, hxb8_1_w26⟩ := cells2 (g := w9.heap.size) (HLw26.out.get 8 rfl).1; obtain ⟨hxb9_0_w26, hxb9_1_w26⟩ := cells2 (g := w11.heap.size) (HLw26.out.get 6 rfl).1; obtain ⟨hxb10_0_w26, hxb10_1_w26⟩ := cells2 (g := w13.heap.size) (HLw26.out.get 4 rfl).1) | (go_at_call 10; (with_reducible refine (impl_ProductOf.calls k X0 _ _ X1 X2 _ _ X3 X4 X5 X6 _ (Kd.S_reads' (HLw26.out.get 1 rfl)).2.2 (Kd.S_reads' (HLw26.out.get 1 rfl)).2.1 (Kd.S_reads' (HLw26.out.get 0 rfl)).2.2 (Kd.S_reads' (HLw26.out.get 0 rfl)).2.1 F5.out).mono ?_); rintro e w27 ⟨vw27_0, rfl, how27_0, hbw27⟩; obtain ⟨Aw27, cw27, rfl⟩ := Kd.S_slice how27_0; obtain ⟨low27, hiw27, hlw27⟩ := Live.make_S HLw26.out hbw27 how27_0 (below_size (HBw26.out)); have HLw27 := Aside0.mk hlw27; clear hlw27 how27_0; have HBw27 := Aside0.mk (below_step (HBw26.out) (hbw27)); clear hbw27; obtain ⟨hxb2_0_w27, hxb2_1_w27⟩ := cells2 (g := W.heap.size) (HLw27.out.get 16 rfl).1; obtain ⟨hxb3_0_w27, hxb3_1_w27⟩ := cells2 (g := W.heap.size + 1) (HLw27.out.get 15 rfl).1; obtain ⟨hxb6_0_w27, hxb6_1_w27⟩ := cells2 (g := w5.heap.size) (HLw27.out.get 13 rfl).1; obtain ⟨hxb8_0_w27, hxb8_1_w27⟩ := cells2 (g := w9.heap.size) (HLw27.out.get 9 rfl).1; obtain ⟨hxb9_0_w27, hxb9_1_w27⟩ := cells2 (g := w11.heap.size) (HLw27.out.get 7 rfl).1; obtain ⟨hxb10_0_w27, hxb10_1_w27⟩ := cells2 (g := w13.heap.size) (HLw27.out.get 5 rfl).1; have hna2_27 := Nat.ne_of_lt (blk_lt (HLw27.out.get 16 rfl).1); have hnb2_27 := hna2_27.symm; have hna3_27 := Nat.ne_of_lt (blk_lt (HLw27.out.get 15 rfl).1); have hnb3_27 := hna3_27.symm; have hna6_27 := Nat.ne_of_lt (blk_lt (HLw27.out.get 13 rfl).1); have hnb6_27 := hna6_27.symm; have hna8_27 := Nat.ne_of_lt (blk_lt (HLw27.out.get 9 rfl).1); have hnb8_27 := hna8_27.symm; have hna9_27 := Nat.ne_of_lt (blk_lt (HLw27.out.get 7 rfl).1); have hnb9_27 := hna9_27.symm; have hna10_27 := Nat.ne_of_lt (blk_lt (HLw27.out.get 5 rfl).1); have hnb10_27 := hna10_27.symm; obtain ⟨lox27z15, hix27z15, HLx27z15⟩ := Live.make_box HLw27.out (.cells #[.int .i64 0, .slice none 0 0] 28) (w27.heap.size) (by first | rfl | simp); have hGx27z15 := below_size (HBw27.out); have hz15_0 : (w27.alloc (.cells #[.int .i64 0, .slice none 0 0] 28)).cell? ⟨w27.heap.size, 0, none⟩ = some (.int .i64 0) := (blk_cell (HLx27z15.get 0 rfl).1 0).trans rfl; have hfz15_0 := blk_frozen (HLx27z15.get 0 rfl).1 0; have hz15_1 : (w27.alloc (.cells #[.int .i64 0, .slice none 0 0] 28)).cell? ⟨w27.heap.size, 1, none⟩ = some (.slice none 0 0) := (blk_cell (HLx27z15.get 0 rfl).1 1).trans rfl; have hfz15_1 := blk_frozen (HLx27z15.get 0 rfl).1 1) | (go_at_call 10; have hna2_26 := Nat.ne_of_lt (blk_lt (HLw26.out.get 15 rfl).1); have hnb2_26 := hna2_26.symm; have hna3_26 := Nat.ne_of_lt (blk_lt (HLw26.out.get 14 rfl).1); have hnb3_26 := hna3_26.symm; have hna6_26 := Nat.ne_of_lt (blk_lt (HLw26.out.get 12 rfl).1); have hnb6_26 := hna6_26.symm; have hna8_26 := Nat.ne_of_lt (blk_lt (HLw26.out.get 8 rfl).1); have hnb8_26 := hna8_26.symm; have hna9_26 := Nat.ne_of_lt (blk_lt (HLw26.out.get 6 rfl).1); have hnb9_26 := hna9_26.symm; have hna10_26 := Nat.ne_of_lt (blk_lt (HLw26.out.get 4 rfl).1); have hnb10_26 := hna10_26.symm; obtain ⟨lox26z15, hix26z15, HLx26z15⟩ := Live.make_box HLw26.out (.cells #[.int .i64 0, .slice none 0 0] 28) (w26.heap.size) (by first | rfl | simp); have hGx26z15 := below_size (HBw26.out); (with_reducible refine (impl_ProductOf.calls k X0 _ _ X1 X2 _ _ X3 X4 X5 X6 _ (Kd.S_reads' (HLx26z15.get 2 rfl)).2.2 (Kd.S_reads' (HLx26z15.get 2 rfl)).2.1 (Kd.S_reads' (HLx26z15.get 1 rfl)).2.2 (Kd.S_reads' (HLx26z15.get 1 rfl)).2.1 F5.out).mono ?_); rintro e w27 ⟨vw27_0, rfl, how27_0, hbw27⟩; obtain ⟨Aw27, cw27, rfl⟩ := Kd.S_slice how27_0; obtain ⟨low27, hiw27, hlw27⟩ := Live.make_S HLx26z15 hbw27 how27_0 (below_size (below_alloc (HBw26.out) _)); have HLw27 := Aside0.mk hlw27; clear hlw27 how27_0; have HBw27 := Aside0.mk (below_step (below_alloc (HBw26.out) _) (hbw27)); clear hbw27; obtain ⟨hxb2_0_w27, hxb2_1_w27⟩ := cells2 (g := W.heap.size) (HLw27.out.get 17 rfl).1; obtain ⟨hxb3_0_w27, hxb3_1_w27⟩ := cells2 (g := W.heap.size + 1) (HLw27.out.get 16 rfl).1; obtain ⟨hxb6_0_w27, hxb6_1_w27⟩ := cells2 (g := w5.heap.size) (HLw27.out.get 14 rfl).1; obtain ⟨hxb8_0_w27, hxb8_1_w27⟩ := cells2 (g := w9.heap.size) (HLw27.out.get 10 rfl).1; obtain ⟨hxb9_0_w27, hxb9_1_w27⟩ := cells2 (g := w11.heap.size) (HLw27.out.get 8 rfl).1; obtain ⟨hxb10_0_w27, hxb10_1_w27⟩ := cells2 (g := w13.heap.size) (HLw27.out.get 6 rfl).1; have hz15_0 : w27.cell? ⟨w26.heap.size, 0, none⟩ = some (.int .i64 0) := (blk_cell (HLw27.out.get 1 rfl).1 0).trans rfl; have hfz15_0 := blk_frozen (HLw27.out.get 1 rfl).1 0; have hz15_1 : w27.cell? ⟨w26.heap.size, 1, none⟩ = some (.slice none 0 0) := (blk_cell (HLw27.out.get 1 rfl).1 1).trans rfl; have hfz15_1 := blk_frozen (HLw27.out.get 1 rfl).1 1) | (go_at_call 9; have hna2_25 := Nat.ne_of_lt (blk_lt (HLw25.out.get 14 rfl).1); have hnb2_25 := hna2_25.symm; have hna3_25 := Nat.ne_of_lt (blk_lt (HLw25.out.get 13 rfl).1); have hnb3_25 := hna3_25.symm; have hna6_25 := Nat.ne_of_lt (blk_lt (HLw25.out.get 11 rfl).1); have hnb6_25 := hna6_25.symm; have hna8_25 := Nat.ne_of_lt (blk_lt (HLw25.out.get 7 rfl).1); have hnb8_25 := hna8_25.symm; have hna9_25 := Nat.ne_of_lt (blk_lt (HLw25.out.get 5 rfl).1); have hnb9_25 := hna9_25.symm; have hna10_25 := Nat.ne_of_lt (blk_lt (HLw25.out.get 3 rfl).1); have hnb10_25 := hna10_25.symm; obtain ⟨lox25z15, hix25z15, HLx25z15⟩ := Live.make_box HLw25.out (.cells #[.int .i64 0, .slice none 0 0] 28) (w25.heap.size) (by first | rfl | simp); have hGx25z15 := below_size (HBw25.out); (with_reducible refine (laws_toAlgebra.calls k a1 _ _ l1 X2 X3 _ (Kd.C_below HR1.out (below_alloc (HBw25.out) _)) HC1.out F3.out).mono ?_); rintro e w26 ⟨vw26_0, rfl, how26_0, hbw26⟩; obtain ⟨Aw26, cw26, rfl⟩ := Kd.S_slice how26_0; obtain ⟨low26, hiw26, hlw26⟩ := Live.make_S HLx25z15 hbw26 how26_0 (below_size (below_alloc (HBw25.out) _)); have HLw26 := Aside0.mk hlw26; clear hlw26 how26_0; have HBw26 := Aside0.mk (below_step (below_alloc (HBw25.out) _) (hbw26)); clear hbw26; obtain ⟨hxb2_0_w26, hxb2_1_w26⟩ := cells2 (g := W.heap.size) (HLw26.out.get 16 rfl).1; obtain ⟨hxb3_0_w26, hxb3_1_w26⟩ := cells2 (g := W.heap.size + 1) (HLw26.out.get 15 rfl).1; obtain ⟨hxb6_0_w26, hxb6_1_w26⟩ := cells2 (g := w5.heap.size) (HLw26.out.get 13 rfl).1; obtain ⟨hxb8_0_w26, hxb8_1_w26⟩ := cells2 (g := w9.heap.size) (HLw26.out.get 9 rfl).1; obtain ⟨hxb9_0_w26, hxb9_1_w26⟩ := cells2 (g := w11.heap.size) (HLw26.out.get 7 rfl).1; obtain ⟨hxb10_0_w26, hxb10_1_w26⟩ := cells2 (g := w13.heap.size) (HLw26.out.get 5 rfl).1) | (go_at_call 10; (with_reducible refine (impl_ProductOf.calls k X0 _ _ X1 X2 _ _ X3 X4 X5 X6 _ (Kd.S_reads' (HLw26.out.get 2 rfl)).2.2 (Kd.S_reads' (HLw26.out.get 2 rfl)).2.1 (Kd.S_reads' (HLw26.out.get 0 rfl)).2.2 (Kd.S_reads' (HLw26.out.get 0 rfl)).2.1 F5.out).mono ?_); rintro e w27 ⟨vw27_0, rfl, how27_0, hbw27⟩; obtain ⟨Aw27, cw27, rfl⟩ := Kd.S_slice how27_0; obtain ⟨low27, hiw27, hlw27⟩ := Live.make_S HLw26.out hbw27 how27_0 (below_size (HBw26.out)); have HLw27 := Aside0.mk hlw27; clear hlw27 how27_0; have HBw27 := Aside0.mk (below_step (HBw26.out) (hbw27)); clear hbw27; obtain ⟨hxb2_0_w27, hxb2_1_w27⟩ := cells2 (g := W.heap.size) (HLw27.out.get 17 rfl).1; obtain ⟨hxb3_0_w27, hxb3_1_w27⟩ := cells2 (g := W.heap.size + 1) (HLw27.out.get 16 rfl).1; obtain ⟨hxb6_0_w27, hxb6_1_w27⟩ := cells2 (g := w5.heap.size) (HLw27.out.get 14 rfl).1; obtain ⟨hxb8_0_w27, hxb8_1_w27⟩ := cells2 (g := w9.heap.size) (HLw27.out.get 10 rfl).1; obtain ⟨hxb9_0_w27, hxb9_1_w27⟩ := cells2 (g := w11.heap.size) (HLw27.out.get 8 rfl).1; obtain ⟨hxb10_0_w27, hxb10_1_w27⟩ := cells2 (g := w13.heap.size) (HLw27.out.get 6 rfl).1; have hz15_0 : w27.cell? ⟨w25.heap.size, 0, none⟩ = some (.int .i64 0) := (blk_cell (HLw27.out.get 2 rfl).1 0).trans rfl; have hfz15_0 := blk_frozen (HLw27.out.get 2 rfl).1 0; have hz15_1 : w27.cell? ⟨w25.heap.size, 1, none⟩ = some (.slice none 0 0) := (blk_cell (HLw27.out.get 2 rfl).1 1).trans rfl; have hfz15_1 := blk_frozen (HLw27.out.get 2 rfl).1 1) | (go_at_call 9; have hna2_24 := Nat.ne_of_lt (blk_lt (HLw24.out.get 13 rfl).1); have hnb2_24 := hna2_24.symm; have hna3_24 := Nat.ne_of_lt (blk_lt (HLw24.out.get 12 rfl).1); have hnb3_24 := hna3_24.symm; have hna6_24 := Nat.ne_of_lt (blk_lt (HLw24.out.get 10 rfl).1); have hnb6_24 := hna6_24.symm; have hna8_24 := Nat.ne_of_lt (blk_lt (HLw24.out.get 6 rfl).1); have hnb8_24 := hna8_24.symm; have hna9_24 := Nat.ne_of_lt (blk_lt (HLw24.out.get 4 rfl).1); have hnb9_24 := hna9_24.symm; have hna10_24 := Nat.ne_of_lt (blk_lt (HLw24.out.get 2 rfl).1); have hnb10_24 := hna10_24.symm; obtain ⟨lox24z15, hix24z15, HLx24z15⟩ := Live.make_box HLw24.out (.cells #[.int .i64 0, .slice none 0 0] 28) (w24.heap.size) (by first | rfl | simp); have hGx24z15 := below_size (HBw24.out); (with_reducible refine (laws_toAlgebra.calls k a0 _ _ l0 X0 X1 _ (Kd.C_below HR0.out (below_drew1 (below_alloc (HBw24.out) _))) HC0.out F2.out).mono ?_); rintro e w25 ⟨vw25_0, rfl, how25_0, hbw25⟩; obtain ⟨Aw25, cw25, rfl⟩ := Kd.S_slice how25_0; obtain ⟨low25, hiw25, hlw25⟩ := Live.make_S (Live.drew HLx24z15) hbw25 how25_0 (below_size (below_drew1 (below_alloc (HBw24.out) _))); have HLw25 := Aside0.mk hlw25; clear hlw25 how25_0; have HBw25 := Aside0.mk (below_step (below_drew1 (below_alloc (HBw24.out) _)) (hbw25)); clear hbw25; obtain ⟨hxb2_0_w25, hxb2_1_w25⟩ := cells2 (g := W.heap.size) (HLw25.out.get 15 rfl).1; obtain ⟨hxb3_0_w25, hxb3_1_w25⟩ := cells2 (g := W.heap.size + 1) (HLw25.out.get 14 rfl).1; obtain ⟨hxb6_0_w25, hxb6_1_w25⟩ := cells2 (g := w5.heap.size) (HLw25.out.get 12 rfl).1; obtain ⟨hxb8_0_w25, hxb8_1_w25⟩ := cells2 (g := w9.heap.size) (HLw25.out.get 8 rfl).1; obtain ⟨hxb9_0_w25, hxb9_1_w25⟩ := cells2 (g := w11.heap.size) (HLw25.out.get 6 rfl).1; obtain ⟨hxb10_0_w25, hxb10_1_w25⟩ := cells2 (g := w13.heap.size) (HLw25.out.get 4 rfl).1) | (go_at_call 9; (with_reducible refine (laws_toAlgebra.calls k a1 _ _ l1 X2 X3 _ (Kd.C_below HR1.out (HBw25.out)) HC1.out F3.out).mono ?_); rintro e w26 ⟨vw26_0, rfl, how26_0, hbw26⟩; obtain ⟨Aw26, cw26, rfl⟩ := Kd.S_slice how26_0; obtain ⟨low26, hiw26, hlw26⟩ := Live.make_S HLw25.out hbw26 how26_0 (below_size (HBw25.out)); have HLw26 := Aside0.mk hlw26; clear hlw26 how26_0; have HBw26 := Aside0.mk (below_step (HBw25.out) (hbw26)); clear hbw26; obtain ⟨hxb2_0_w26, hxb2_1_w26⟩ := cells2 (g := W.heap.size) (HLw26.out.get 16 rfl).1; obtain ⟨hxb3_0_w26, hxb3_1_w26⟩ := cells2 (g := W.heap.size + 1) (HLw26.out.get 15 rfl).1; obtain ⟨hxb6_0_w26, hxb6_1_w26⟩ := cells2 (g := w5.heap.size) (HLw26.out.get 13 rfl).1; obtain ⟨hxb8_0_w26, hxb8_1_w26⟩ := cells2 (g := w9.heap.size) (HLw26.out.get 9 rfl).1; obtain ⟨hxb9_0_w26, hxb9_1_w26⟩ := cells2 (g := w11.heap.size) (HLw26.out.get 7 rfl).1; obtain ⟨hxb10_0_w26, hxb10_1_w26⟩ := cells2 (g := w13.heap.size) (HLw26.out.get 5 rfl).1) | (go_at_call 10; (with_reducible refine (impl_ProductOf.calls k X0 _ _ X1 X2 _ _ X3 X4 X5 X6 _ (Kd.S_reads' (HLw26.out.get 1 rfl)).2.2 (Kd.S_reads' (HLw26.out.get 1 rfl)).2.1 (Kd.S_reads' (HLw26.out.get 0 rfl)).2.2 (Kd.S_reads' (HLw26.out.get 0 rfl)).2.1 F5.out).mono ?_); rintro e w27 ⟨vw27_0, rfl, how27_0, hbw27⟩; obtain ⟨Aw27, cw27, rfl⟩ := Kd.S_slice how27_0; obtain ⟨low27, hiw27, hlw27⟩ := Live.make_S HLw26.out hbw27 how27_0 (below_size (HBw26.out)); have HLw27 := Aside0.mk hlw27; clear hlw27 how27_0; have HBw27 := Aside0.mk (below_step (HBw26.out) (hbw27)); clear hbw27; obtain ⟨hxb2_0_w27, hxb2_1_w27⟩ := cells2 (g := W.heap.size) (HLw27.out.get 17 rfl).1; obtain ⟨hxb3_0_w27, hxb3_1_w27⟩ := cells2 (g := W.heap.size + 1) (HLw27.out.get 16 rfl).1; obtain ⟨hxb6_0_w27, hxb6_1_w27⟩ := cells2 (g := w5.heap.size) (HLw27.out.get 14 rfl).1; obtain ⟨hxb8_0_w27, hxb8_1_w27⟩ := cells2 (g := w9.heap.size) (HLw27.out.get 10 rfl).1; obtain ⟨hxb9_0_w27, hxb9_1_w27⟩ := cells2 (g := w11.heap.size) (HLw27.out.get 8 rfl).1; obtain ⟨hxb10_0_w27, hxb10_1_w27⟩ := cells2 (g := w13.heap.size) (HLw27.out.get 6 rfl).1; have hz15_0 : w27.cell? ⟨w24.heap.size, 0, none⟩ = some (.int .i64 0) := (blk_cell (HLw27.out.get 3 rfl).1 0).trans rfl; have hfz15_0 := blk_frozen (HLw27.out.get 3 rfl).1 0; have hz15_1 : w27.cell? ⟨w24.heap.size, 1, none⟩ = some (.slice none 0 0) := (blk_cell (HLw27.out.get 3 rfl).1 1).trans rfl; have hfz15_1 := blk_frozen (HLw27.out.get 3 rfl).1 1))
  ·obtain ⟨lox28, hix28, HLx28⟩ := Live.make_box HLw27.out (.cells #[.int .i64 X4, .slice Aw27 X5.length cw27] 28) (w27.heap.size) (by simp)
   obtain ⟨hxb2_0_w27allocc, hxb2_1_w27allocc⟩ := cells2 (g := W.heap.size) (HLx28.get 17 rfl).1
   obtain ⟨hxb3_0_w27allocc, hxb3_1_w27allocc⟩ := cells2 (g := W.heap.size + 1) (HLx28.get 16 rfl).1
   obtain ⟨hxb6_0_w27allocc, hxb6_1_w27allocc⟩ := cells2 (g := w5.heap.size) (HLx28.get 14 rfl).1
   obtain ⟨hxb8_0_w27allocc, hxb8_1_w27allocc⟩ := cells2 (g := w9.heap.size) (HLx28.get 10 rfl).1
   obtain ⟨hxb9_0_w27allocc, hxb9_1_w27allocc⟩ := cells2 (g := w11.heap.size) (HLx28.get 8 rfl).1
   obtain ⟨hxb10_0_w27allocc, hxb10_1_w27allocc⟩ := cells2 (g := w13.heap.size) (HLx28.get 6 rfl).1
   go_wp2_with fail
   (with_reducible refine (laws_eqAlgebra.calls k X4 _ _ X5 X4 _ _ X5 true _ (Kd.S_reads' (HLx28.get 1 rfl)).2.2 (Kd.S_reads' (HLx28.get 1 rfl)).2.1 (Kd.S_reads' (HLx28.get 12 rfl)).2.2 (Kd.S_reads' (HLx28.get 12 rfl)).2.1 F6.out).mono ?_)
   rintro e w29 ⟨rfl, hbw29⟩
   have HLw29 := Aside0.mk (HLx28.below hbw29)
   have HBw29 := Aside0.mk (below_step (below_alloc (HBw27.out) _) (hbw29))
   clear hbw29
   obtain ⟨hxb2_0_w29, hxb2_1_w29⟩ := cells2 (g := W.heap.size) (HLw29.out.get 17 rfl).1
   obtain ⟨hxb3_0_w29, hxb3_1_w29⟩ := cells2 (g := W.heap.size + 1) (HLw29.out.get 16 rfl).1
   obtain ⟨hxb6_0_w29, hxb6_1_w29⟩ := cells2 (g := w5.heap.size) (HLw29.out.get 14 rfl).1
   obtain ⟨hxb8_0_w29, hxb8_1_w29⟩ := cells2 (g := w9.heap.size) (HLw29.out.get 10 rfl).1
   obtain ⟨hxb9_0_w29, hxb9_1_w29⟩ := cells2 (g := w11.heap.size) (HLw29.out.get 8 rfl).1
   obtain ⟨hxb10_0_w29, hxb10_1_w29⟩ := cells2 (g := w13.heap.size) (HLw29.out.get 6 rfl).1
   obtain ⟨hxb15_0_w29, hxb15_1_w29⟩ := cells2 (g := w27.heap.size) (HLw29.out.get 0 rfl).1
   go_wp2_with fail
   have r_ := (Kd.S_reads' (HLw29.out.get 7 rfl)).2
   have q_ := laws_heldAlgebra.calls k X4 _ _ (mkOps X5 1) 1 (1 + (totO X5 : Int)) _ (by first | exact r_.2 | (rw [mkOps_length]; exact r_.2)) (by first | exact r_.1 | (rw [mkOps_length]; exact r_.1)) F9.out
   rw [mkOps_length] at q_
   (with_reducible refine q_.mono ?_)
   clear q_ r_
   rintro e w30 ⟨rfl, hbw30⟩
   have HLw30 := Aside0.mk (HLw29.out.below hbw30)
   have HBw30 := Aside0.mk (below_step (HBw29.out) (hbw30))
   clear hbw30
   obtain ⟨hxb2_0_w30, hxb2_1_w30⟩ := cells2 (g := W.heap.size) (HLw30.out.get 17 rfl).1
   obtain ⟨hxb3_0_w30, hxb3_1_w30⟩ := cells2 (g := W.heap.size + 1) (HLw30.out.get 16 rfl).1
   obtain ⟨hxb6_0_w30, hxb6_1_w30⟩ := cells2 (g := w5.heap.size) (HLw30.out.get 14 rfl).1
   obtain ⟨hxb8_0_w30, hxb8_1_w30⟩ := cells2 (g := w9.heap.size) (HLw30.out.get 10 rfl).1
   obtain ⟨hxb9_0_w30, hxb9_1_w30⟩ := cells2 (g := w11.heap.size) (HLw30.out.get 8 rfl).1
   obtain ⟨hxb10_0_w30, hxb10_1_w30⟩ := cells2 (g := w13.heap.size) (HLw30.out.get 6 rfl).1
   obtain ⟨hxb15_0_w30, hxb15_1_w30⟩ := cells2 (g := w27.heap.size) (HLw30.out.get 0 rfl).1
   go_wp2
   go_ret
   exact ⟨rfl, HBw30.out⟩
  ·have HLp28 := Aside0.mk (Live.put_box (a' := .int .i64 X4) (b' := .slice Aw27 X5.length cw27) HLw27.out 1 rfl)
   have HBp28 := Aside0.mk (show Below W.heap.size W ((w27.setCell ⟨w26.heap.size, 0, none⟩ (.int .i64 X4)).setCell ⟨w26.heap.size, 1, none⟩ (.slice Aw27 X5.length cw27)) from below_set (below_set (HBw27.out) hGx26z15) hGx26z15)
   obtain ⟨hxb2_0_w27setCel, hxb2_1_w27setCel⟩ := cells2 (g := W.heap.size) (HLp28.out.get 17 rfl).1
   obtain ⟨hxb3_0_w27setCel, hxb3_1_w27setCel⟩ := cells2 (g := W.heap.size + 1) (HLp28.out.get 16 rfl).1
   obtain ⟨hxb6_0_w27setCel, hxb6_1_w27setCel⟩ := cells2 (g := w5.heap.size) (HLp28.out.get 14 rfl).1
   obtain ⟨hxb8_0_w27setCel, hxb8_1_w27setCel⟩ := cells2 (g := w9.heap.size) (HLp28.out.get 10 rfl).1
   obtain ⟨hxb9_0_w27setCel, hxb9_1_w27setCel⟩ := cells2 (g := w11.heap.size) (HLp28.out.get 8 rfl).1
   obtain ⟨hxb10_0_w27setCel, hxb10_1_w27setCel⟩ := cells2 (g := w13.heap.size) (HLp28.out.get 6 rfl).1
   obtain ⟨hxb15_0_w27setCel, hxb15_1_w27setCel⟩ := cells2 (g := w26.heap.size) (HLp28.out.get 1 rfl).1
   go_wp2_with fail
   (with_reducible refine (laws_eqAlgebra.calls k X4 _ _ X5 X4 _ _ X5 true _ (Kd.S_reads' (HLp28.out.get 0 rfl)).2.2 (Kd.S_reads' (HLp28.out.get 0 rfl)).2.1 (Kd.S_reads' (HLp28.out.get 12 rfl)).2.2 (Kd.S_reads' (HLp28.out.get 12 rfl)).2.1 F6.out).mono ?_)
   rintro e w29 ⟨rfl, hbw29⟩
   have HLw29 := Aside0.mk (HLp28.out.below hbw29)
   have HBw29 := Aside0.mk (below_step (HBp28.out) (hbw29))
   clear hbw29
   obtain ⟨hxb2_0_w29, hxb2_1_w29⟩ := cells2 (g := W.heap.size) (HLw29.out.get 17 rfl).1
   obtain ⟨hxb3_0_w29, hxb3_1_w29⟩ := cells2 (g := W.heap.size + 1) (HLw29.out.get 16 rfl).1
   obtain ⟨hxb6_0_w29, hxb6_1_w29⟩ := cells2 (g := w5.heap.size) (HLw29.out.get 14 rfl).1
   obtain ⟨hxb8_0_w29, hxb8_1_w29⟩ := cells2 (g := w9.heap.size) (HLw29.out.get 10 rfl).1
   obtain ⟨hxb9_0_w29, hxb9_1_w29⟩ := cells2 (g := w11.heap.size) (HLw29.out.get 8 rfl).1
   obtain ⟨hxb10_0_w29, hxb10_1_w29⟩ := cells2 (g := w13.heap.size) (HLw29.out.get 6 rfl).1
   obtain ⟨hxb15_0_w29, hxb15_1_w29⟩ := cells2 (g := w26.heap.size) (HLw29.out.get 1 rfl).1
   go_wp2_with fail
   have r_ := (Kd.S_reads' (HLw29.out.get 7 rfl)).2
   have q_ := laws_heldAlgebra.calls k X4 _ _ (mkOps X5 1) 1 (1 + (totO X5 : Int)) _ (by first | exact r_.2 | (rw [mkOps_length]; exact r_.2)) (by first | exact r_.1 | (rw [mkOps_length]; exact r_.1)) F9.out
   rw [mkOps_length] at q_
   (with_reducible refine q_.mono ?_)
   clear q_ r_
   rintro e w30 ⟨rfl, hbw30⟩
   have HLw30 := Aside0.mk (HLw29.out.below hbw30)
   have HBw30 := Aside0.mk (below_step (HBw29.out) (hbw30))
   clear hbw30
   obtain ⟨hxb2_0_w30, hxb2_1_w30⟩ := cells2 (g := W.heap.size) (HLw30.out.get 17 rfl).1
   obtain ⟨hxb3_0_w30, hxb3_1_w30⟩ := cells2 (g := W.heap.size + 1) (HLw30.out.get 16 rfl).1
   obtain ⟨hxb6_0_w30, hxb6_1_w30⟩ := cells2 (g := w5.heap.size) (HLw30.out.get 14 rfl).1
   obtain ⟨hxb8_0_w30, hxb8_1_w30⟩ := cells2 (g := w9.heap.size) (HLw30.out.get 10 rfl).1
   obtain ⟨hxb9_0_w30, hxb9_1_w30⟩ := cells2 (g := w11.heap.size) (HLw30.out.get 8 rfl).1
   obtain ⟨hxb10_0_w30, hxb10_1_w30⟩ := cells2 (g := w13.heap.size) (HLw30.out.get 6 rfl).1
   obtain ⟨hxb15_0_w30, hxb15_1_w30⟩ := cells2 (g := w26.heap.size) (HLw30.out.get 1 rfl).1
   go_wp2
   go_ret
   exact ⟨rfl, HBw30.out⟩
  ·have HLp28 := Aside0.mk (Live.put_box (a' := .int .i64 X4) (b' := .slice Aw27 X5.length cw27) HLw27.out 2 rfl)
   have HBp28 := Aside0.mk (show Below W.heap.size W ((w27.setCell ⟨w25.heap.size, 0, none⟩ (.int .i64 X4)).setCell ⟨w25.heap.size, 1, none⟩ (.slice Aw27 X5.length cw27)) from below_set (below_set (HBw27.out) hGx25z15) hGx25z15)
   obtain ⟨hxb2_0_w27setCel, hxb2_1_w27setCel⟩ := cells2 (g := W.heap.size) (HLp28.out.get 17 rfl).1
   obtain ⟨hxb3_0_w27setCel, hxb3_1_w27setCel⟩ := cells2 (g := W.heap.size + 1) (HLp28.out.get 16 rfl).1
   obtain ⟨hxb6_0_w27setCel, hxb6_1_w27setCel⟩ := cells2 (g := w5.heap.size) (HLp28.out.get 14 rfl).1
   obtain ⟨hxb8_0_w27setCel, hxb8_1_w27setCel⟩ := cells2 (g := w9.heap.size) (HLp28.out.get 10 rfl).1
   obtain ⟨hxb9_0_w27setCel, hxb9_1_w27setCel⟩ := cells2 (g := w11.heap.size) (HLp28.out.get 8 rfl).1
   obtain ⟨hxb10_0_w27setCel, hxb10_1_w27setCel⟩ := cells2 (g := w13.heap.size) (HLp28.out.get 6 rfl).1
   obtain ⟨hxb15_0_w27setCel, hxb15_1_w27setCel⟩ := cells2 (g := w25.heap.size) (HLp28.out.get 2 rfl).1
   go_wp2_with fail
   (with_reducible refine (laws_eqAlgebra.calls k X4 _ _ X5 X4 _ _ X5 true _ (Kd.S_reads' (HLp28.out.get 0 rfl)).2.2 (Kd.S_reads' (HLp28.out.get 0 rfl)).2.1 (Kd.S_reads' (HLp28.out.get 12 rfl)).2.2 (Kd.S_reads' (HLp28.out.get 12 rfl)).2.1 F6.out).mono ?_)
   rintro e w29 ⟨rfl, hbw29⟩
   have HLw29 := Aside0.mk (HLp28.out.below hbw29)
   have HBw29 := Aside0.mk (below_step (HBp28.out) (hbw29))
   clear hbw29
   obtain ⟨hxb2_0_w29, hxb2_1_w29⟩ := cells2 (g := W.heap.size) (HLw29.out.get 17 rfl).1
   obtain ⟨hxb3_0_w29, hxb3_1_w29⟩ := cells2 (g := W.heap.size + 1) (HLw29.out.get 16 rfl).1
   obtain ⟨hxb6_0_w29, hxb6_1_w29⟩ := cells2 (g := w5.heap.size) (HLw29.out.get 14 rfl).1
   obtain ⟨hxb8_0_w29, hxb8_1_w29⟩ := cells2 (g := w9.heap.size) (HLw29.out.get 10 rfl).1
   obtain ⟨hxb9_0_w29, hxb9_1_w29⟩ := cells2 (g := w11.heap.size) (HLw29.out.get 8 rfl).1
   obtain ⟨hxb10_0_w29, hxb10_1_w29⟩ := cells2 (g := w13.heap.size) (HLw29.out.get 6 rfl).1
   obtain ⟨hxb15_0_w29, hxb15_1_w29⟩ := cells2 (g := w25.heap.size) (HLw29.out.get 2 rfl).1
   go_wp2_with fail
   have r_ := (Kd.S_reads' (HLw29.out.get 7 rfl)).2
   have q_ := laws_heldAlgebra.calls k X4 _ _ (mkOps X5 1) 1 (1 + (totO X5 : Int)) _ (by first | exact r_.2 | (rw [mkOps_length]; exact r_.2)) (by first | exact r_.1 | (rw [mkOps_length]; exact r_.1)) F9.out
   rw [mkOps_length] at q_
   (with_reducible refine q_.mono ?_)
   clear q_ r_
   rintro e w30 ⟨rfl, hbw30⟩
   have HLw30 := Aside0.mk (HLw29.out.below hbw30)
   have HBw30 := Aside0.mk (below_step (HBw29.out) (hbw30))
   clear hbw30
   obtain ⟨hxb2_0_w30, hxb2_1_w30⟩ := cells2 (g := W.heap.size) (HLw30.out.get 17 rfl).1
   obtain ⟨hxb3_0_w30, hxb3_1_w30⟩ := cells2 (g := W.heap.size + 1) (HLw30.out.get 16 rfl).1
   obtain ⟨hxb6_0_w30, hxb6_1_w30⟩ := cells2 (g := w5.heap.size) (HLw30.out.get 14 rfl).1
   obtain ⟨hxb8_0_w30, hxb8_1_w30⟩ := cells2 (g := w9.heap.size) (HLw30.out.get 10 rfl).1
   obtain ⟨hxb9_0_w30, hxb9_1_w30⟩ := cells2 (g := w11.heap.size) (HLw30.out.get 8 rfl).1
   obtain ⟨hxb10_0_w30, hxb10_1_w30⟩ := cells2 (g := w13.heap.size) (HLw30.out.get 6 rfl).1
   obtain ⟨hxb15_0_w30, hxb15_1_w30⟩ := cells2 (g := w25.heap.size) (HLw30.out.get 2 rfl).1
   go_wp2
   go_ret
   exact ⟨rfl, HBw30.out⟩
  ·have HLp28 := Aside0.mk (Live.put_box (a' := .int .i64 X4) (b' := .slice Aw27 X5.length cw27) HLw27.out 3 rfl)
   have HBp28 := Aside0.mk (show Below W.heap.size W ((w27.setCell ⟨w24.heap.size, 0, none⟩ (.int .i64 X4)).setCell ⟨w24.heap.size, 1, none⟩ (.slice Aw27 X5.length cw27)) from below_set (below_set (HBw27.out) hGx24z15) hGx24z15)
   obtain ⟨hxb2_0_w27setCel, hxb2_1_w27setCel⟩ := cells2 (g := W.heap.size) (HLp28.out.get 17 rfl).1
   obtain ⟨hxb3_0_w27setCel, hxb3_1_w27setCel⟩ := cells2 (g := W.heap.size + 1) (HLp28.out.get 16 rfl).1
   obtain ⟨hxb6_0_w27setCel, hxb6_1_w27setCel⟩ := cells2 (g := w5.heap.size) (HLp28.out.get 14 rfl).1
   obtain ⟨hxb8_0_w27setCel, hxb8_1_w27setCel⟩ := cells2 (g := w9.heap.size) (HLp28.out.get 10 rfl).1
   obtain ⟨hxb9_0_w27setCel, hxb9_1_w27setCel⟩ := cells2 (g := w11.heap.size) (HLp28.out.get 8 rfl).1
   obtain ⟨hxb10_0_w27setCel, hxb10_1_w27setCel⟩ := cells2 (g := w13.heap.size) (HLp28.out.get 6 rfl).1
   obtain ⟨hxb15_0_w27setCel, hxb15_1_w27setCel⟩ := cells2 (g := w24.heap.size) (HLp28.out.get 3 rfl).1
   go_wp2_with fail
   (with_reducible refine (laws_eqAlgebra.calls k X4 _ _ X5 X4 _ _ X5 true _ (Kd.S_reads' (HLp28.out.get 0 rfl)).2.2 (Kd.S_reads' (HLp28.out.get 0 rfl)).2.1 (Kd.S_reads' (HLp28.out.get 12 rfl)).2.2 (Kd.S_reads' (HLp28.out.get 12 rfl)).2.1 F6.out).mono ?_)
   rintro e w29 ⟨rfl, hbw29⟩
   have HLw29 := Aside0.mk (HLp28.out.below hbw29)
   have HBw29 := Aside0.mk (below_step (HBp28.out) (hbw29))
   clear hbw29
   obtain ⟨hxb2_0_w29, hxb2_1_w29⟩ := cells2 (g := W.heap.size) (HLw29.out.get 17 rfl).1
   obtain ⟨hxb3_0_w29, hxb3_1_w29⟩ := cells2 (g := W.heap.size + 1) (HLw29.out.get 16 rfl).1
   obtain ⟨hxb6_0_w29, hxb6_1_w29⟩ := cells2 (g := w5.heap.size) (HLw29.out.get 14 rfl).1
   obtain ⟨hxb8_0_w29, hxb8_1_w29⟩ := cells2 (g := w9.heap.size) (HLw29.out.get 10 rfl).1
   obtain ⟨hxb9_0_w29, hxb9_1_w29⟩ := cells2 (g := w11.heap.size) (HLw29.out.get 8 rfl).1
   obtain ⟨hxb10_0_w29, hxb10_1_w29⟩ := cells2 (g := w13.heap.size) (HLw29.out.get 6 rfl).1
   obtain ⟨hxb15_0_w29, hxb15_1_w29⟩ := cells2 (g := w24.heap.size) (HLw29.out.get 3 rfl).1
   go_wp2_with fail
   have r_ := (Kd.S_reads' (HLw29.out.get 7 rfl)).2
   have q_ := laws_heldAlgebra.calls k X4 _ _ (mkOps X5 1) 1 (1 + (totO X5 : Int)) _ (by first | exact r_.2 | (rw [mkOps_length]; exact r_.2)) (by first | exact r_.1 | (rw [mkOps_length]; exact r_.1)) F9.out
   rw [mkOps_length] at q_
   (with_reducible refine q_.mono ?_)
   clear q_ r_
   rintro e w30 ⟨rfl, hbw30⟩
   have HLw30 := Aside0.mk (HLw29.out.below hbw30)
   have HBw30 := Aside0.mk (below_step (HBw29.out) (hbw30))
   clear hbw30
   obtain ⟨hxb2_0_w30, hxb2_1_w30⟩ := cells2 (g := W.heap.size) (HLw30.out.get 17 rfl).1
   obtain ⟨hxb3_0_w30, hxb3_1_w30⟩ := cells2 (g := W.heap.size + 1) (HLw30.out.get 16 rfl).1
   obtain ⟨hxb6_0_w30, hxb6_1_w30⟩ := cells2 (g := w5.heap.size) (HLw30.out.get 14 rfl).1
   obtain ⟨hxb8_0_w30, hxb8_1_w30⟩ := cells2 (g := w9.heap.size) (HLw30.out.get 10 rfl).1
   obtain ⟨hxb9_0_w30, hxb9_1_w30⟩ := cells2 (g := w11.heap.size) (HLw30.out.get 8 rfl).1
   obtain ⟨hxb10_0_w30, hxb10_1_w30⟩ := cells2 (g := w13.heap.size) (HLw30.out.get 6 rfl).1
   obtain ⟨hxb15_0_w30, hxb15_1_w30⟩ := cells2 (g := w24.heap.size) (HLw30.out.get 3 rfl).1
   go_wp2
   go_ret
   exact ⟨rfl, HBw30.out⟩
 ·have HLp8 := Aside0.mk (Live.put_box (a' := .int .i64 X4) (b' := .slice Aw7 X5.length cw7) HLw7.out 3 rfl)
  have HBp8 := Aside0.mk (show Below W.heap.size W ((w7.setCell ⟨w4.heap.size, 0, none⟩ (.int .i64 X4)).setCell ⟨w4.heap.size, 1, none⟩ (.slice Aw7 X5.length cw7)) from below_set (below_set (HBw7.out) hGx4z6) hGx4z6)
  obtain ⟨hxb2_0_w7setCell, hxb2_1_w7setCell⟩ := cells2 (g := W.heap.size) (HLp8.out.get 5 rfl).1
  obtain ⟨hxb3_0_w7setCell, hxb3_1_w7setCell⟩ := cells2 (g := W.heap.size + 1) (HLp8.out.get 4 rfl).1
  obtain ⟨hxb6_0_w7setCell, hxb6_1_w7setCell⟩ := cells2 (g := w4.heap.size) (HLp8.out.get 3 rfl).1
  go_wp2_with fail
  (with_reducible refine (laws_toAlgebra.calls k a0 _ _ l0 X0 X1 _ (Kd.C_below HR0.out (HBp8.out)) HC0.out F2.out).mono ?_)
  rintro e w9 ⟨vw9_0, rfl, how9_0, hbw9⟩
  obtain ⟨Aw9, cw9, rfl⟩ := Kd.S_slice how9_0
  obtain ⟨low9, hiw9, hlw9⟩ := Live.make_S HLp8.out hbw9 how9_0 (below_size (HBp8.out))
  have HLw9 := Aside0.mk hlw9
  clear hlw9 how9_0
  have HBw9 := Aside0.mk (below_step (HBp8.out) (hbw9))
  clear hbw9
  obtain ⟨hxb2_0_w9, hxb2_1_w9⟩ := cells2 (g := W.heap.size) (HLw9.out.get 6 rfl).1
  obtain ⟨hxb3_0_w9, hxb3_1_w9⟩ := cells2 (g := W.heap.size + 1) (HLw9.out.get 5 rfl).1
  obtain ⟨hxb6_0_w9, hxb6_1_w9⟩ := cells2 (g := w4.heap.size) (HLw9.out.get 4 rfl).1
  obtain ⟨lox10, hix10, HLx10⟩ := Live.make_box HLw9.out (.cells #[.int .i64 X0, .slice Aw9 X1.length cw9] 28) (w9.heap.size) (by simp)
  obtain ⟨hxb2_0_w9allocce, hxb2_1_w9allocce⟩ := cells2 (g := W.heap.size) (HLx10.get 7 rfl).1
  obtain ⟨hxb3_0_w9allocce, hxb3_1_w9allocce⟩ := cells2 (g := W.heap.size + 1) (HLx10.get 6 rfl).1
  obtain ⟨hxb6_0_w9allocce, hxb6_1_w9allocce⟩ := cells2 (g := w4.heap.size) (HLx10.get 5 rfl).1
  go_wp2_with fail
  (with_reducible refine (laws_toAlgebra.calls k a1 _ _ l1 X2 X3 _ (Kd.C_below HR1.out (below_alloc (HBw9.out) _)) HC1.out F3.out).mono ?_)
  rintro e w11 ⟨vw11_0, rfl, how11_0, hbw11⟩
  obtain ⟨Aw11, cw11, rfl⟩ := Kd.S_slice how11_0
  obtain ⟨low11, hiw11, hlw11⟩ := Live.make_S HLx10 hbw11 how11_0 (below_size (below_alloc (HBw9.out) _))
  have HLw11 := Aside0.mk hlw11
  clear hlw11 how11_0
  have HBw11 := Aside0.mk (below_step (below_alloc (HBw9.out) _) (hbw11))
  clear hbw11
  obtain ⟨hxb2_0_w11, hxb2_1_w11⟩ := cells2 (g := W.heap.size) (HLw11.out.get 8 rfl).1
  obtain ⟨hxb3_0_w11, hxb3_1_w11⟩ := cells2 (g := W.heap.size + 1) (HLw11.out.get 7 rfl).1
  obtain ⟨hxb6_0_w11, hxb6_1_w11⟩ := cells2 (g := w4.heap.size) (HLw11.out.get 6 rfl).1
  obtain ⟨hxb8_0_w11, hxb8_1_w11⟩ := cells2 (g := w9.heap.size) (HLw11.out.get 1 rfl).1
  obtain ⟨lox12, hix12, HLx12⟩ := Live.make_box HLw11.out (.cells #[.int .i64 X2, .slice Aw11 X3.length cw11] 28) (w11.heap.size) (by simp)
  obtain ⟨hxb2_0_w11allocc, hxb2_1_w11allocc⟩ := cells2 (g := W.heap.size) (HLx12.get 9 rfl).1
  obtain ⟨hxb3_0_w11allocc, hxb3_1_w11allocc⟩ := cells2 (g := W.heap.size + 1) (HLx12.get 8 rfl).1
  obtain ⟨hxb6_0_w11allocc, hxb6_1_w11allocc⟩ := cells2 (g := w4.heap.size) (HLx12.get 7 rfl).1
  obtain ⟨hxb8_0_w11allocc, hxb8_1_w11allocc⟩ := cells2 (g := w9.heap.size) (HLx12.get 2 rfl).1
  go_wp2_with fail
  (with_reducible refine (impl_ProductOf.calls k X0 _ _ X1 X2 _ _ X3 X4 X5 X6 _ (Kd.S_reads' (HLx12.get 3 rfl)).2.2 (Kd.S_reads' (HLx12.get 3 rfl)).2.1 (Kd.S_reads' (HLx12.get 1 rfl)).2.2 (Kd.S_reads' (HLx12.get 1 rfl)).2.1 F5.out).mono ?_)
  rintro e w13 ⟨vw13_0, rfl, how13_0, hbw13⟩
  obtain ⟨Aw13, cw13, rfl⟩ := Kd.S_slice how13_0
  obtain ⟨low13, hiw13, hlw13⟩ := Live.make_S HLx12 hbw13 how13_0 (below_size (below_alloc (HBw11.out) _))
  have HLw13 := Aside0.mk hlw13
  clear hlw13 how13_0
  have HBw13 := Aside0.mk (below_step (below_alloc (HBw11.out) _) (hbw13))
  clear hbw13
  obtain ⟨hxb2_0_w13, hxb2_1_w13⟩ := cells2 (g := W.heap.size) (HLw13.out.get 10 rfl).1
  obtain ⟨hxb3_0_w13, hxb3_1_w13⟩ := cells2 (g := W.heap.size + 1) (HLw13.out.get 9 rfl).1
  obtain ⟨hxb6_0_w13, hxb6_1_w13⟩ := cells2 (g := w4.heap.size) (HLw13.out.get 8 rfl).1
  obtain ⟨hxb8_0_w13, hxb8_1_w13⟩ := cells2 (g := w9.heap.size) (HLw13.out.get 3 rfl).1
  obtain ⟨hxb9_0_w13, hxb9_1_w13⟩ := cells2 (g := w11.heap.size) (HLw13.out.get 1 rfl).1
  obtain ⟨lox14, hix14, HLx14⟩ := Live.make_box HLw13.out (.cells #[.int .i64 X4, .slice Aw13 X5.length cw13] 28) (w13.heap.size) (by simp)
  obtain ⟨hxb2_0_w13allocc, hxb2_1_w13allocc⟩ := cells2 (g := W.heap.size) (HLx14.get 11 rfl).1
  obtain ⟨hxb3_0_w13allocc, hxb3_1_w13allocc⟩ := cells2 (g := W.heap.size + 1) (HLx14.get 10 rfl).1
  obtain ⟨hxb6_0_w13allocc, hxb6_1_w13allocc⟩ := cells2 (g := w4.heap.size) (HLx14.get 9 rfl).1
  obtain ⟨hxb8_0_w13allocc, hxb8_1_w13allocc⟩ := cells2 (g := w9.heap.size) (HLx14.get 4 rfl).1
  obtain ⟨hxb9_0_w13allocc, hxb9_1_w13allocc⟩ := cells2 (g := w11.heap.size) (HLx14.get 2 rfl).1
  go_wp2_with fail
  (with_reducible refine (laws_eqAlgebra.calls k X4 _ _ X5 X4 _ _ X5 true _ (Kd.S_reads' (HLx14.get 1 rfl)).2.2 (Kd.S_reads' (HLx14.get 1 rfl)).2.1 (Kd.S_reads' (HLx14.get 6 rfl)).2.2 (Kd.S_reads' (HLx14.get 6 rfl)).2.1 F6.out).mono ?_)
  rintro e w15 ⟨rfl, hbw15⟩
  have HLw15 := Aside0.mk (HLx14.below hbw15)
  have HBw15 := Aside0.mk (below_step (below_alloc (HBw13.out) _) (hbw15))
  clear hbw15
  obtain ⟨hxb2_0_w15, hxb2_1_w15⟩ := cells2 (g := W.heap.size) (HLw15.out.get 11 rfl).1
  obtain ⟨hxb3_0_w15, hxb3_1_w15⟩ := cells2 (g := W.heap.size + 1) (HLw15.out.get 10 rfl).1
  obtain ⟨hxb6_0_w15, hxb6_1_w15⟩ := cells2 (g := w4.heap.size) (HLw15.out.get 9 rfl).1
  obtain ⟨hxb8_0_w15, hxb8_1_w15⟩ := cells2 (g := w9.heap.size) (HLw15.out.get 4 rfl).1
  obtain ⟨hxb9_0_w15, hxb9_1_w15⟩ := cells2 (g := w11.heap.size) (HLw15.out.get 2 rfl).1
  obtain ⟨hxb10_0_w15, hxb10_1_w15⟩ := cells2 (g := w13.heap.size) (HLw15.out.get 0 rfl).1
  go_wp2_with fail
  go_region_held3 (fun w' => w'.cell? ⟨W.heap.size, 0, none⟩ = some (.int .i64 a0) ∧ w'.cell? ⟨W.heap.size, 1, none⟩ = some (.slice A0 l0.length c0) ∧ w'.cell? ⟨W.heap.size + 1, 0, none⟩ = some (.int .i64 a1) ∧ w'.cell? ⟨W.heap.size + 1, 1, none⟩ = some (.slice A1 l1.length c1) ∧ w'.cell? ⟨w4.heap.size, 0, none⟩ = some (.int .i64 X4) ∧ w'.cell? ⟨w4.heap.size, 1, none⟩ = some (.slice Aw7 X5.length cw7) ∧ w'.cell? ⟨w9.heap.size, 0, none⟩ = some (.int .i64 X0) ∧ w'.cell? ⟨w9.heap.size, 1, none⟩ = some (.slice Aw9 X1.length cw9) ∧ w'.cell? ⟨w11.heap.size, 0, none⟩ = some (.int .i64 X2) ∧ w'.cell? ⟨w11.heap.size, 1, none⟩ = some (.slice Aw11 X3.length cw11) ∧ w'.cell? ⟨w13.heap.size, 0, none⟩ = some (.int .i64 X4) ∧ w'.cell? ⟨w13.heap.size, 1, none⟩ = some (.slice Aw13 X5.length cw13)) (first | (simp [*]; done) | go_keep) (first | (go_at_call 9; (with_reducible refine (laws_toAlgebra.calls k a0 _ _ l0 X0 X1 _ (Kd.C_below HR0.out (below_drew1 (HBw15.out))) HC0.out F2.out).mono ?_); rintro e w16 ⟨vw16_0, rfl, how16_0, hbw16⟩; obtain ⟨Aw16, cw16, rfl⟩ := Kd.S_slice how16_0; obtain ⟨low16, hiw16, hlw16⟩ := Live.make_S (Live.drew HLw15.out) hbw16 how16_0 (below_size (below_drew1 (HBw15.out))); have HLw16 := Aside0.mk hlw16; clear hlw16 how16_0; have HBw16 := Aside0.mk (below_step (below_drew1 (HBw15.out)) (hbw16)); clear hbw16; obtain ⟨hxb2_0_w16, hxb2_1_w16⟩ := cells2 (g := W.heap.size) (HLw16.out.get 12 rfl).1; obtain ⟨hxb3_0_w16, hxb3_1_w16⟩ := cells2 (g := W.heap.size + 1) (HLw16.out.get 11 rfl).1; obtain ⟨hxb6_0_w16, hxb6_1_w16⟩ := cells2 (g := w4.heap.size) (HLw16.out.get 10 rfl).1; obtain ⟨hxb8_0_w16, hxb8_1_w16⟩ := cells2 (g := w9.heap.size) (HLw16.out.get 5 rfl).1; obtain ⟨hxb9_0_w16, hxb9_1_w16⟩ := cells2 (g := w11.heap.size) (HLw16.out.get 3 rfl).1; obtain ⟨hxb10_0_w16, hxb10_1_w16⟩ := cells2 (g := w13.heap.size) (HLw16.out.get 1 rfl).1) | (go_at_call 11; (with_reducible refine (laws_eqAlgebra.calls k X0 _ _ X1 X0 _ _ X1 true _ (Kd.S_reads' (HLw16.out.get 6 rfl)).2.2 (Kd.S_reads' (HLw16.out.get 6 rfl)).2.1 (Kd.S_reads' (HLw16.out.get 0 rfl)).2.2 (Kd.S_reads' (HLw16.out.get 0 rfl)).2.1 F7.out).mono ?_); rintro e w17 ⟨rfl, hbw17⟩; have HLw17 := Aside0.mk (HLw16.out.below hbw17); have HBw17 := Aside0.mk (below_step (HBw16.out) (hbw17)); clear hbw17; obtain ⟨hxb2_0_w17, hxb2_1_w17⟩ := cells2 (g := W.heap.size) (HLw17.out.get 12 rfl).1; obtain ⟨hxb3_0_w17, hxb3_1_w17⟩ := cells2 (g := W.heap.size + 1) (HLw17.out.get 11 rfl).1; obtain ⟨hxb6_0_w17, hxb6_1_w17⟩ := cells2 (g := w4.heap.size) (HLw17.out.get 10 rfl).1; obtain ⟨hxb8_0_w17, hxb8_1_w17⟩ := cells2 (g := w9.heap.size) (HLw17.out.get 5 rfl).1; obtain ⟨hxb9_0_w17, hxb9_1_w17⟩ := cells2 (g := w11.heap.size) (HLw17.out.get 3 rfl).1; obtain ⟨hxb10_0_w17, hxb10_1_w17⟩ := cells2 (g := w13.heap.size) (HLw17.out.get 1 rfl).1))
  go_wp2_with fail
  go_region_held3 (fun w' => w'.cell? ⟨W.heap.size, 0, none⟩ = some (.int .i64 a0) ∧ w'.cell? ⟨W.heap.size, 1, none⟩ = some (.slice A0 l0.length c0) ∧ w'.cell? ⟨W.heap.size + 1, 0, none⟩ = some (.int .i64 a1) ∧ w'.cell? ⟨W.heap.size + 1, 1, none⟩ = some (.slice A1 l1.length c1) ∧ w'.cell? ⟨w4.heap.size, 0, none⟩ = some (.int .i64 X4) ∧ w'.cell? ⟨w4.heap.size, 1, none⟩ = some (.slice Aw7 X5.length cw7) ∧ w'.cell? ⟨w9.heap.size, 0, none⟩ = some (.int .i64 X0) ∧ w'.cell? ⟨w9.heap.size, 1, none⟩ = some (.slice Aw9 X1.length cw9) ∧ w'.cell? ⟨w11.heap.size, 0, none⟩ = some (.int .i64 X2) ∧ w'.cell? ⟨w11.heap.size, 1, none⟩ = some (.slice Aw11 X3.length cw11) ∧ w'.cell? ⟨w13.heap.size, 0, none⟩ = some (.int .i64 X4) ∧ w'.cell? ⟨w13.heap.size, 1, none⟩ = some (.slice Aw13 X5.length cw13)) (first | (simp [*]; done) | go_keep) (first | (go_at_call 9; (with_reducible refine (laws_toAlgebra.calls k a1 _ _ l1 X2 X3 _ (Kd.C_below HR1.out (below_drew1 (HBw17.out))) HC1.out F3.out).mono ?_); rintro e w18 ⟨vw18_0, rfl, how18_0, hbw18⟩; obtain ⟨Aw18, cw18, rfl⟩ := Kd.S_slice how18_0; obtain ⟨low18, hiw18, hlw18⟩ := Live.make_S (Live.drew HLw17.out) hbw18 how18_0 (below_size (below_drew1 (HBw17.out))); have HLw18 := Aside0.mk hlw18; clear hlw18 how18_0; have HBw18 := Aside0.mk (below_step (below_drew1 (HBw17.out)) (hbw18)); clear hbw18; obtain ⟨hxb2_0_w18, hxb2_1_w18⟩ := cells2 (g := W.heap.size) (HLw18.out.get 13 rfl).1; obtain ⟨hxb3_0_w18, hxb3_1_w18⟩ := cells2 (g := W.heap.size + 1) (HLw18.out.get 12 rfl).1; obtain ⟨hxb6_0_w18, hxb6_1_w18⟩ := cells2 (g := w4.heap.size) (HLw18.out.get 11 rfl).1; obtain ⟨hxb8_0_w18, hxb8_1_w18⟩ := cells2 (g := w9.heap.size) (HLw18.out.get 6 rfl).1; obtain ⟨hxb9_0_w18, hxb9_1_w18⟩ := cells2 (g := w11.heap.size) (HLw18.out.get 4 rfl).1; obtain ⟨hxb10_0_w18, hxb10_1_w18⟩ := cells2 (g := w13.heap.size) (HLw18.out.get 2 rfl).1) | (go_at_call 11; (with_reducible refine (laws_eqAlgebra.calls k X2 _ _ X3 X2 _ _ X3 true _ (Kd.S_reads' (HLw18.out.get 5 rfl)).2.2 (Kd.S_reads' (HLw18.out.get 5 rfl)).2.1 (Kd.S_reads' (HLw18.out.get 0 rfl)).2.2 (Kd.S_reads' (HLw18.out.get 0 rfl)).2.1 F8.out).mono ?_); rintro e w19 ⟨rfl, hbw19⟩; have HLw19 := Aside0.mk (HLw18.out.below hbw19); have HBw19 := Aside0.mk (below_step (HBw18.out) (hbw19)); clear hbw19; obtain ⟨hxb2_0_w19, hxb2_1_w19⟩ := cells2 (g := W.heap.size) (HLw19.out.get 13 rfl).1; obtain ⟨hxb3_0_w19, hxb3_1_w19⟩ := cells2 (g := W.heap.size + 1) (HLw19.out.get 12 rfl).1; obtain ⟨hxb6_0_w19, hxb6_1_w19⟩ := cells2 (g := w4.heap.size) (HLw19.out.get 11 rfl).1; obtain ⟨hxb8_0_w19, hxb8_1_w19⟩ := cells2 (g := w9.heap.size) (HLw19.out.get 6 rfl).1; obtain ⟨hxb9_0_w19, hxb9_1_w19⟩ := cells2 (g := w11.heap.size) (HLw19.out.get 4 rfl).1; obtain ⟨hxb10_0_w19, hxb10_1_w19⟩ := cells2 (g := w13.heap.size) (HLw19.out.get 2 rfl).1))
  go_wp2_with fail
  (with_reducible refine (laws_markAlgebra.marks X0 (fun k => low9 ≤ k ∧ k < hiw9) _ X1 1 W _ (HBw19.out) (HLw19.out.get 7 rfl) (by have := HBD.out; omega) (by have := HBD.out; omega)).mono ?_)
  rintro e w20 ⟨rfl, hm1, hm2, hm3⟩
  have HLw20 := Aside0.mk (Live.mark HLw19.out 7 rfl hm3 (seg_S hm1 (fun k hk _ _ => hk) (Nat.le_refl _)))
  have HBw20 := Aside0.mk hm2
  clear hm1 hm2 hm3
  obtain ⟨hxb2_0_w20, hxb2_1_w20⟩ := cells2 (g := W.heap.size) (HLw20.out.get 13 rfl).1
  obtain ⟨hxb3_0_w20, hxb3_1_w20⟩ := cells2 (g := W.heap.size + 1) (HLw20.out.get 12 rfl).1
  obtain ⟨hxb6_0_w20, hxb6_1_w20⟩ := cells2 (g := w4.heap.size) (HLw20.out.get 11 rfl).1
  obtain ⟨hxb8_0_w20, hxb8_1_w20⟩ := cells2 (g := w9.heap.size) (HLw20.out.get 6 rfl).1
  obtain ⟨hxb9_0_w20, hxb9_1_w20⟩ := cells2 (g := w11.heap.size) (HLw20.out.get 4 rfl).1
  obtain ⟨hxb10_0_w20, hxb10_1_w20⟩ := cells2 (g := w13.heap.size) (HLw20.out.get 2 rfl).1
  go_wp2_with fail
  (with_reducible refine (laws_markAlgebra.marks X2 (fun k => low11 ≤ k ∧ k < hiw11) _ X3 (1 + (totO X1 : Int)) W _ (HBw20.out) (HLw20.out.get 5 rfl) (by have := HBD.out; omega) (by have := HBD.out; omega)).mono ?_)
  rintro e w21 ⟨rfl, hm1, hm2, hm3⟩
  have HLw21 := Aside0.mk (Live.mark HLw20.out 5 rfl hm3 (seg_S hm1 (fun k hk _ _ => hk) (Nat.le_refl _)))
  have HBw21 := Aside0.mk hm2
  clear hm1 hm2 hm3
  obtain ⟨hxb2_0_w21, hxb2_1_w21⟩ := cells2 (g := W.heap.size) (HLw21.out.get 13 rfl).1
  obtain ⟨hxb3_0_w21, hxb3_1_w21⟩ := cells2 (g := W.heap.size + 1) (HLw21.out.get 12 rfl).1
  obtain ⟨hxb6_0_w21, hxb6_1_w21⟩ := cells2 (g := w4.heap.size) (HLw21.out.get 11 rfl).1
  obtain ⟨hxb8_0_w21, hxb8_1_w21⟩ := cells2 (g := w9.heap.size) (HLw21.out.get 6 rfl).1
  obtain ⟨hxb9_0_w21, hxb9_1_w21⟩ := cells2 (g := w11.heap.size) (HLw21.out.get 4 rfl).1
  obtain ⟨hxb10_0_w21, hxb10_1_w21⟩ := cells2 (g := w13.heap.size) (HLw21.out.get 2 rfl).1
  go_wp2_with fail
  (with_reducible refine (laws_eqAlgebra.calls k X4 _ _ X5 X4 _ _ X5 true _ (Kd.S_reads' (HLw21.out.get 3 rfl)).2.2 (Kd.S_reads' (HLw21.out.get 3 rfl)).2.1 (Kd.S_reads' (HLw21.out.get 8 rfl)).2.2 (Kd.S_reads' (HLw21.out.get 8 rfl)).2.1 F6.out).mono ?_)
  rintro e w22 ⟨rfl, hbw22⟩
  have HLw22 := Aside0.mk (HLw21.out.below hbw22)
  have HBw22 := Aside0.mk (below_step (HBw21.out) (hbw22))
  clear hbw22
  obtain ⟨hxb2_0_w22, hxb2_1_w22⟩ := cells2 (g := W.heap.size) (HLw22.out.get 13 rfl).1
  obtain ⟨hxb3_0_w22, hxb3_1_w22⟩ := cells2 (g := W.heap.size + 1) (HLw22.out.get 12 rfl).1
  obtain ⟨hxb6_0_w22, hxb6_1_w22⟩ := cells2 (g := w4.heap.size) (HLw22.out.get 11 rfl).1
  obtain ⟨hxb8_0_w22, hxb8_1_w22⟩ := cells2 (g := w9.heap.size) (HLw22.out.get 6 rfl).1
  obtain ⟨hxb9_0_w22, hxb9_1_w22⟩ := cells2 (g := w11.heap.size) (HLw22.out.get 4 rfl).1
  obtain ⟨hxb10_0_w22, hxb10_1_w22⟩ := cells2 (g := w13.heap.size) (HLw22.out.get 2 rfl).1
  go_wp2_with fail
  (with_reducible refine (laws_markAlgebra.marks X4 (fun k => low13 ≤ k ∧ k < hiw13) _ X5 1 W _ (HBw22.out) (HLw22.out.get 3 rfl) (by have := HBD.out; omega) (by have := HBD.out; omega)).mono ?_)
  rintro e w23 ⟨rfl, hm1, hm2, hm3⟩
  have HLw23 := Aside0.mk (Live.mark HLw22.out 3 rfl hm3 (seg_S hm1 (fun k hk _ _ => hk) (Nat.le_refl _)))
  have HBw23 := Aside0.mk hm2
  clear hm1 hm2 hm3
  obtain ⟨hxb2_0_w23, hxb2_1_w23⟩ := cells2 (g := W.heap.size) (HLw23.out.get 13 rfl).1
  obtain ⟨hxb3_0_w23, hxb3_1_w23⟩ := cells2 (g := W.heap.size + 1) (HLw23.out.get 12 rfl).1
  obtain ⟨hxb6_0_w23, hxb6_1_w23⟩ := cells2 (g := w4.heap.size) (HLw23.out.get 11 rfl).1
  obtain ⟨hxb8_0_w23, hxb8_1_w23⟩ := cells2 (g := w9.heap.size) (HLw23.out.get 6 rfl).1
  obtain ⟨hxb9_0_w23, hxb9_1_w23⟩ := cells2 (g := w11.heap.size) (HLw23.out.get 4 rfl).1
  obtain ⟨hxb10_0_w23, hxb10_1_w23⟩ := cells2 (g := w13.heap.size) (HLw23.out.get 2 rfl).1
  go_wp2_with fail
  have r_ := (Kd.S_reads' (HLw23.out.get 3 rfl)).2
  have q_ := laws_heldAlgebra.calls k X4 _ _ (mkOps X5 1) 1 (1 + (totO X5 : Int)) _ (by first | exact r_.2 | (rw [mkOps_length]; exact r_.2)) (by first | exact r_.1 | (rw [mkOps_length]; exact r_.1)) F9.out
  rw [mkOps_length] at q_
  (with_reducible refine q_.mono ?_)
  clear q_ r_
  rintro e w24 ⟨rfl, hbw24⟩
  have HLw24 := Aside0.mk (HLw23.out.below hbw24)
  have HBw24 := Aside0.mk (below_step (HBw23.out) (hbw24))
  clear hbw24
  obtain ⟨hxb2_0_w24, hxb2_1_w24⟩ := cells2 (g := W.heap.size) (HLw24.out.get 13 rfl).1
  obtain ⟨hxb3_0_w24, hxb3_1_w24⟩ := cells2 (g := W.heap.size + 1) (HLw24.out.get 12 rfl).1
  obtain ⟨hxb6_0_w24, hxb6_1_w24⟩ := cells2 (g := w4.heap.size) (HLw24.out.get 11 rfl).1
  obtain ⟨hxb8_0_w24, hxb8_1_w24⟩ := cells2 (g := w9.heap.size) (HLw24.out.get 6 rfl).1
  obtain ⟨hxb9_0_w24, hxb9_1_w24⟩ := cells2 (g := w11.heap.size) (HLw24.out.get 4 rfl).1
  obtain ⟨hxb10_0_w24, hxb10_1_w24⟩ := cells2 (g := w13.heap.size) (HLw24.out.get 2 rfl).1
  go_wp2_with fail
  go_region_held3 (fun w' => w'.cell? ⟨W.heap.size, 0, none⟩ = some (.int .i64 a0) ∧ w'.cell? ⟨W.heap.size, 1, none⟩ = some (.slice A0 l0.length c0) ∧ w'.cell? ⟨W.heap.size + 1, 0, none⟩ = some (.int .i64 a1) ∧ w'.cell? ⟨W.heap.size + 1, 1, none⟩ = some (.slice A1 l1.length c1) ∧ w'.cell? ⟨w4.heap.size, 0, none⟩ = some (.int .i64 X4) ∧ w'.cell? ⟨w4.heap.size, 1, none⟩ = some (.slice Aw7 X5.length cw7) ∧ w'.cell? ⟨w9.heap.size, 0, none⟩ = some (.int .i64 X0) ∧ w'.cell? ⟨w9.heap.size, 1, none⟩ = some (.slice Aw9 X1.length cw9) ∧ w'.cell? ⟨w11.heap.size, 0, none⟩ = some (.int .i64 X2) ∧ w'.cell? ⟨w11.heap.size, 1, none⟩ = some (.slice Aw11 X3.length cw11) ∧ w'.cell? ⟨w13.heap.size, 0, none⟩ = some (.int .i64 X4) ∧ w'.cell? ⟨w13.heap.size, 1, none⟩ = some (.slice Aw13 X5.length cw13)) (first | (simp [*]; done) | go_keep) (first | (go_at_call 9; (with_reducible refine (laws_toAlgebra.calls k a0 _ _ l0 X0 X1 _ (Kd.C_below HR0.out (below_drew1 (HBw24.out))) HC0.out F2.out).mono ?_); rintro e w25 ⟨vw25_0, rfl, how25_0, hbw25⟩; obtain ⟨Aw25, cw25, rfl⟩ := Kd.S_slice how25_0; obtain ⟨low25, hiw25, hlw25⟩ := Live.make_S (Live.drew HLw24.out) hbw25 how25_0 (below_size (below_drew1 (HBw24.out))); have HLw25 := Aside0.mk hlw25; clear hlw25 how25_0; have HBw25 := Aside0.mk (below_step (below_drew1 (HBw24.out)) (hbw25)); clear hbw25; obtain ⟨hxb2_0_w25, hxb2_1_w25⟩ := cells2 (g := W.heap.size) (HLw25.out.get 14 rfl).1; obtain ⟨hxb3_0_w25, hxb3_1_w25⟩ := cells2 (g := W.heap.size + 1) (HLw25.out.get 13 rfl).1; obtain ⟨hxb6_0_w25, hxb6_1_w25⟩ := cells2 (g := w4.heap.size) (HLw25.out.get 12 rfl).1; obtain ⟨hxb8_0_w25, hxb8_1_w25⟩ := cells2 (g := w9.heap.size) (HLw25.out.get 7 rfl).1; obtain ⟨hxb9_0_w25, hxb9_1_w25⟩ := cells2 (g := w11.heap.size) (HLw25.out.get 5 rfl).1; obtain ⟨hxb10_0_w25, hxb10_1_w25⟩ := cells2 (g := w13.heap.size) (HLw25.out.get 3 rfl).1) | (go_at_call 9; (with_reducible refine (laws_toAlgebra.calls k a1 _ _ l1 X2 X3 _ (Kd.C_below HR1.out (HBw25.out)) HC1.out F3.out).mono ?_); rintro e w26 ⟨vw26_0, rfl, how26_0, hbw26⟩; obtain ⟨Aw26, cw26, rfl⟩ := Kd.S_slice how26_0; obtain ⟨low26, hiw26, hlw26⟩ := Live.make_S HLw25.out hbw26 how26_0 (below_size (HBw25.out)); have HLw26 := Aside0.mk hlw26; clear hlw26 how26_0; have HBw26 := Aside0.mk (below_step (HBw25.out) (hbw26)); clear hbw26; obtain ⟨hxb2_0_w26, hxb2_1_w26⟩ := cells2 (g := W.heap.size) (HLw26.out.get 15 rfl).1; obtain ⟨hxb3_0_w26, hxb3_1_w26⟩ := cells2 (g := W.heap.size + 1) (HLw26.out.get 14 rfl).1; obtain ⟨hxb6_0_w26, hxb6_1_w26⟩ := cells2 (g := w4.heap.size) (HLw26.out.get 13 rfl).1; obtain ⟨hxb8_0_w26, hxb8_1_w26⟩ := cells2 (g := w9.heap.size) (HLw26.out.get 8 rfl).1; obtain ⟨hxb9_0_w26, hxb9_1_w26⟩ := cells2 (g := w11.heap.size) (HLw26.out.get 6 rfl).1; obtain ⟨hxb10_0_w26, hxb10_1_w26⟩ := cells2 (g := w13.heap.size) (HLw26.out.get 4 rfl).1) | (go_at_call 10; (with_reducible refine (impl_ProductOf.calls k X0 _ _ X1 X2 _ _ X3 X4 X5 X6 _ (Kd.S_reads' (HLw26.out.get 1 rfl)).2.2 (Kd.S_reads' (HLw26.out.get 1 rfl)).2.1 (Kd.S_reads' (HLw26.out.get 0 rfl)).2.2 (Kd.S_reads' (HLw26.out.get 0 rfl)).2.1 F5.out).mono ?_); rintro e w27 ⟨vw27_0, rfl, how27_0, hbw27⟩; obtain ⟨Aw27, cw27, rfl⟩ := Kd.S_slice how27_0; obtain ⟨low27, hiw27, hlw27⟩ := Live.make_S HLw26.out hbw27 how27_0 (below_size (HBw26.out)); have HLw27 := Aside0.mk hlw27; clear hlw27 how27_0; have HBw27 := Aside0.mk (below_step (HBw26.out) (hbw27)); clear hbw27; obtain ⟨hxb2_0_w27, hxb2_1_w27⟩ := cells2 (g := W.heap.size) (HLw27.out.get 16 rfl).1; obtain ⟨hxb3_0_w27, hxb3_1_w27⟩ := cells2 (g := W.heap.size + 1) (HLw27.out.get 15 rfl).1; obtain ⟨hxb6_0_w27, hxb6_1_w27⟩ := cells2 (g := w4.heap.size) (HLw27.out.get 14 rfl).1; obtain ⟨hxb8_0_w27, hxb8_1_w27⟩ := cells2 (g := w9.heap.size) (HLw27.out.get 9 rfl).1; obtain ⟨hxb9_0_w27, hxb9_1_w27⟩ := cells2 (g := w11.heap.size) (HLw27.out.get 7 rfl).1; obtain ⟨hxb10_0_w27, hxb10_1_w27⟩ := cells2 (g := w13.heap.size) (HLw27.out.get 5 rfl).1; have hna2_27 := Nat.ne_of_lt (blk_lt (HLw27.out.get 16 rfl).1); have hnb2_27 := hna2_27.symm; have hna3_27 := Nat.ne_of_lt (blk_lt (HLw27.out.get 15 rfl).1); have hnb3_27 := hna3_27.symm; have hna6_27 := Nat.ne_of_lt (blk_lt (HLw27.out.get 14 rfl).1); have hnb6_27 := hna6_27.symm; have hna8_27 := Nat.ne_of_lt (blk_lt (HLw27.out.get 9 rfl).1); have hnb8_27 := hna8_27.symm; have hna9_27 := Nat.ne_of_lt (blk_lt (HLw27.out.get 7 rfl).1); have hnb9_27 := hna9_27.symm; have hna10_27 := Nat.ne_of_lt (blk_lt (HLw27.out.get 5 rfl).1); have hnb10_27 := hna10_27.symm; obtain ⟨lox27z15, hix27z15, HLx27z15⟩ := Live.make_box HLw27.out (.cells #[.int .i64 0, .slice none 0 0] 28) (w27.heap.size) (by first | rfl | simp); have hGx27z15 := below_size (HBw27.out); have hz15_0 : (w27.alloc (.cells #[.int .i64 0, .slice none 0 0] 28)).cell? ⟨w27.heap.size, 0, none⟩ = some (.int .i64 0) := (blk_cell (HLx27z15.get 0 rfl).1 0).trans rfl; have hfz15_0 := blk_frozen (HLx27z15.get 0 rfl).1 0; have hz15_1 : (w27.alloc (.cells #[.int .i64 0, .slice none 0 0] 28)).cell? ⟨w27.heap.size, 1, none⟩ = some (.slice none 0 0) := (blk_cell (HLx27z15.get 0 rfl).1 1).trans rfl; have hfz15_1 := blk_frozen (HLx27z15.get 0 rfl).1 1) | (go_at_call 10; have hna2_26 := Nat.ne_of_lt (blk_lt (HLw26.out.get 15 rfl).1); have hnb2_26 := hna2_26.symm; have hna3_26 := Nat.ne_of_lt (blk_lt (HLw26.out.get 14 rfl).1); have hnb3_26 := hna3_26.symm; have hna6_26 := Nat.ne_of_lt (blk_lt (HLw26.out.get 13 rfl).1); have hnb6_26 := hna6_26.symm; have hna8_26 := Nat.ne_of_lt (blk_lt (HLw26.out.get 8 rfl).1); have hnb8_26 := hna8_26.symm; have hna9_26 := Nat.ne_of_lt (blk_lt (HLw26.out.get 6 rfl).1); have hnb9_26 := hna9_26.symm; have hna10_26 := Nat.ne_of_lt (blk_lt (HLw26.out.get 4 rfl).1); have hnb10_26 := hna10_26.symm; obtain ⟨lox26z15, hix26z15, HLx26z15⟩ := Live.make_box HLw26.out (.cells #[.int .i64 0, .slice none 0 0] 28) (w26.heap.size) (by first | rfl | simp); have hGx26z15 := below_size (HBw26.out); (with_reducible refine (impl_ProductOf.calls k X0 _ _ X1 X2 _ _ X3 X4 X5 X6 _ (Kd.S_reads' (HLx26z15.get 2 rfl)).2.2 (Kd.S_reads' (HLx26z15.get 2 rfl)).2.1 (Kd.S_reads' (HLx26z15.get 1 rfl)).2.2 (Kd.S_reads' (HLx26z15.get 1 rfl)).2.1 F5.out).mono ?_); rintro e w27 ⟨vw27_0, rfl, how27_0, hbw27⟩; obtain ⟨Aw27, cw27, rfl⟩ := Kd.S_slice how27_0; obtain ⟨low27, hiw27, hlw27⟩ := Live.make_S HLx26z15 hbw27 how27_0 (below_size (below_alloc (HBw26.out) _)); have HLw27 := Aside0.mk hlw27; clear hlw27 how27_0; have HBw27 := Aside0.mk (below_step (below_alloc (HBw26.out) _) (hbw27)); clear hbw27; obtain ⟨hxb2_0_w27, hxb2_1_w27⟩ := cells2 (g := W.heap.size) (HLw27.out.get 17 rfl).1; obtain ⟨hxb3_0_w27, hxb3_1_w27⟩ := cells2 (g := W.heap.size + 1) (HLw27.out.get 16 rfl).1; obtain ⟨hxb6_0_w27, hxb6_1_w27⟩ := cells2 (g := w4.heap.size) (HLw27.out.get 15 rfl).1; obtain ⟨hxb8_0_w27, hxb8_1_w27⟩ := cells2 (g := w9.heap.size) (HLw27.out.get 10 rfl).1; obtain ⟨hxb9_0_w27, hxb9_1_w27⟩ := cells2 (g := w11.heap.size) (HLw27.out.get 8 rfl).1; obtain ⟨hxb10_0_w27, hxb10_1_w27⟩ := cells2 (g := w13.heap.size) (HLw27.out.get 6 rfl).1; have hz15_0 : w27.cell? ⟨w26.heap.size, 0, none⟩ = some (.int .i64 0) := (blk_cell (HLw27.out.get 1 rfl).1 0).trans rfl; have hfz15_0 := blk_frozen (HLw27.out.get 1 rfl).1 0; have hz15_1 : w27.cell? ⟨w26.heap.size, 1, none⟩ = some (.slice none 0 0) := (blk_cell (HLw27.out.get 1 rfl).1 1).trans rfl; have hfz15_1 := blk_frozen (HLw27.out.get 1 rfl).1 1) | (go_at_call 9; have hna2_25 := Nat.ne_of_lt (blk_lt (HLw25.out.get 14 rfl).1); have hnb2_25 := hna2_25.symm; have hna3_25 := Nat.ne_of_lt (blk_lt (HLw25.out.get 13 rfl).1); have hnb3_25 := hna3_25.symm; have hna6_25 := Nat.ne_of_lt (blk_lt (HLw25.out.get 12 rfl).1); have hnb6_25 := hna6_25.symm; have hna8_25 := Nat.ne_of_lt (blk_lt (HLw25.out.get 7 rfl).1); have hnb8_25 := hna8_25.symm; have hna9_25 := Nat.ne_of_lt (blk_lt (HLw25.out.get 5 rfl).1); have hnb9_25 := hna9_25.symm; have hna10_25 := Nat.ne_of_lt (blk_lt (HLw25.out.get 3 rfl).1); have hnb10_25 := hna10_25.symm; obtain ⟨lox25z15, hix25z15, HLx25z15⟩ := Live.make_box HLw25.out (.cells #[.int .i64 0, .slice none 0 0] 28) (w25.heap.size) (by first | rfl | simp); have hGx25z15 := below_size (HBw25.out); (with_reducible refine (laws_toAlgebra.calls k a1 _ _ l1 X2 X3 _ (Kd.C_below HR1.out (below_alloc (HBw25.out) _)) HC1.out F3.out).mono ?_); rintro e w26 ⟨vw26_0, rfl, how26_0, hbw26⟩; obtain ⟨Aw26, cw26, rfl⟩ := Kd.S_slice how26_0; obtain ⟨low26, hiw26, hlw26⟩ := Live.make_S HLx25z15 hbw26 how26_0 (below_size (below_alloc (HBw25.out) _)); have HLw26 := Aside0.mk hlw26; clear hlw26 how26_0; have HBw26 := Aside0.mk (below_step (below_alloc (HBw25.out) _) (hbw26)); clear hbw26; obtain ⟨hxb2_0_w26, hxb2_1_w26⟩ := cells2 (g := W.heap.size) (HLw26.out.get 16 rfl).1; obtain ⟨hxb3_0_w26, hxb3_1_w26⟩ := cells2 (g := W.heap.size + 1) (HLw26.out.get 15 rfl).1; obtain ⟨hxb6_0_w26, hxb6_1_w26⟩ := cells2 (g := w4.heap.size) (HLw26.out.get 14 rfl).1; obtain ⟨hxb8_0_w26, hxb8_1_w26⟩ := cells2 (g := w9.heap.size) (HLw26.out.get 9 rfl).1; obtain ⟨hxb9_0_w26, hxb9_1_w26⟩ := cells2 (g := w11.heap.size) (HLw26.out.get 7 rfl).1; obtain ⟨hxb10_0_w26, hxb10_1_w26⟩ := cells2 (g := w13.heap.size) (HLw26.out.get 5 rfl).1) | (go_at_call 10; (with_reducible refine (impl_ProductOf.calls k X0 _ _ X1 X2 _ _ X3 X4 X5 X6 _ (Kd.S_reads' (HLw26.out.get 2 rfl)).2.2 (Kd.S_reads' (HLw26.out.get 2 rfl)).2.1 (Kd.S_reads' (HLw26.out.get 0 rfl)).2.2 (Kd.S_reads' (HLw26.out.get 0 rfl)).2.1 F5.out).mono ?_); rintro e w27 ⟨vw27_0, rfl, how27_0, hbw27⟩; obtain ⟨Aw27, cw27, rfl⟩ := Kd.S_slice how27_0; obtain ⟨low27, hiw27, hlw27⟩ := Live.make_S HLw26.out hbw27 how27_0 (below_size (HBw26.out)); have HLw27 := Aside0.mk hlw27; clear hlw27 how27_0; have HBw27 := Aside0.mk (below_step (HBw26.out) (hbw27)); clear hbw27; obtain ⟨hxb2_0_w27, hxb2_1_w27⟩ := cells2 (g := W.heap.size) (HLw27.out.get 17 rfl).1; obtain ⟨hxb3_0_w27, hxb3_1_w27⟩ := cells2 (g := W.heap.size + 1) (HLw27.out.get 16 rfl).1; obtain ⟨hxb6_0_w27, hxb6_1_w27⟩ := cells2 (g := w4.heap.size) (HLw27.out.get 15 rfl).1; obtain ⟨hxb8_0_w27, hxb8_1_w27⟩ := cells2 (g := w9.heap.size) (HLw27.out.get 10 rfl).1; obtain ⟨hxb9_0_w27, hxb9_1_w27⟩ := cells2 (g := w11.heap.size) (HLw27.out.get 8 rfl).1; obtain ⟨hxb10_0_w27, hxb10_1_w27⟩ := cells2 (g := w13.heap.size) (HLw27.out.get 6 rfl).1; have hz15_0 : w27.cell? ⟨w25.heap.size, 0, none⟩ = some (.int .i64 0) := (blk_cell (HLw27.out.get 2 rfl).1 0).trans rfl; have hfz15_0 := blk_frozen (HLw27.out.get 2 rfl).1 0; have hz15_1 : w27.cell? ⟨w25.heap.size, 1, none⟩ = some (.slice none 0 0) := (blk_cell (HLw27.out.get 2 rfl).1 1).trans rfl; have hfz15_1 := blk_frozen (HLw27.out.get 2 rfl).1 1) | (go_at_call 9; have hna2_24 := Nat.ne_of_lt (blk_lt (HLw24.out.get 13 rfl).1); have hnb2_24 := hna2_24.symm; have hna3_24 := Nat.ne_of_lt (blk_lt (HLw24.out.get 12 rfl).1); have hnb3_24 := hna3_24.symm; have hna6_24 := Nat.ne_of_lt (blk_lt (HLw24.out.get 11 rfl).1); have hnb6_24 := hna6_24.symm; have hna8_24 := Nat.ne_of_lt (blk_lt (HLw24.out.get 6 rfl).1); have hnb8_24 := hna8_24.symm; have hna9_24 := Nat.ne_of_lt (blk_lt (HLw24.out.get 4 rfl).1); have hnb9_24 := hna9_24.symm; have hna10_24 := Nat.ne_of_lt (blk_lt (HLw24.out.get 2 rfl).1); have hnb10_24 := hna10_24.symm; obtain ⟨lox24z15, hix24z15, HLx24z15⟩ := Live.make_box HLw24.out (.cells #[.int .i64 0, .slice none 0 0] 28) (w24.heap.size) (by first | rfl | simp); have hGx24z15 := below_size (HBw24.out); (with_reducible refine (laws_toAlgebra.calls k a0 _ _ l0 X0 X1 _ (Kd.C_below HR0.out (below_drew1 (below_alloc (HBw24.out) _))) HC0.out F2.out).mono ?_); rintro e w25 ⟨vw25_0, rfl, how25_0, hbw25⟩; obtain ⟨Aw25, cw25, rfl⟩ := Kd.S_slice how25_0; obtain ⟨low25, hiw25, hlw25⟩ := Live.make_S (Live.drew HLx24z15) hbw25 how25_0 (below_size (below_drew1 (below_alloc (HBw24.out) _))); have HLw25 := Aside0.mk hlw25; clear hlw25 how25_0; have HBw25 := Aside0.mk (below_step (below_drew1 (below_alloc (HBw24.out) _)) (hbw25)); clear hbw25; obtain ⟨hxb2_0_w25, hxb2_1_w25⟩ := cells2 (g := W.heap.size) (HLw25.out.get 15 rfl).1; obtain ⟨hxb3_0_w25, hxb3_1_w25⟩ := cells2 (g := W.heap.size + 1) (HLw25.out.get 14 rfl).1; obtain ⟨hxb6_0_w25, hxb6_1_w25⟩ := cells2 (g := w4.heap.size) (HLw25.out.get 13 rfl).1; obtain ⟨hxb8_0_w25, hxb8_1_w25⟩ := cells2 (g := w9.heap.size) (HLw25.out.get 8 rfl).1; obtain ⟨hxb9_0_w25, hxb9_1_w25⟩ := cells2 (g := w11.heap.size) (HLw25.out.get 6 rfl).1; obtain ⟨hxb10_0_w25, hxb10_1_w25⟩ := cells2 (g := w13.heap.size) (HLw25.out.get 4 rfl).1) | (go_at_call 9; (with_reducible refine (laws_toAlgebra.calls k a1 _ _ l1 X2 X3 _ (Kd.C_below HR1.out (HBw25.out)) HC1.out F3.out).mono ?_); rintro e w26 ⟨vw26_0, rfl, how26_0, hbw26⟩; obtain ⟨Aw26, cw26, rfl⟩ := Kd.S_slice how26_0; obtain ⟨low26, hiw26, hlw26⟩ := Live.make_S HLw25.out hbw26 how26_0 (below_size (HBw25.out)); have HLw26 := Aside0.mk hlw26; clear hlw26 how26_0; have HBw26 := Aside0.mk (below_step (HBw25.out) (hbw26)); clear hbw26; obtain ⟨hxb2_0_w26, hxb2_1_w26⟩ := cells2 (g := W.heap.size) (HLw26.out.get 16 rfl).1; obtain ⟨hxb3_0_w26, hxb3_1_w26⟩ := cells2 (g := W.heap.size + 1) (HLw26.out.get 15 rfl).1; obtain ⟨hxb6_0_w26, hxb6_1_w26⟩ := cells2 (g := w4.heap.size) (HLw26.out.get 14 rfl).1; obtain ⟨hxb8_0_w26, hxb8_1_w26⟩ := cells2 (g := w9.heap.size) (HLw26.out.get 9 rfl).1; obtain ⟨hxb9_0_w26, hxb9_1_w26⟩ := cells2 (g := w11.heap.size) (HLw26.out.get 7 rfl).1; obtain ⟨hxb10_0_w26, hxb10_1_w26⟩ := cells2 (g := w13.heap.size) (HLw26.out.get 5 rfl).1) | (go_at_call 10; (with_reducible refine (impl_ProductOf.calls k X0 _ _ X1 X2 _ _ X3 X4 X5 X6 _ (Kd.S_reads' (HLw26.out.get 1 rfl)).2.2 (Kd.S_reads' (HLw26.out.get 1 rfl)).2.1 (Kd.S_reads' (HLw26.out.get 0 rfl)).2.2 (Kd.S_reads' (HLw26.out.get 0 rfl)).2.1 F5.out).mono ?_); rintro e w27 ⟨vw27_0, rfl, how27_0, hbw27⟩; obtain ⟨Aw27, cw27, rfl⟩ := Kd.S_slice how27_0; obtain ⟨low27, hiw27, hlw27⟩ := Live.make_S HLw26.out hbw27 how27_0 (below_size (HBw26.out)); have HLw27 := Aside0.mk hlw27; clear hlw27 how27_0; have HBw27 := Aside0.mk (below_step (HBw26.out) (hbw27)); clear hbw27; obtain ⟨hxb2_0_w27, hxb2_1_w27⟩ := cells2 (g := W.heap.size) (HLw27.out.get 17 rfl).1; obtain ⟨hxb3_0_w27, hxb3_1_w27⟩ := cells2 (g := W.heap.size + 1) (HLw27.out.get 16 rfl).1; obtain ⟨hxb6_0_w27, hxb6_1_w27⟩ := cells2 (g := w4.heap.size) (HLw27.out.get 15 rfl).1; obtain ⟨hxb8_0_w27, hxb8_1_w27⟩ := cells2 (g := w9.heap.size) (HLw27.out.get 10 rfl).1; obtain ⟨hxb9_0_w27, hxb9_1_w27⟩ := cells2 (g := w11.heap.size) (HLw27.out.get 8 rfl).1; obtain ⟨hxb10_0_w27, hxb10_1_w27⟩ := cells2 (g := w13.heap.size) (HLw27.out.get 6 rfl).1; have hz15_0 : w27.cell? ⟨w24.heap.size, 0, none⟩ = some (.int .i64 0) := (blk_cell (HLw27.out.get 3 rfl).1 0).trans rfl; have hfz15_0 := blk_frozen (HLw27.out.get 3 rfl).1 0; have hz15_1 : w27.cell? ⟨w24.heap.size, 1, none⟩ = some (.slice none 0 0) := (blk_cell (HLw27.out.get 3 rfl).1 1).trans rfl; have hfz15_1 := blk_frozen (HLw27.out.get 3 rfl).1 1))
  ·obtain ⟨lox28, hix28, HLx28⟩ := Live.make_box HLw27.out (.cells #[.int .i64 X4, .slice Aw27 X5.length cw27] 28) (w27.heap.size) (by simp)
   obtain ⟨hxb2_0_w27allocc, hxb2_1_w27allocc⟩ := cells2 (g := W.heap.size) (HLx28.get 17 rfl).1
   obtain ⟨hxb3_0_w27allocc, hxb3_1_w27allocc⟩ := cells2 (g := W.heap.size + 1) (HLx28.get 16 rfl).1
   obtain ⟨hxb6_0_w27allocc, hxb6_1_w27allocc⟩ := cells2 (g := w4.heap.size) (HLx28.get 15 rfl).1
   obtain ⟨hxb8_0_w27allocc, hxb8_1_w27allocc⟩ := cells2 (g := w9.heap.size) (HLx28.get 10 rfl).1
   obtain ⟨hxb9_0_w27allocc, hxb9_1_w27allocc⟩ := cells2 (g := w11.heap.size) (HLx28.get 8 rfl).1
   obtain ⟨hxb10_0_w27allocc, hxb10_1_w27allocc⟩ := cells2 (g := w13.heap.size) (HLx28.get 6 rfl).1
   go_wp2_with fail
   (with_reducible refine (laws_eqAlgebra.calls k X4 _ _ X5 X4 _ _ X5 true _ (Kd.S_reads' (HLx28.get 1 rfl)).2.2 (Kd.S_reads' (HLx28.get 1 rfl)).2.1 (Kd.S_reads' (HLx28.get 12 rfl)).2.2 (Kd.S_reads' (HLx28.get 12 rfl)).2.1 F6.out).mono ?_)
   rintro e w29 ⟨rfl, hbw29⟩
   have HLw29 := Aside0.mk (HLx28.below hbw29)
   have HBw29 := Aside0.mk (below_step (below_alloc (HBw27.out) _) (hbw29))
   clear hbw29
   obtain ⟨hxb2_0_w29, hxb2_1_w29⟩ := cells2 (g := W.heap.size) (HLw29.out.get 17 rfl).1
   obtain ⟨hxb3_0_w29, hxb3_1_w29⟩ := cells2 (g := W.heap.size + 1) (HLw29.out.get 16 rfl).1
   obtain ⟨hxb6_0_w29, hxb6_1_w29⟩ := cells2 (g := w4.heap.size) (HLw29.out.get 15 rfl).1
   obtain ⟨hxb8_0_w29, hxb8_1_w29⟩ := cells2 (g := w9.heap.size) (HLw29.out.get 10 rfl).1
   obtain ⟨hxb9_0_w29, hxb9_1_w29⟩ := cells2 (g := w11.heap.size) (HLw29.out.get 8 rfl).1
   obtain ⟨hxb10_0_w29, hxb10_1_w29⟩ := cells2 (g := w13.heap.size) (HLw29.out.get 6 rfl).1
   obtain ⟨hxb15_0_w29, hxb15_1_w29⟩ := cells2 (g := w27.heap.size) (HLw29.out.get 0 rfl).1
   go_wp2_with fail
   have r_ := (Kd.S_reads' (HLw29.out.get 7 rfl)).2
   have q_ := laws_heldAlgebra.calls k X4 _ _ (mkOps X5 1) 1 (1 + (totO X5 : Int)) _ (by first | exact r_.2 | (rw [mkOps_length]; exact r_.2)) (by first | exact r_.1 | (rw [mkOps_length]; exact r_.1)) F9.out
   rw [mkOps_length] at q_
   (with_reducible refine q_.mono ?_)
   clear q_ r_
   rintro e w30 ⟨rfl, hbw30⟩
   have HLw30 := Aside0.mk (HLw29.out.below hbw30)
   have HBw30 := Aside0.mk (below_step (HBw29.out) (hbw30))
   clear hbw30
   obtain ⟨hxb2_0_w30, hxb2_1_w30⟩ := cells2 (g := W.heap.size) (HLw30.out.get 17 rfl).1
   obtain ⟨hxb3_0_w30, hxb3_1_w30⟩ := cells2 (g := W.heap.size + 1) (HLw30.out.get 16 rfl).1
   obtain ⟨hxb6_0_w30, hxb6_1_w30⟩ := cells2 (g := w4.heap.size) (HLw30.out.get 15 rfl).1
   obtain ⟨hxb8_0_w30, hxb8_1_w30⟩ := cells2 (g := w9.heap.size) (HLw30.out.get 10 rfl).1
   obtain ⟨hxb9_0_w30, hxb9_1_w30⟩ := cells2 (g := w11.heap.size) (HLw30.out.get 8 rfl).1
   obtain ⟨hxb10_0_w30, hxb10_1_w30⟩ := cells2 (g := w13.heap.size) (HLw30.out.get 6 rfl).1
   obtain ⟨hxb15_0_w30, hxb15_1_w30⟩ := cells2 (g := w27.heap.size) (HLw30.out.get 0 rfl).1
   go_wp2
   go_ret
   exact ⟨rfl, HBw30.out⟩
  ·have HLp28 := Aside0.mk (Live.put_box (a' := .int .i64 X4) (b' := .slice Aw27 X5.length cw27) HLw27.out 1 rfl)
   have HBp28 := Aside0.mk (show Below W.heap.size W ((w27.setCell ⟨w26.heap.size, 0, none⟩ (.int .i64 X4)).setCell ⟨w26.heap.size, 1, none⟩ (.slice Aw27 X5.length cw27)) from below_set (below_set (HBw27.out) hGx26z15) hGx26z15)
   obtain ⟨hxb2_0_w27setCel, hxb2_1_w27setCel⟩ := cells2 (g := W.heap.size) (HLp28.out.get 17 rfl).1
   obtain ⟨hxb3_0_w27setCel, hxb3_1_w27setCel⟩ := cells2 (g := W.heap.size + 1) (HLp28.out.get 16 rfl).1
   obtain ⟨hxb6_0_w27setCel, hxb6_1_w27setCel⟩ := cells2 (g := w4.heap.size) (HLp28.out.get 15 rfl).1
   obtain ⟨hxb8_0_w27setCel, hxb8_1_w27setCel⟩ := cells2 (g := w9.heap.size) (HLp28.out.get 10 rfl).1
   obtain ⟨hxb9_0_w27setCel, hxb9_1_w27setCel⟩ := cells2 (g := w11.heap.size) (HLp28.out.get 8 rfl).1
   obtain ⟨hxb10_0_w27setCel, hxb10_1_w27setCel⟩ := cells2 (g := w13.heap.size) (HLp28.out.get 6 rfl).1
   obtain ⟨hxb15_0_w27setCel, hxb15_1_w27setCel⟩ := cells2 (g := w26.heap.size) (HLp28.out.get 1 rfl).1
   go_wp2_with fail
   (with_reducible refine (laws_eqAlgebra.calls k X4 _ _ X5 X4 _ _ X5 true _ (Kd.S_reads' (HLp28.out.get 0 rfl)).2.2 (Kd.S_reads' (HLp28.out.get 0 rfl)).2.1 (Kd.S_reads' (HLp28.out.get 12 rfl)).2.2 (Kd.S_reads' (HLp28.out.get 12 rfl)).2.1 F6.out).mono ?_)
   rintro e w29 ⟨rfl, hbw29⟩
   have HLw29 := Aside0.mk (HLp28.out.below hbw29)
   have HBw29 := Aside0.mk (below_step (HBp28.out) (hbw29))
   clear hbw29
   obtain ⟨hxb2_0_w29, hxb2_1_w29⟩ := cells2 (g := W.heap.size) (HLw29.out.get 17 rfl).1
   obtain ⟨hxb3_0_w29, hxb3_1_w29⟩ := cells2 (g := W.heap.size + 1) (HLw29.out.get 16 rfl).1
   obtain ⟨hxb6_0_w29, hxb6_1_w29⟩ := cells2 (g := w4.heap.size) (HLw29.out.get 15 rfl).1
   obtain ⟨hxb8_0_w29, hxb8_1_w29⟩ := cells2 (g := w9.heap.size) (HLw29.out.get 10 rfl).1
   obtain ⟨hxb9_0_w29, hxb9_1_w29⟩ := cells2 (g := w11.heap.size) (HLw29.out.get 8 rfl).1
   obtain ⟨hxb10_0_w29, hxb10_1_w29⟩ := cells2 (g := w13.heap.size) (HLw29.out.get 6 rfl).1
   obtain ⟨hxb15_0_w29, hxb15_1_w29⟩ := cells2 (g := w26.heap.size) (HLw29.out.get 1 rfl).1
   go_wp2_with fail
   have r_ := (Kd.S_reads' (HLw29.out.get 7 rfl)).2
   have q_ := laws_heldAlgebra.calls k X4 _ _ (mkOps X5 1) 1 (1 + (totO X5 : Int)) _ (by first | exact r_.2 | (rw [mkOps_length]; exact r_.2)) (by first | exact r_.1 | (rw [mkOps_length]; exact r_.1)) F9.out
   rw [mkOps_length] at q_
   (with_reducible refine q_.mono ?_)
   clear q_ r_
   rintro e w30 ⟨rfl, hbw30⟩
   have HLw30 := Aside0.mk (HLw29.out.below hbw30)
   have HBw30 := Aside0.mk (below_step (HBw29.out) (hbw30))
   clear hbw30
   obtain ⟨hxb2_0_w30, hxb2_1_w30⟩ := cells2 (g := W.heap.size) (HLw30.out.get 17 rfl).1
   obtain ⟨hxb3_0_w30, hxb3_1_w30⟩ := cells2 (g := W.heap.size + 1) (HLw30.out.get 16 rfl).1
   obtain ⟨hxb6_0_w30, hxb6_1_w30⟩ := cells2 (g := w4.heap.size) (HLw30.out.get 15 rfl).1
   obtain ⟨hxb8_0_w30, hxb8_1_w30⟩ := cells2 (g := w9.heap.size) (HLw30.out.get 10 rfl).1
   obtain ⟨hxb9_0_w30, hxb9_1_w30⟩ := cells2 (g := w11.heap.size) (HLw30.out.get 8 rfl).1
   obtain ⟨hxb10_0_w30, hxb10_1_w30⟩ := cells2 (g := w13.heap.size) (HLw30.out.get 6 rfl).1
   obtain ⟨hxb15_0_w30, hxb15_1_w30⟩ := cells2 (g := w26.heap.size) (HLw30.out.get 1 rfl).1
   go_wp2
   go_ret
   exact ⟨rfl, HBw30.out⟩
  ·have HLp28 := Aside0.mk (Live.put_box (a' := .int .i64 X4) (b' := .slice Aw27 X5.length cw27) HLw27.out 2 rfl)
   have HBp28 := Aside0.mk (show Below W.heap.size W ((w27.setCell ⟨w25.heap.size, 0, none⟩ (.int .i64 X4)).setCell ⟨w25.heap.size, 1, none⟩ (.slice Aw27 X5.length cw27)) from below_set (below_set (HBw27.out) hGx25z15) hGx25z15)
   obtain ⟨hxb2_0_w27setCel, hxb2_1_w27setCel⟩ := cells2 (g := W.heap.size) (HLp28.out.get 17 rfl).1
   obtain ⟨hxb3_0_w27setCel, hxb3_1_w27setCel⟩ := cells2 (g := W.heap.size + 1) (HLp28.out.get 16 rfl).1
   obtain ⟨hxb6_0_w27setCel, hxb6_1_w27setCel⟩ := cells2 (g := w4.heap.size) (HLp28.out.get 15 rfl).1
   obtain ⟨hxb8_0_w27setCel, hxb8_1_w27setCel⟩ := cells2 (g := w9.heap.size) (HLp28.out.get 10 rfl).1
   obtain ⟨hxb9_0_w27setCel, hxb9_1_w27setCel⟩ := cells2 (g := w11.heap.size) (HLp28.out.get 8 rfl).1
   obtain ⟨hxb10_0_w27setCel, hxb10_1_w27setCel⟩ := cells2 (g := w13.heap.size) (HLp28.out.get 6 rfl).1
   obtain ⟨hxb15_0_w27setCel, hxb15_1_w27setCel⟩ := cells2 (g := w25.heap.size) (HLp28.out.get 2 rfl).1
   go_wp2_with fail
   (with_reducible refine (laws_eqAlgebra.calls k X4 _ _ X5 X4 _ _ X5 true _ (Kd.S_reads' (HLp28.out.get 0 rfl)).2.2 (Kd.S_reads' (HLp28.out.get 0 rfl)).2.1 (Kd.S_reads' (HLp28.out.get 12 rfl)).2.2 (Kd.S_reads' (HLp28.out.get 12 rfl)).2.1 F6.out).mono ?_)
   rintro e w29 ⟨rfl, hbw29⟩
   have HLw29 := Aside0.mk (HLp28.out.below hbw29)
   have HBw29 := Aside0.mk (below_step (HBp28.out) (hbw29))
   clear hbw29
   obtain ⟨hxb2_0_w29, hxb2_1_w29⟩ := cells2 (g := W.heap.size) (HLw29.out.get 17 rfl).1
   obtain ⟨hxb3_0_w29, hxb3_1_w29⟩ := cells2 (g := W.heap.size + 1) (HLw29.out.get 16 rfl).1
   obtain ⟨hxb6_0_w29, hxb6_1_w29⟩ := cells2 (g := w4.heap.size) (HLw29.out.get 15 rfl).1
   obtain ⟨hxb8_0_w29, hxb8_1_w29⟩ := cells2 (g := w9.heap.size) (HLw29.out.get 10 rfl).1
   obtain ⟨hxb9_0_w29, hxb9_1_w29⟩ := cells2 (g := w11.heap.size) (HLw29.out.get 8 rfl).1
   obtain ⟨hxb10_0_w29, hxb10_1_w29⟩ := cells2 (g := w13.heap.size) (HLw29.out.get 6 rfl).1
   obtain ⟨hxb15_0_w29, hxb15_1_w29⟩ := cells2 (g := w25.heap.size) (HLw29.out.get 2 rfl).1
   go_wp2_with fail
   have r_ := (Kd.S_reads' (HLw29.out.get 7 rfl)).2
   have q_ := laws_heldAlgebra.calls k X4 _ _ (mkOps X5 1) 1 (1 + (totO X5 : Int)) _ (by first | exact r_.2 | (rw [mkOps_length]; exact r_.2)) (by first | exact r_.1 | (rw [mkOps_length]; exact r_.1)) F9.out
   rw [mkOps_length] at q_
   (with_reducible refine q_.mono ?_)
   clear q_ r_
   rintro e w30 ⟨rfl, hbw30⟩
   have HLw30 := Aside0.mk (HLw29.out.below hbw30)
   have HBw30 := Aside0.mk (below_step (HBw29.out) (hbw30))
   clear hbw30
   obtain ⟨hxb2_0_w30, hxb2_1_w30⟩ := cells2 (g := W.heap.size) (HLw30.out.get 17 rfl).1
   obtain ⟨hxb3_0_w30, hxb3_1_w30⟩ := cells2 (g := W.heap.size + 1) (HLw30.out.get 16 rfl).1
   obtain ⟨hxb6_0_w30, hxb6_1_w30⟩ := cells2 (g := w4.heap.size) (HLw30.out.get 15 rfl).1
   obtain ⟨hxb8_0_w30, hxb8_1_w30⟩ := cells2 (g := w9.heap.size) (HLw30.out.get 10 rfl).1
   obtain ⟨hxb9_0_w30, hxb9_1_w30⟩ := cells2 (g := w11.heap.size) (HLw30.out.get 8 rfl).1
   obtain ⟨hxb10_0_w30, hxb10_1_w30⟩ := cells2 (g := w13.heap.size) (HLw30.out.get 6 rfl).1
   obtain ⟨hxb15_0_w30, hxb15_1_w30⟩ := cells2 (g := w25.heap.size) (HLw30.out.get 2 rfl).1
   go_wp2
   go_ret
   exact ⟨rfl, HBw30.out⟩
  ·have HLp28 := Aside0.mk (Live.put_box (a' := .int .i64 X4) (b' := .slice Aw27 X5.length cw27) HLw27.out 3 rfl)
   have HBp28 := Aside0.mk (show Below W.heap.size W ((w27.setCell ⟨w24.heap.size, 0, none⟩ (.int .i64 X4)).setCell ⟨w24.heap.size, 1, none⟩ (.slice Aw27 X5.length cw27)) from below_set (below_set (HBw27.out) hGx24z15) hGx24z15)
   obtain ⟨hxb2_0_w27setCel, hxb2_1_w27setCel⟩ := cells2 (g := W.heap.size) (HLp28.out.get 17 rfl).1
   obtain ⟨hxb3_0_w27setCel, hxb3_1_w27setCel⟩ := cells2 (g := W.heap.size + 1) (HLp28.out.get 16 rfl).1
   obtain ⟨hxb6_0_w27setCel, hxb6_1_w27setCel⟩ := cells2 (g := w4.heap.size) (HLp28.out.get 15 rfl).1
   obtain ⟨hxb8_0_w27setCel, hxb8_1_w27setCel⟩ := cells2 (g := w9.heap.size) (HLp28.out.get 10 rfl).1
   obtain ⟨hxb9_0_w27setCel, hxb9_1_w27setCel⟩ := cells2 (g := w11.heap.size) (HLp28.out.get 8 rfl).1
   obtain ⟨hxb10_0_w27setCel, hxb10_1_w27setCel⟩ := cells2 (g := w13.heap.size) (HLp28.out.get 6 rfl).1
   obtain ⟨hxb15_0_w27setCel, hxb15_1_w27setCel⟩ := cells2 (g := w24.heap.size) (HLp28.out.get 3 rfl).1
   go_wp2_with fail
   (with_reducible refine (laws_eqAlgebra.calls k X4 _ _ X5 X4 _ _ X5 true _ (Kd.S_reads' (HLp28.out.get 0 rfl)).2.2 (Kd.S_reads' (HLp28.out.get 0 rfl)).2.1 (Kd.S_reads' (HLp28.out.get 12 rfl)).2.2 (Kd.S_reads' (HLp28.out.get 12 rfl)).2.1 F6.out).mono ?_)
   rintro e w29 ⟨rfl, hbw29⟩
   have HLw29 := Aside0.mk (HLp28.out.below hbw29)
   have HBw29 := Aside0.mk (below_step (HBp28.out) (hbw29))
   clear hbw29
   obtain ⟨hxb2_0_w29, hxb2_1_w29⟩ := cells2 (g := W.heap.size) (HLw29.out.get 17 rfl).1
   obtain ⟨hxb3_0_w29, hxb3_1_w29⟩ := cells2 (g := W.heap.size + 1) (HLw29.out.get 16 rfl).1
   obtain ⟨hxb6_0_w29, hxb6_1_w29⟩ := cells2 (g := w4.heap.size) (HLw29.out.get 15 rfl).1
   obtain ⟨hxb8_0_w29, hxb8_1_w29⟩ := cells2 (g := w9.heap.size) (HLw29.out.get 10 rfl).1
   obtain ⟨hxb9_0_w29, hxb9_1_w29⟩ := cells2 (g := w11.heap.size) (HLw29.out.get 8 rfl).1
   obtain ⟨hxb10_0_w29, hxb10_1_w29⟩ := cells2 (g := w13.heap.size) (HLw29.out.get 6 rfl).1
   obtain ⟨hxb15_0_w29, hxb15_1_w29⟩ := cells2 (g := w24.heap.size) (HLw29.out.get 3 rfl).1
   go_wp2_with fail
   have r_ := (Kd.S_reads' (HLw29.out.get 7 rfl)).2
   have q_ := laws_heldAlgebra.calls k X4 _ _ (mkOps X5 1) 1 (1 + (totO X5 : Int)) _ (by first | exact r_.2 | (rw [mkOps_length]; exact r_.2)) (by first | exact r_.1 | (rw [mkOps_length]; exact r_.1)) F9.out
   rw [mkOps_length] at q_
   (with_reducible refine q_.mono ?_)
   clear q_ r_
   rintro e w30 ⟨rfl, hbw30⟩
   have HLw30 := Aside0.mk (HLw29.out.below hbw30)
   have HBw30 := Aside0.mk (below_step (HBw29.out) (hbw30))
   clear hbw30
   obtain ⟨hxb2_0_w30, hxb2_1_w30⟩ := cells2 (g := W.heap.size) (HLw30.out.get 17 rfl).1
   obtain ⟨hxb3_0_w30, hxb3_1_w30⟩ := cells2 (g := W.heap.size + 1) (HLw30.out.get 16 rfl).1
   obtain ⟨hxb6_0_w30, hxb6_1_w30⟩ := cells2 (g := w4.heap.size) (HLw30.out.get 15 rfl).1
   obtain ⟨hxb8_0_w30, hxb8_1_w30⟩ := cells2 (g := w9.heap.size) (HLw30.out.get 10 rfl).1
   obtain ⟨hxb9_0_w30, hxb9_1_w30⟩ := cells2 (g := w11.heap.size) (HLw30.out.get 8 rfl).1
   obtain ⟨hxb10_0_w30, hxb10_1_w30⟩ := cells2 (g := w13.heap.size) (HLw30.out.get 6 rfl).1
   obtain ⟨hxb15_0_w30, hxb15_1_w30⟩ := cells2 (g := w24.heap.size) (HLw30.out.get 3 rfl).1
   go_wp2
   go_ret
   exact ⟨rfl, HBw30.out⟩
end Go.Proofs.Ytccjheikjcpgmaa
