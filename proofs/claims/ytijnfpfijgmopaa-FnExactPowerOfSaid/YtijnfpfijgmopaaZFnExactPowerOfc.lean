/- Part 3 of the proof of the law FnExactPowerOf: functions and lists that say what the Go code computes, and that it does; no condition beside those that each theorem states. -/
import Derived.Test.YtijnfpfijgmopaaZFnExactPowerOfb
namespace Go.Proofs.Ytijnfpfijgmopaa.Q
open Go.RowKit Go.Proofs.YtijnfpfijgmopaaW.PrintWords Go.Proofs.YtijnfpfijgmopaaW.PrintLast Go.Proofs.YtijnfpfijgmopaaW.PrintMore
attribute [local go_sem] max2_int min2_int max_two min_two max_three min_three max_four min_four
set_option linter.unusedVariables false
set_option linter.unusedSimpArgs false
def impl_argsAt.l0 : Nat → Int → Int → List Int → Int → Option (List Int)
  | 0, _, _, _, _ => none
  | k + 1, x0, x2, x7, x8 => if x8 ≥ 0 then (if x2 = 0 then (none) else (if 0 ≤ x8 then (if x8 < (x7.length : Int) then (impl_argsAt.l0 k (wrap64 (Int.tdiv x0 x2)) x2 (x7.set (x8 : Int).toNat (Int.tmod x0 x2)) (wrap64 (x8 - 1))) else (none)) else (none))) else (some x7)
def impl_argsAt.f (k : Nat) (a0 : Int) (a1 : Int) (a2 : Int) : Option (List Int) := if 0 ≤ a1 then (if (a1 : Int).toNat ≤ 35184372088832 then (impl_argsAt.l0 k a0 a2 (List.replicate (a1 : Int).toNat 0) (wrap64 (a1 - 1))) else (none)) else (none)
theorem impl_argsAt.mono_l : ∀ k, (∀ y0 y1 y2 y3, LeO (impl_argsAt.l0 k y0 y1 y2 y3) (impl_argsAt.l0 (k + 1) y0 y1 y2 y3))
  | 0 => fun _ _ _ _ r h => by simp [impl_argsAt.l0] at h
  | k + 1 => by
    have ih0 := impl_argsAt.mono_l k
    · intro y0 y1 y2 y3
      unfold impl_argsAt.l0
      repeat' first
      | (with_reducible exact ih0 _ _ _ _)
      | (with_reducible exact LeO.refl _)
      | (with_reducible exact LeO.none _)
      | (with_reducible refine LeO.ite ?_ ?_)
      | (with_reducible refine LeO.bind ?_ (fun _ => ?_))
      | exact ih0 _ _ _ _
      | exact LeO.none _
      | refine LeO.ite ?_ ?_
      | refine LeO.bind ?_ (fun _ => ?_)
theorem impl_argsAt.mono : ∀ a0 a1 a2 k, LeO (impl_argsAt.f k a0 a1 a2) (impl_argsAt.f (k + 1) a0 a1 a2) := by
  intro a0 a1 a2 k
  have ih0 := impl_argsAt.mono_l k
  unfold impl_argsAt.f
  repeat' first
      | (with_reducible exact ih0 _ _ _ _)
      | (with_reducible exact LeO.refl _)
      | (with_reducible exact LeO.none _)
      | (with_reducible refine LeO.ite ?_ ?_)
      | (with_reducible refine LeO.bind ?_ (fun _ => ?_))
      | exact ih0 _ _ _ _
      | exact LeO.none _
      | refine LeO.ite ?_ ?_
      | refine LeO.bind ?_ (fun _ => ?_)
set_option maxHeartbeats 8000000 in
set_option maxRecDepth 100000 in
theorem impl_argsAt.calls (k : Nat) (a0 : Int) (a1 : Int) (a2 : Int) (r : List Int) (w : World) (h : impl_argsAt.f k a0 a1 a2 = some r) :
    Calls Try.prog 123 #[.int .i64 a0, .int .i64 a1, .int .i64 a2] w fun e w' => ∃ v0_ : Value, e = .returned (v0_) ∧ Kd.R (Kd.int .i64) 3 w' w.heap.size (fun _ => True) v0_ r ∧ Below w.heap.size w w' := by
  have HB := Aside0.mk (Below.refl w.heap.size w)
  have H : (if 0 ≤ a1 then (if (a1 : Int).toNat ≤ 35184372088832 then (impl_argsAt.l0 k a0 a2 (List.replicate (a1 : Int).toNat 0) (wrap64 (a1 - 1))) else (none)) else (none)) = some r := h
  clear h
  by_cases c4 : 0 ≤ a1
  · rw [if_pos c4] at H
    have c4b0 := eq_true c4
    have c4b1 : decide (0 ≤ a1) = true := decide_eq_true c4
    clear c4
    by_cases c5 : (a1 : Int).toNat ≤ 35184372088832
    · rw [if_pos c5] at H
      have c5b0 := eq_true c5
      have c5b1 : decide ((a1 : Int).toNat ≤ 35184372088832) = true := decide_eq_true c5
      clear c5
      obtain ⟨y702, hy702⟩ : ∃ y_ : List Int, y_ = (List.replicate (a1 : Int).toNat 0) := ⟨_, rfl⟩
      replace H : (impl_argsAt.l0 k a0 a2 y702 (wrap64 (a1 - 1))) = some r := by first | (rw [hy702]; with_reducible exact H) | (have H2_ := (Option.bind_some _ _).symm.trans H; rw [hy702]; with_reducible exact H2_) | (have H2_ := (Option.bind_some _ _).symm.trans H; with_reducible exact H2_) | with_reducible exact H | (rw [hy702]; exact H) | exact H
      have Ny702 := Aside0.mk hy702
      clear hy702
      have H' := Aside0.mk H
      clear H
      go_enter Try.func123, Try.ntmps123
      go_wp2_with (first | ((with_reducible refine gate_dst (N := 10) rfl ?_); refine Kd.R_make (Kd.int .i64) _ 3 rfl (N := 10) rfl 41 _ _ rfl a1 rfl rfl Try.underlying41 (.int .i64 0) 8 info3 rfl (by decide) (by omega) 0 (ok := fun _ => True) (okp := fun _ => True) rfl (fun _ hk => hk) trivial (of_decide_eq_true (by first | (with_reducible assumption) | assumption)) (Nat.le_trans (Nat.mul_le_mul_right _ (of_decide_eq_true (by first | (with_reducible assumption) | assumption) : a1.toNat ≤ 35184372088832)) (by omega)) (Below.refl _ _) (Nat.le_refl _) ?_; intro v703 w6 ho7 hb hg_ hnew_; clear hg_ hnew_; (first | rw [← Ny702.out] at ho7 | (simp only [Int.reduceToNat] at ho7; rw [← Ny702.out] at ho7)); have n0_ := Aside0.mk (Kd.R_lower ho7 (below_size (by repeat (first | (with_reducible first | exact HB.out | apply below_alloc | apply pw_below_drewN | apply below_drew1) | exact HB.out)))); have n1_ := Aside0.mk (below_step (by repeat (first | (with_reducible first | exact HB.out | apply below_alloc | apply pw_below_drewN | apply below_drew1) | exact HB.out)) hb); clear HB; have HO704 := n0_; have HB := n1_; clear n0_ n1_; clear hb ho7))
      go_loopg [0, 8] k (fun kq v0 v8 w' => ∃ (x0_1 : Int) (x7_1 : List Int) (x8_1 : Int), v0 = .int .i64 x0_1 ∧ v8 = .int .i64 x8_1 ∧ Aside0 (impl_argsAt.l0 kq x0_1 a2 x7_1 x8_1 = some r) ∧ Aside0 (kq ≤ k) ∧ Aside0 (Kd.R (Kd.int .i64) 3 w' w.heap.size (fun _ => True) v703 x7_1) ∧ Aside0 (Below w.heap.size w w'))
      case atStart => exact ⟨(a0), (y702), (wrap64 (a1 - 1)), (by first | rfl | (simp; done) | (simp [*]; done)), (by first | rfl | (simp; done) | (simp [*]; done)), H', ⟨Nat.le_refl _⟩, ⟨by (with_reducible repeat (first | apply Kd.R_alloc | apply Kd.R_drewN | apply Kd.R_drew)); exact HO704.out⟩, ⟨by repeat (first | (with_reducible first | exact HB.out | apply below_alloc | apply pw_below_drewN | apply below_drew1) | exact HB.out)⟩⟩
      case round =>
        clear H'
        try clear c1
        try clear p2
        try clear c4
        try clear c4b0
        try clear c4b1
        try clear c5
        try clear c5b0
        try clear c5b1
        try clear p6
        obtain ⟨x0_1, x7_1, x8_1, rfl, rfl, HA, HK1, HO_7, HB⟩ := hrel
        cases gk with
        | zero => exact absurd HA.out (by simp [impl_argsAt.l0])
        | succ k1 =>
          have H := HA.out
          clear HA
          simp only [impl_argsAt.l0] at H
          by_cases c8 : x8_1 ≥ 0
          · rw [if_pos c8] at H
            have c8b0 : decide (0 ≤ x8_1) = true := decide_eq_true c8
            clear c8
            by_cases c9 : a2 = 0
            · rw [if_pos c9] at H
              exact absurd H (by simp)
            · rw [if_neg c9] at H
              have c9b0 : (a2 == 0) = false := beq_eq_false_iff_ne.mpr c9
              have c9b1 : (a2 != 0) = true := bne_iff_ne.mpr c9
              by_cases c10 : 0 ≤ x8_1
              · rw [if_pos c10] at H
                have c10b0 : decide (0 ≤ x8_1) = true := decide_eq_true c10
                clear c10
                by_cases c11 : x8_1 < (x7_1.length : Int)
                · rw [if_pos c11] at H
                  have c11b0 : decide (x8_1 < (x7_1.length : Int)) = true := decide_eq_true c11
                  clear c11
                  obtain ⟨y705, hy705⟩ : ∃ y_ : List Int, y_ = (x7_1.set (x8_1 : Int).toNat (Int.tmod x0_1 a2)) := ⟨_, rfl⟩
                  replace H : (impl_argsAt.l0 k1 (wrap64 (Int.tdiv x0_1 a2)) a2 y705 (wrap64 (x8_1 - 1))) = some r := by first | (rw [hy705]; with_reducible exact H) | (have H2_ := (Option.bind_some _ _).symm.trans H; rw [hy705]; with_reducible exact H2_) | (have H2_ := (Option.bind_some _ _).symm.trans H; with_reducible exact H2_) | with_reducible exact H | (rw [hy705]; exact H) | exact H
                  have Ny705 := Aside0.mk hy705
                  clear hy705
                  have H' := Aside0.mk H
                  clear H
                  have p12 : 0 ≤ (x8_1 : Int) := of_decide_eq_true (by first | (with_reducible assumption) | assumption)
                  have q12 : (x8_1 : Int) < ((x7_1.length : Int) : Int) := of_decide_eq_true (by first | (with_reducible assumption) | assumption)
                  obtain ⟨go12, co12, eo12, gb12, gl12, cl12, HG12⟩ := Kd.R_form HO_7.out (by omega)
                  (first | cases eo12 | (injection eo12 with ea_ en_ ec_; (first | subst ea_ | (injection ea_ with ea_; subst ea_)); subst ec_; clear en_))
                  have GB12 := Aside0.mk gb12
                  have GG12 := Aside0.mk HG12
                  clear gb12 gl12 HG12
                  obtain ⟨hx12_0, hf12_0⟩ := Kd.R_celln 0 HO_7.out (x8_1 : Int) p12 q12
                  replace p12 := eq_true p12
                  replace q12 := eq_true q12
                  have HP13 := Kd.R_putg HO_7.out (x8_1 : Int) (Int.tmod x0_1 a2)
                  go_wp2_with (first | ((with_reducible refine gate_store (t := 3) (p := 22) rfl ?_); refine store_event (t := 3) (p := 22) (v := ?vo_w14) (w1 := (wr.setCell ⟨go12, (x8_1 : Int).toNat, none⟩ (.int .i64 (Int.tmod x0_1 a2)))) ?hg ?ho ?hn ?hr ?_; (case ho => rfl); (case hg => rfl); (case hn => rfl); (case hr => first | (go_simp; done) | (go_simp; rfl)); intro w14 hw; have hg : wr.grownBy w14 (some go12) := (by rw [hw]; exact HP13.2); have hp_ : Kd.R (Kd.int .i64) 3 w14 w.heap.size (fun _ => True) (.slice (some ⟨go12, 0, none⟩) x7_1.length co12) y705 := (by rw [hw, Ny705.out]; exact HP13.1); clear HP13; have n0_ := Aside0.mk (hp_); have n1_ := Aside0.mk ((by rw [hw]; exact below_set (HB.out) GB12.out : Below w.heap.size w w14)); clear HO_7; clear HB; have HO_7 := n0_; have HB := n1_; clear n0_ n1_; clear hg hw hp_))
                  go_roundg k1
                  case measure => have := HK1.out; omega
                  case rel => exact ⟨(wrap64 (Int.tdiv x0_1 a2)), (y705), (wrap64 (x8_1 - 1)), (by first | rfl | (simp; done) | (simp [*]; done)), (by first | rfl | (simp; done) | (simp [*]; done)), H', ⟨by have := HK1.out; omega⟩, ⟨by (with_reducible repeat (first | apply Kd.R_alloc | apply Kd.R_drewN | apply Kd.R_drew)); exact HO_7.out⟩, ⟨by repeat (first | (with_reducible first | exact HB.out | apply below_alloc | apply pw_below_drewN | apply below_drew1) | exact HB.out)⟩⟩
                · rw [if_neg c11] at H
                  exact absurd H (by simp)
              · rw [if_neg c10] at H
                exact absurd H (by simp)
          · rw [if_neg c8] at H
            have c8b0 : decide (0 ≤ x8_1) = false := decide_eq_false c8
            clear c8
            obtain rfl := Option.some.inj H
            go_wp2
            go_ret
            exact ⟨_, by first | rfl | (simp [errW_none, errW_some] <;> rfl) | (simp [*, errW_none, errW_some] <;> rfl), by (with_reducible repeat (first | apply Kd.R_alloc | apply Kd.R_drewN | apply Kd.R_drew)); exact HO_7.out, by repeat (first | (with_reducible first | exact HB.out | apply below_alloc | apply pw_below_drewN | apply below_drew1) | exact HB.out)⟩
    · rw [if_neg c5] at H
      exact absurd H (by simp)
  · rw [if_neg c4] at H
    exact absurd H (by simp)
end Go.Proofs.Ytijnfpfijgmopaa.Q

namespace Go.Proofs.Ytijnfpfijgmopaa.Q
open Go.RowKit Go.Proofs.YtijnfpfijgmopaaW.PrintWords Go.Proofs.YtijnfpfijgmopaaW.PrintLast Go.Proofs.YtijnfpfijgmopaaW.PrintMore
attribute [local go_sem] max2_int min2_int max_two min_two max_three min_three max_four min_four
set_option linter.unusedVariables false
set_option linter.unusedSimpArgs false
mutual
def impl_product.l0 : Nat → List (S87) → Int → Int → Int → List (S87) → Int → List (S87) → Int → List (S87) → Option (Int × (List (S87)))
  | 0, _, _, _, _, _, _, _, _, _ => none
  | k + 1, x21, x22, x23, x707000, x707001, x708000, x708001, x710000, x710001 => if x23 < x22 then (if 0 ≤ x23 then (if x23 < (x21.length : Int) then (impl_product.l1 k x23 0 x21 x22 x23 x707000 x707001 x708000 x708001 x710000 x710001 ((rd_T87 x21 x23).f0) ((rd_T87 x21 x23).f1) ((rd_T87 x21 x23).f0) ([] : List Int)) else (none)) else (none)) else (some (x710000, x710001))
def impl_product.l1 : Nat → Int → Int → List (S87) → Int → Int → Int → List (S87) → Int → List (S87) → Int → List (S87) → Int → List Int → Int → List Int → Option (Int × (List (S87)))
  | 0, _, _, _, _, _, _, _, _, _, _, _, _, _, _, _ => none
  | k + 1, x6, x9, x21, x22, x23, x707000, x707001, x708000, x708001, x710000, x710001, x712000, x712001, x713000, x713001 => (impl_power.f k x710000 x712000).bind fun t713 => (if x9 < t713 then ((impl_argsAt.f k x9 x712000 x710000).bind fun t717 => (impl_product.l2 k x6 x9 0 0 x21 x22 x23 t717 (t717.length : Int) 0 x707000 x707001 x708000 x708001 x710000 x710001 x712000 x712001 x713000 x713001)) else (if x710001.length < 4398046511104 then (impl_product.l0 k x21 x22 (wrap64 (x23 + 1)) x707000 x707001 x708000 x708001 x710000 (x710001 ++ [(⟨x713000, x713001⟩ : S87)])) else (none)))
def impl_product.l2 : Nat → Int → Int → Int → Int → List (S87) → Int → Int → List Int → Int → Int → Int → List (S87) → Int → List (S87) → Int → List (S87) → Int → List Int → Int → List Int → Option (Int × (List (S87)))
  | 0, _, _, _, _, _, _, _, _, _, _, _, _, _, _, _, _, _, _, _, _ => none
  | k + 1, x6, x9, x10, x11, x21, x22, x23, x45, x46, x47, x707000, x707001, x708000, x708001, x710000, x710001, x712000, x712001, x713000, x713001 => if x47 < x46 then (if 0 ≤ x47 then (if x47 < (x45.length : Int) then (if x708000 = 0 then (none) else (impl_product.l2 k x6 x9 (wrap64 ((wrap64 (x10 * x707000)) + (wrap64 (Int.tdiv (rd x45 x47) x708000)))) (wrap64 ((wrap64 (x11 * x708000)) + (Int.tmod (rd x45 x47) x708000))) x21 x22 x23 x45 x46 (wrap64 (x47 + 1)) x707000 x707001 x708000 x708001 x710000 x710001 x712000 x712001 x713000 x713001)) else (none)) else (none)) else (if 0 ≤ x10 then (if x10 < (x712001.length : Int) then (if 0 ≤ x6 then (if x6 < (x708001.length : Int) then (if 0 ≤ x11 then (if x11 < (((rd_T87 x708001 x6).f1).length : Int) then (if x713001.length < 17592186044416 then (impl_product.l1 k x6 (wrap64 (x9 + 1)) x21 x22 x23 x707000 x707001 x708000 x708001 x710000 x710001 x712000 x712001 x713000 (x713001 ++ [wrap64 ((wrap64 ((rd x712001 x10) * x708000)) + (rd ((rd_T87 x708001 x6).f1) x11))])) else (none)) else (none)) else (none)) else (none)) else (none)) else (none)) else (none))
end
def impl_product.f (k : Nat) (a0_0 : Int) (l0_1 : List (S87)) (a1_0 : Int) (l1_1 : List (S87)) : Option (Int × (List (S87))) := impl_product.l0 k l0_1 (l0_1.length : Int) 0 a0_0 l0_1 a1_0 l1_1 (wrap64 (a0_0 * a1_0)) ([] : List (S87))
theorem impl_product.mono_l : ∀ k, (∀ y0 y1 y2 y3 y4 y5 y6 y7 y8, LeO (impl_product.l0 k y0 y1 y2 y3 y4 y5 y6 y7 y8) (impl_product.l0 (k + 1) y0 y1 y2 y3 y4 y5 y6 y7 y8)) ∧ (∀ y0 y1 y2 y3 y4 y5 y6 y7 y8 y9 y10 y11 y12 y13 y14, LeO (impl_product.l1 k y0 y1 y2 y3 y4 y5 y6 y7 y8 y9 y10 y11 y12 y13 y14) (impl_product.l1 (k + 1) y0 y1 y2 y3 y4 y5 y6 y7 y8 y9 y10 y11 y12 y13 y14)) ∧ (∀ y0 y1 y2 y3 y4 y5 y6 y7 y8 y9 y10 y11 y12 y13 y14 y15 y16 y17 y18 y19, LeO (impl_product.l2 k y0 y1 y2 y3 y4 y5 y6 y7 y8 y9 y10 y11 y12 y13 y14 y15 y16 y17 y18 y19) (impl_product.l2 (k + 1) y0 y1 y2 y3 y4 y5 y6 y7 y8 y9 y10 y11 y12 y13 y14 y15 y16 y17 y18 y19))
  | 0 => ⟨fun _ _ _ _ _ _ _ _ _ r h => by simp [impl_product.l0] at h, fun _ _ _ _ _ _ _ _ _ _ _ _ _ _ _ r h => by simp [impl_product.l1] at h, fun _ _ _ _ _ _ _ _ _ _ _ _ _ _ _ _ _ _ _ _ r h => by simp [impl_product.l2] at h⟩
  | k + 1 => by
    obtain ⟨ih0, ih1, ih2⟩ := impl_product.mono_l k
    refine ⟨?_, ?_, ?_⟩
    · intro y0 y1 y2 y3 y4 y5 y6 y7 y8
      unfold impl_product.l0
      repeat' first
      | (with_reducible exact ih0 _ _ _ _ _ _ _ _ _)
      | (with_reducible exact ih1 _ _ _ _ _ _ _ _ _ _ _ _ _ _ _)
      | (with_reducible exact ih2 _ _ _ _ _ _ _ _ _ _ _ _ _ _ _ _ _ _ _ _)
      | (with_reducible exact impl_argsAt.mono _ _ _ _)
      | (with_reducible exact impl_power.mono _ _ _)
      | (with_reducible exact LeO.refl _)
      | (with_reducible exact LeO.none _)
      | (with_reducible refine LeO.ite ?_ ?_)
      | (with_reducible refine LeO.bind ?_ (fun _ => ?_))
      | exact ih0 _ _ _ _ _ _ _ _ _
      | exact ih1 _ _ _ _ _ _ _ _ _ _ _ _ _ _ _
      | exact ih2 _ _ _ _ _ _ _ _ _ _ _ _ _ _ _ _ _ _ _ _
      | exact impl_argsAt.mono _ _ _ _
      | exact impl_power.mono _ _ _
      | exact LeO.none _
      | refine LeO.ite ?_ ?_
      | refine LeO.bind ?_ (fun _ => ?_)
    · intro y0 y1 y2 y3 y4 y5 y6 y7 y8 y9 y10 y11 y12 y13 y14
      unfold impl_product.l1
      repeat' first
      | (with_reducible exact ih0 _ _ _ _ _ _ _ _ _)
      | (with_reducible exact ih1 _ _ _ _ _ _ _ _ _ _ _ _ _ _ _)
      | (with_reducible exact ih2 _ _ _ _ _ _ _ _ _ _ _ _ _ _ _ _ _ _ _ _)
      | (with_reducible exact impl_argsAt.mono _ _ _ _)
      | (with_reducible exact impl_power.mono _ _ _)
      | (with_reducible exact LeO.refl _)
      | (with_reducible exact LeO.none _)
      | (with_reducible refine LeO.ite ?_ ?_)
      | (with_reducible refine LeO.bind ?_ (fun _ => ?_))
      | exact ih0 _ _ _ _ _ _ _ _ _
      | exact ih1 _ _ _ _ _ _ _ _ _ _ _ _ _ _ _
      | exact ih2 _ _ _ _ _ _ _ _ _ _ _ _ _ _ _ _ _ _ _ _
      | exact impl_argsAt.mono _ _ _ _
      | exact impl_power.mono _ _ _
      | exact LeO.none _
      | refine LeO.ite ?_ ?_
      | refine LeO.bind ?_ (fun _ => ?_)
    · intro y0 y1 y2 y3 y4 y5 y6 y7 y8 y9 y10 y11 y12 y13 y14 y15 y16 y17 y18 y19
      unfold impl_product.l2
      repeat' first
      | (with_reducible exact ih0 _ _ _ _ _ _ _ _ _)
      | (with_reducible exact ih1 _ _ _ _ _ _ _ _ _ _ _ _ _ _ _)
      | (with_reducible exact ih2 _ _ _ _ _ _ _ _ _ _ _ _ _ _ _ _ _ _ _ _)
      | (with_reducible exact impl_argsAt.mono _ _ _ _)
      | (with_reducible exact impl_power.mono _ _ _)
      | (with_reducible exact LeO.refl _)
      | (with_reducible exact LeO.none _)
      | (with_reducible refine LeO.ite ?_ ?_)
      | (with_reducible refine LeO.bind ?_ (fun _ => ?_))
      | exact ih0 _ _ _ _ _ _ _ _ _
      | exact ih1 _ _ _ _ _ _ _ _ _ _ _ _ _ _ _
      | exact ih2 _ _ _ _ _ _ _ _ _ _ _ _ _ _ _ _ _ _ _ _
      | exact impl_argsAt.mono _ _ _ _
      | exact impl_power.mono _ _ _
      | exact LeO.none _
      | refine LeO.ite ?_ ?_
      | refine LeO.bind ?_ (fun _ => ?_)
theorem impl_product.mono : ∀ a0 a1 a2 a3 k, LeO (impl_product.f k a0 a1 a2 a3) (impl_product.f (k + 1) a0 a1 a2 a3) := by
  intro a0 a1 a2 a3 k
  obtain ⟨ih0, ih1, ih2⟩ := impl_product.mono_l k
  unfold impl_product.f
  repeat' first
      | (with_reducible exact ih0 _ _ _ _ _ _ _ _ _)
      | (with_reducible exact ih1 _ _ _ _ _ _ _ _ _ _ _ _ _ _ _)
      | (with_reducible exact ih2 _ _ _ _ _ _ _ _ _ _ _ _ _ _ _ _ _ _ _ _)
      | (with_reducible exact impl_argsAt.mono _ _ _ _)
      | (with_reducible exact impl_power.mono _ _ _)
      | (with_reducible exact LeO.refl _)
      | (with_reducible exact LeO.none _)
      | (with_reducible refine LeO.ite ?_ ?_)
      | (with_reducible refine LeO.bind ?_ (fun _ => ?_))
      | exact ih0 _ _ _ _ _ _ _ _ _
      | exact ih1 _ _ _ _ _ _ _ _ _ _ _ _ _ _ _
      | exact ih2 _ _ _ _ _ _ _ _ _ _ _ _ _ _ _ _ _ _ _ _
      | exact impl_argsAt.mono _ _ _ _
      | exact impl_power.mono _ _ _
      | exact LeO.none _
      | refine LeO.ite ?_ ?_
      | refine LeO.bind ?_ (fun _ => ?_)
def impl_product.T13 : Bool × List (List Nat × List Nat) := (true, [([], []), ([], []), ([1], [1]), ([0, 2], [0, 2]), ([], []), ([], []), ([5], [5]), ([4, 6], [4, 6]), ([3, 7], [3, 7]), ([], []), ([], []), ([10], [10]), ([9, 11], [9, 11]), ([], []), ([], []), ([14], [14]), ([13, 15], [13, 15]), ([12, 16], [12, 16]), ([8, 0, 1, 2, 3, 4, 5, 6, 7, 8], [0, 8]), ([17, 18, 0, 1, 2, 3, 4, 5, 6, 7, 8, 9, 10, 11, 12, 13, 14, 15, 16, 17, 18], [9, 17])])
def impl_product.B13 : List Nat := [0, 0, 2, 7, 0, 0, 32, 112, 255, 0, 0, 1024, 3584, 0, 0, 16384, 57344, 130560, 511, 524287]
theorem impl_product.tab13 : rtab .any (opsOf Try.f104 13) = impl_product.T13 := by kernel_rfl
theorem impl_product.bits13 : waitsOk impl_product.T13.2 impl_product.B13 = true := by kernel_rfl
def impl_product.T15 : Bool × List (List Nat × List Nat) := (true, [([], []), ([0], [0]), ([], []), ([2], [2]), ([], []), ([3, 4], [3, 4]), ([5], [5]), ([], []), ([7], [7]), ([6, 8], [6, 8]), ([], []), ([10], [10]), ([], []), ([11, 12], [11, 12]), ([13], [13]), ([14], [14]), ([], []), ([15, 16], [15, 16]), ([17], [17]), ([9, 18], [9, 18]), ([19], [19]), ([1, 20], [1, 20]), ([0, 1, 2, 3, 4, 5, 6, 7, 8, 9, 10, 11, 12, 13, 14, 15, 16, 17, 18, 19, 20, 21], []), ([22, 21, 21, 0, 1, 2, 3, 4, 5, 6, 7, 8, 9, 10, 11, 12, 13, 14, 15, 16, 17, 18, 19, 20, 21], [21, 22])])
def impl_product.B15 : List Nat := [0, 1, 0, 4, 0, 28, 60, 0, 128, 508, 0, 1024, 0, 7168, 15360, 31744, 0, 130048, 261120, 524284, 1048572, 2097151, 4194303, 8388607]
theorem impl_product.tab15 : rtab .any (opsOf Try.f104 15) = impl_product.T15 := by kernel_rfl
theorem impl_product.bits15 : waitsOk impl_product.T15.2 impl_product.B15 = true := by kernel_rfl
set_option maxHeartbeats 8000000 in
set_option maxRecDepth 100000 in
theorem impl_product.calls (k : Nat) (a0_0 : Int) (A0_1 : Option Addr) (c0_1 : Nat) (l0_1 : List (S87)) (a1_0 : Int) (A1_1 : Option Addr) (c1_1 : Nat) (l1_1 : List (S87)) (r1 : Int) (r2 : List (S87)) (w : World) (hr0_1 : Kd.C k87 w A0_1 l0_1.length l0_1) (hc0_1 : l0_1.length ≤ c0_1) (hr1_1 : Kd.C k87 w A1_1 l1_1.length l1_1) (hc1_1 : l1_1.length ≤ c1_1) (h : impl_product.f k a0_0 l0_1 a1_0 l1_1 = some (r1, r2)) :
    Calls Try.prog 104 #[.agg #[.int .i64 a0_0, .slice A0_1 l0_1.length c0_1], .agg #[.int .i64 a1_0, .slice A1_1 l1_1.length c1_1]] w fun e w' => ∃ v1_ : Value, e = .returned (.agg #[.int .i64 r1, v1_]) ∧ Kd.S k87 87 w' w.heap.size (fun _ => True) v1_ r2 ∧ Below w.heap.size w w' := by
  have hu30 := Try.underlying30
  have hu87 := Try.underlying87
  have HR0_1 := Aside0.mk hr0_1
  have HC0_1 := Aside0.mk hc0_1
  clear hr0_1 hc0_1
  have HR1_1 := Aside0.mk hr1_1
  have HC1_1 := Aside0.mk hc1_1
  clear hr1_1 hc1_1
  have HB := Aside0.mk (Below.refl w.heap.size w)
  have H : (impl_product.l0 k l0_1 (l0_1.length : Int) 0 a0_0 l0_1 a1_0 l1_1 (wrap64 (a0_0 * a1_0)) ([] : List (S87))) = some (r1, r2) := h
  clear h
  have H' := Aside0.mk H
  clear H
  go_enter Try.func104, Try.ntmps104
  go_wp2_with (first | ((with_reducible refine gate_dst (N := 2) rfl ?_); refine box_event ?hg (N := 2) ?hd (cs := #[.int .i64 a0_0, .slice A0_1 l0_1.length c0_1]) (t := 30) ?hr ?_; (case hd => rfl); (case hg => rfl); (case hr => first | (go_simp; done) | (go_simp; rfl)); intro gb706 hg w3 hbox hb; have n0_ := Aside0.mk (below_step (by repeat (first | (with_reducible first | exact HB.out | apply below_alloc | apply pw_below_drewN | apply below_drew1) | exact HB.out)) hb); have n1_ := Aside0.mk (hbox); have n2_ := Aside0.mk ((by rw [hg]; exact (below_size (by repeat (first | (with_reducible first | exact HB.out | apply below_alloc | apply pw_below_drewN | apply below_drew1) | exact HB.out))) : w.heap.size ≤ gb706)); have n3_ := Aside0.mk ((by rw [hg]; exact (below_size (by repeat (first | (with_reducible first | exact HB.out | apply below_alloc | apply pw_below_drewN | apply below_drew1) | exact HB.out))) : w.heap.size ≤ gb706)); clear HB; have HB := n0_; have BK706 := n1_; have GW706 := n2_; have GE706 := n3_; clear n0_ n1_ n2_ n3_; clear hb hbox hg) | ((with_reducible refine gate_dst (N := 3) rfl ?_); refine box_event ?hg (N := 3) ?hd (cs := #[.int .i64 a1_0, .slice A1_1 l1_1.length c1_1]) (t := 30) ?hr ?_; (case hd => rfl); (case hg => rfl); (case hr => first | (go_simp; done) | (go_simp; rfl)); intro gb707 hg w4 hbox hb; have n0_ := Aside0.mk (blk_below (g := gb706) (o := .cells #[.int .i64 a0_0, .slice A0_1 l0_1.length c0_1] 30 (0, 0)) (by (with_reducible repeat (first | refine blk_drewN ?_ _ | refine blk_drew ?_ | refine blk_alloc ?_ _)); exact BK706.out) hb); have n1_ := Aside0.mk (below_step (by repeat (first | (with_reducible first | exact HB.out | apply below_alloc | apply pw_below_drewN | apply below_drew1 | refine below_set ?_ GE706.out) | exact HB.out)) hb); have n2_ := Aside0.mk (hbox); have n3_ := Aside0.mk ((by rw [hg]; exact (below_size (by repeat (first | (with_reducible first | exact HB.out | apply below_alloc | apply pw_below_drewN | apply below_drew1 | refine below_set ?_ GE706.out) | exact HB.out))) : w.heap.size ≤ gb707)); have n4_ := Aside0.mk ((by rw [hg]; exact (below_size (by repeat (first | (with_reducible first | exact HB.out | apply below_alloc | apply pw_below_drewN | apply below_drew1 | refine below_set ?_ GE706.out) | exact HB.out))) : w.heap.size ≤ gb707)); have n5_ := Aside0.mk ((by rw [hg]; exact Nat.ne_of_lt (blk_lt (g := gb706) (o := .cells #[.int .i64 a0_0, .slice A0_1 l0_1.length c0_1] 30 (0, 0)) (by (with_reducible repeat (first | refine blk_drewN ?_ _ | refine blk_drew ?_ | refine blk_alloc ?_ _)); exact BK706.out)) : gb706 ≠ gb707)); have n6_ := Aside0.mk ((by rw [hg]; exact Nat.ne_of_gt (blk_lt (g := gb706) (o := .cells #[.int .i64 a0_0, .slice A0_1 l0_1.length c0_1] 30 (0, 0)) (by (with_reducible repeat (first | refine blk_drewN ?_ _ | refine blk_drew ?_ | refine blk_alloc ?_ _)); exact BK706.out)) : gb707 ≠ gb706)); clear BK706; clear HB; have BK706 := n0_; have HB := n1_; have BK707 := n2_; have GW707 := n3_; have GE707 := n4_; have NB706_707 := n5_; have NB707_706 := n6_; clear n0_ n1_ n2_ n3_ n4_ n5_ n6_; clear hb hbox hg) | ((with_reducible refine gate_dst (N := 4) rfl ?_); refine box_event ?hg (N := 4) ?hd (cs := #[.int .i64 0, .slice none 0 0]) (t := 30) ?hr ?_; (case hd => rfl); (case hg => rfl); (case hr => first | (go_simp; done) | (go_simp; rfl)); intro gb708 hg w5 hbox hb; have n0_ := Aside0.mk (blk_below (g := gb706) (o := .cells #[.int .i64 a0_0, .slice A0_1 l0_1.length c0_1] 30 (0, 0)) (by (with_reducible repeat (first | refine blk_drewN ?_ _ | refine blk_drew ?_ | refine blk_alloc ?_ _)); exact BK706.out) hb); have n1_ := Aside0.mk (blk_below (g := gb707) (o := .cells #[.int .i64 a1_0, .slice A1_1 l1_1.length c1_1] 30 (0, 0)) (by (with_reducible repeat (first | refine blk_drewN ?_ _ | refine blk_drew ?_ | refine blk_alloc ?_ _)); exact BK707.out) hb); have n2_ := Aside0.mk (below_step (by repeat (first | (with_reducible first | exact HB.out | apply below_alloc | apply pw_below_drewN | apply below_drew1 | refine below_set ?_ GE706.out | refine below_set ?_ GE707.out) | exact HB.out)) hb); have n3_ := Aside0.mk (hbox); have n4_ := Aside0.mk ((by rw [hg]; exact (below_size (by repeat (first | (with_reducible first | exact HB.out | apply below_alloc | apply pw_below_drewN | apply below_drew1 | refine below_set ?_ GE706.out | refine below_set ?_ GE707.out) | exact HB.out))) : w.heap.size ≤ gb708)); have n5_ := Aside0.mk ((by rw [hg]; exact (below_size (by repeat (first | (with_reducible first | exact HB.out | apply below_alloc | apply pw_below_drewN | apply below_drew1 | refine below_set ?_ GE706.out | refine below_set ?_ GE707.out) | exact HB.out))) : w.heap.size ≤ gb708)); have n6_ := Aside0.mk ((by rw [hg]; exact Nat.ne_of_lt (blk_lt (g := gb706) (o := .cells #[.int .i64 a0_0, .slice A0_1 l0_1.length c0_1] 30 (0, 0)) (by (with_reducible repeat (first | refine blk_drewN ?_ _ | refine blk_drew ?_ | refine blk_alloc ?_ _)); exact BK706.out)) : gb706 ≠ gb708)); have n7_ := Aside0.mk ((by rw [hg]; exact Nat.ne_of_gt (blk_lt (g := gb706) (o := .cells #[.int .i64 a0_0, .slice A0_1 l0_1.length c0_1] 30 (0, 0)) (by (with_reducible repeat (first | refine blk_drewN ?_ _ | refine blk_drew ?_ | refine blk_alloc ?_ _)); exact BK706.out)) : gb708 ≠ gb706)); have n8_ := Aside0.mk ((by rw [hg]; exact Nat.ne_of_lt (blk_lt (g := gb707) (o := .cells #[.int .i64 a1_0, .slice A1_1 l1_1.length c1_1] 30 (0, 0)) (by (with_reducible repeat (first | refine blk_drewN ?_ _ | refine blk_drew ?_ | refine blk_alloc ?_ _)); exact BK707.out)) : gb707 ≠ gb708)); have n9_ := Aside0.mk ((by rw [hg]; exact Nat.ne_of_gt (blk_lt (g := gb707) (o := .cells #[.int .i64 a1_0, .slice A1_1 l1_1.length c1_1] 30 (0, 0)) (by (with_reducible repeat (first | refine blk_drewN ?_ _ | refine blk_drew ?_ | refine blk_alloc ?_ _)); exact BK707.out)) : gb708 ≠ gb707)); clear BK706; clear BK707; clear HB; have BK706 := n0_; have BK707 := n1_; have HB := n2_; have BK708 := n3_; have GW708 := n4_; have GE708 := n5_; have NB706_708 := n6_; have NB708_706 := n7_; have NB707_708 := n8_; have NB708_707 := n9_; clear n0_ n1_ n2_ n3_ n4_ n5_ n6_ n7_ n8_ n9_; clear hb hbox hg; have hnb6 := NB706_707.out; have hnc6 := NB707_706.out; have hnb7 := NB706_708.out; have hnc7 := NB708_706.out; have hcz8_0 : w5.cell? ⟨gb706, 0, none⟩ = some (.int .i64 a0_0) := (blk_cell BK706.out 0).trans rfl; have hcz8_1 : w5.cell? ⟨gb706, 1, none⟩ = some (.slice A0_1 l0_1.length c0_1) := (blk_cell BK706.out 1).trans rfl; have hfz8_0 := blk_frozen BK706.out 0; have hfz8_1 := blk_frozen BK706.out 1; have hnb9 := NB707_708.out; have hnc9 := NB708_707.out; have hcz10_0 : w5.cell? ⟨gb707, 0, none⟩ = some (.int .i64 a1_0) := (blk_cell BK707.out 0).trans rfl; have hcz10_1 : w5.cell? ⟨gb707, 1, none⟩ = some (.slice A1_1 l1_1.length c1_1) := (blk_cell BK707.out 1).trans rfl; have hfz10_0 := blk_frozen BK707.out 0; have hfz10_1 := blk_frozen BK707.out 1) | ((with_reducible refine gate_dst (N := 5) rfl ?_); refine box_event ?hg (N := 5) ?hd (cs := #[.int .i64 0, .slice none 0 0]) (t := 30) ?hr ?_; (case hd => rfl); (case hg => rfl); (case hr => first | (go_simp; done) | (go_simp; rfl)); intro gb709 hg w11 hbox hb; have n0_ := Aside0.mk (blk_below (g := gb706) (o := .cells #[.int .i64 a0_0, .slice A0_1 l0_1.length c0_1] 30 (0, 0)) (by (with_reducible repeat (first | refine blk_drewN ?_ _ | refine blk_drew ?_ | refine blk_alloc ?_ _)); exact BK706.out) hb); have n1_ := Aside0.mk (blk_below (g := gb707) (o := .cells #[.int .i64 a1_0, .slice A1_1 l1_1.length c1_1] 30 (0, 0)) (by (with_reducible repeat (first | refine blk_drewN ?_ _ | refine blk_drew ?_ | refine blk_alloc ?_ _)); exact BK707.out) hb); have n2_ := Aside0.mk (blk_below (g := gb708) (o := .cells #[.int .i64 0, .slice none 0 0] 30 (0, 0)) (by (with_reducible repeat (first | refine blk_drewN ?_ _ | refine blk_drew ?_ | refine blk_alloc ?_ _)); exact BK708.out) hb); have n3_ := Aside0.mk (below_step (by repeat (first | (with_reducible first | exact HB.out | apply below_alloc | apply pw_below_drewN | apply below_drew1 | refine below_set ?_ GE706.out | refine below_set ?_ GE707.out | refine below_set ?_ GE708.out) | exact HB.out)) hb); have n4_ := Aside0.mk (hbox); have n5_ := Aside0.mk ((by rw [hg]; exact (below_size (by repeat (first | (with_reducible first | exact HB.out | apply below_alloc | apply pw_below_drewN | apply below_drew1 | refine below_set ?_ GE706.out | refine below_set ?_ GE707.out | refine below_set ?_ GE708.out) | exact HB.out))) : w.heap.size ≤ gb709)); have n6_ := Aside0.mk ((by rw [hg]; exact (below_size (by repeat (first | (with_reducible first | exact HB.out | apply below_alloc | apply pw_below_drewN | apply below_drew1 | refine below_set ?_ GE706.out | refine below_set ?_ GE707.out | refine below_set ?_ GE708.out) | exact HB.out))) : w.heap.size ≤ gb709)); have n7_ := Aside0.mk ((by rw [hg]; exact Nat.ne_of_lt (blk_lt (g := gb706) (o := .cells #[.int .i64 a0_0, .slice A0_1 l0_1.length c0_1] 30 (0, 0)) (by (with_reducible repeat (first | refine blk_drewN ?_ _ | refine blk_drew ?_ | refine blk_alloc ?_ _)); exact BK706.out)) : gb706 ≠ gb709)); have n8_ := Aside0.mk ((by rw [hg]; exact Nat.ne_of_gt (blk_lt (g := gb706) (o := .cells #[.int .i64 a0_0, .slice A0_1 l0_1.length c0_1] 30 (0, 0)) (by (with_reducible repeat (first | refine blk_drewN ?_ _ | refine blk_drew ?_ | refine blk_alloc ?_ _)); exact BK706.out)) : gb709 ≠ gb706)); have n9_ := Aside0.mk ((by rw [hg]; exact Nat.ne_of_lt (blk_lt (g := gb707) (o := .cells #[.int .i64 a1_0, .slice A1_1 l1_1.length c1_1] 30 (0, 0)) (by (with_reducible repeat (first | refine blk_drewN ?_ _ | refine blk_drew ?_ | refine blk_alloc ?_ _)); exact BK707.out)) : gb707 ≠ gb709)); have n10_ := Aside0.mk ((by rw [hg]; exact Nat.ne_of_gt (blk_lt (g := gb707) (o := .cells #[.int .i64 a1_0, .slice A1_1 l1_1.length c1_1] 30 (0, 0)) (by (with_reducible repeat (first | refine blk_drewN ?_ _ | refine blk_drew ?_ | refine blk_alloc ?_ _)); exact BK707.out)) : gb709 ≠ gb707)); have n11_ := Aside0.mk ((by rw [hg]; exact Nat.ne_of_lt (blk_lt (g := gb708) (o := .cells #[.int .i64 0, .slice none 0 0] 30 (0, 0)) (by (with_reducible repeat (first | refine blk_drewN ?_ _ | refine blk_drew ?_ | refine blk_alloc ?_ _)); exact BK708.out)) : gb708 ≠ gb709)); have n12_ := Aside0.mk ((by rw [hg]; exact Nat.ne_of_gt (blk_lt (g := gb708) (o := .cells #[.int .i64 0, .slice none 0 0] 30 (0, 0)) (by (with_reducible repeat (first | refine blk_drewN ?_ _ | refine blk_drew ?_ | refine blk_alloc ?_ _)); exact BK708.out)) : gb709 ≠ gb708)); clear BK706; clear BK707; clear BK708; clear HB; have BK706 := n0_; have BK707 := n1_; have BK708 := n2_; have HB := n3_; have BK709 := n4_; have GW709 := n5_; have GE709 := n6_; have NB706_709 := n7_; have NB709_706 := n8_; have NB707_709 := n9_; have NB709_707 := n10_; have NB708_709 := n11_; have NB709_708 := n12_; clear n0_ n1_ n2_ n3_ n4_ n5_ n6_ n7_ n8_ n9_ n10_ n11_ n12_; clear hb hbox hg; have hnb12 := NB709_706.out; have hnc12 := NB706_709.out; have hnb13 := NB709_707.out; have hnc13 := NB707_709.out; have hnb14 := NB709_708.out; have hnc14 := NB708_709.out; have hcz15_0 : w11.cell? ⟨gb709, 0, none⟩ = some (.int .i64 0) := (blk_cell BK709.out 0).trans rfl; have hcz15_1 : w11.cell? ⟨gb709, 1, none⟩ = some (.slice none 0 0) := (blk_cell BK709.out 1).trans rfl; have hfz15_0 := blk_frozen BK709.out 0; have hfz15_1 := blk_frozen BK709.out 1; have hcz16_0 : w11.cell? ⟨gb706, 0, none⟩ = some (.int .i64 a0_0) := (blk_cell BK706.out 0).trans rfl; have hcz16_1 : w11.cell? ⟨gb706, 1, none⟩ = some (.slice A0_1 l0_1.length c0_1) := (blk_cell BK706.out 1).trans rfl; have hfz16_0 := blk_frozen BK706.out 0; have hfz16_1 := blk_frozen BK706.out 1))
  go_loopg [23] k (fun kq v23 w' => ∃ (x23_1 : Int) (x710001_1 : List (S87)) (u710001 : Value), v23 = .int .i64 x23_1 ∧ Aside0 (impl_product.l0 kq l0_1 (l0_1.length : Int) x23_1 a0_0 l0_1 a1_0 l1_1 (wrap64 (a0_0 * a1_0)) x710001_1 = some (r1, r2)) ∧ Aside0 (kq ≤ k) ∧ Aside0 (Kd.S k87 87 w' w.heap.size (fun _ => True) u710001 x710001_1) ∧ Aside0 (w'.heap[gb706]? = some (.cells #[.int .i64 a0_0, (.slice A0_1 l0_1.length c0_1)] 30 (0, 0))) ∧ Aside0 (w'.heap[gb707]? = some (.cells #[.int .i64 a1_0, (.slice A1_1 l1_1.length c1_1)] 30 (0, 0))) ∧ Aside0 (w'.heap[gb708]? = some (.cells #[.int .i64 0, (.slice none 0 0)] 30 (0, 0))) ∧ Aside0 (w'.heap[gb709]? = some (.cells #[.int .i64 (wrap64 (a0_0 * a1_0)), u710001] 30 (0, 0))) ∧ Aside0 (Below w.heap.size w w'))
  case atStart => exact ⟨(0), (([] : List (S87))), (.slice none 0 0), (by first | rfl | (simp; done) | (simp [*]; done)), H', ⟨Nat.le_refl _⟩, ⟨by first | exact Kd.S_nil _ _ _ _ _ | exact Kd.N_nil _ _ _ _ _ | exact Kd.V_nil _ _ _ _ _ | exact Kd.Q_nil _ _ _ _ _ | exact Kd.R_nil _ _ _ _ _⟩, ⟨by (with_reducible repeat (first | refine blk_drewN ?_ _ | refine blk_drew ?_ | refine blk_alloc ?_ _)); refine blk_far ?_ NB706_709.out _; (with_reducible repeat (first | refine blk_drewN ?_ _ | refine blk_drew ?_ | refine blk_alloc ?_ _)); refine blk_far ?_ NB706_709.out _; (with_reducible repeat (first | refine blk_drewN ?_ _ | refine blk_drew ?_ | refine blk_alloc ?_ _)); exact BK706.out⟩, ⟨by (with_reducible repeat (first | refine blk_drewN ?_ _ | refine blk_drew ?_ | refine blk_alloc ?_ _)); refine blk_far ?_ NB707_709.out _; (with_reducible repeat (first | refine blk_drewN ?_ _ | refine blk_drew ?_ | refine blk_alloc ?_ _)); refine blk_far ?_ NB707_709.out _; (with_reducible repeat (first | refine blk_drewN ?_ _ | refine blk_drew ?_ | refine blk_alloc ?_ _)); exact BK707.out⟩, ⟨by (with_reducible repeat (first | refine blk_drewN ?_ _ | refine blk_drew ?_ | refine blk_alloc ?_ _)); refine blk_far ?_ NB708_709.out _; (with_reducible repeat (first | refine blk_drewN ?_ _ | refine blk_drew ?_ | refine blk_alloc ?_ _)); refine blk_far ?_ NB708_709.out _; (with_reducible repeat (first | refine blk_drewN ?_ _ | refine blk_drew ?_ | refine blk_alloc ?_ _)); exact BK708.out⟩, ⟨by (with_reducible repeat (first | refine blk_drewN ?_ _ | refine blk_drew ?_ | refine blk_alloc ?_ _)); refine blk_put (cs := #[.int .i64 (wrap64 (a0_0 * a1_0)), .slice none 0 0]) ?_ 1 _ rfl; (with_reducible repeat (first | refine blk_drewN ?_ _ | refine blk_drew ?_ | refine blk_alloc ?_ _)); refine blk_put (cs := #[.int .i64 0, .slice none 0 0]) ?_ 0 _ rfl; (with_reducible repeat (first | refine blk_drewN ?_ _ | refine blk_drew ?_ | refine blk_alloc ?_ _)); exact BK709.out⟩, ⟨by repeat (first | (with_reducible first | exact HB.out | apply below_alloc | apply pw_below_drewN | apply below_drew1 | refine below_set ?_ GE706.out | refine below_set ?_ GE707.out | refine below_set ?_ GE708.out | refine below_set ?_ GE709.out) | exact HB.out)⟩⟩
  case round =>
    clear H'
    try clear c1
    try clear p2
    try clear c6
    try clear p6
    try clear c7
    try clear c9
    try clear c10
    try clear c12
    try clear c13
    try clear c14
    try clear hcz10_0
    try clear hcz10_1
    try clear hcz15_0
    try clear hcz15_1
    try clear hcz16_0
    try clear hcz16_1
    try clear hcz8_0
    try clear hcz8_1
    try clear hfz10_0
    try clear hfz10_1
    try clear hfz15_0
    try clear hfz15_1
    try clear hfz16_0
    try clear hfz16_1
    try clear hfz8_0
    try clear hfz8_1
    obtain ⟨x23_1, x710001_1, u710001, rfl, HA, HK1, HO_710001, BK706, BK707, BK708, BK709, HB⟩ := hrel
    cases gk with
    | zero => exact absurd HA.out (by simp [impl_product.l0])
    | succ k1 =>
      have H := HA.out
      clear HA
      simp only [impl_product.l0] at H
      by_cases c17 : x23_1 < (l0_1.length : Int)
      · rw [if_pos c17] at H
        have c17b0 : decide (x23_1 < (l0_1.length : Int)) = true := decide_eq_true c17
        clear c17
        by_cases c18 : 0 ≤ x23_1
        · rw [if_pos c18] at H
          have c18b0 : decide (0 ≤ x23_1) = true := decide_eq_true c18
          clear c18
          by_cases c19 : x23_1 < (l0_1.length : Int)
          · rw [if_pos c19] at H
            have c19b0 : decide (x23_1 < (l0_1.length : Int)) = true := decide_eq_true c19
            clear c19
            have H' := Aside0.mk H
            clear H
            have p710 : 0 ≤ (x23_1 : Int) := of_decide_eq_true (by first | (with_reducible assumption) | assumption)
            have q710 : x23_1 < (l0_1.length : Int) := of_decide_eq_true (by first | (with_reducible assumption) | assumption)
            obtain ⟨ad710, A710_1, c710_1, e710, hx710_0, hx710_1, hl710_1, hi710_1⟩ := at_T87 HR0_1.out x23_1 p710 q710
            cases e710
            replace hx710_0 := (HB.out.cell (World.block_lt_of_cell? w _ hx710_0)).trans hx710_0
            replace hx710_1 := (HB.out.cell (World.block_lt_of_cell? w _ hx710_1)).trans hx710_1
            have HR710_1 := Aside0.mk hi710_1
            have HC710_1 := Aside0.mk hl710_1
            clear hi710_1 hl710_1
            replace p710 := eq_true p710
            replace q710 := eq_true q710
            go_wp2_with (first | ((with_reducible refine gate_dst (N := 7) rfl ?_); refine box_event ?hg (N := 7) ?hd (cs := #[.int .i64 0, .slice none 0 0]) (t := 87) ?hr ?_; (case hd => rfl); (case hg => rfl); (case hr => first | (go_simp; done) | (go_simp; rfl)); intro gb711 hg w20 hbox hb; have n0_ := Aside0.mk (Kd.S_below (Kd.S_elderB (by (with_reducible repeat (first | apply Kd.S_alloc | apply Kd.S_drewN | apply Kd.S_drew)); exact HO_710001.out) gb711 (Nat.le_of_eq hg.symm)) hb); have n1_ := Aside0.mk (blk_below (g := gb706) (o := .cells #[.int .i64 a0_0, .slice (some ad710) l0_1.length c0_1] 30 (0, 0)) (by (with_reducible repeat (first | refine blk_drewN ?_ _ | refine blk_drew ?_ | refine blk_alloc ?_ _)); exact BK706.out) hb); have n2_ := Aside0.mk (blk_below (g := gb707) (o := .cells #[.int .i64 a1_0, .slice A1_1 l1_1.length c1_1] 30 (0, 0)) (by (with_reducible repeat (first | refine blk_drewN ?_ _ | refine blk_drew ?_ | refine blk_alloc ?_ _)); exact BK707.out) hb); have n3_ := Aside0.mk (blk_below (g := gb708) (o := .cells #[.int .i64 0, .slice none 0 0] 30 (0, 0)) (by (with_reducible repeat (first | refine blk_drewN ?_ _ | refine blk_drew ?_ | refine blk_alloc ?_ _)); exact BK708.out) hb); have n4_ := Aside0.mk (blk_below (g := gb709) (o := .cells #[.int .i64 (wrap64 (a0_0 * a1_0)), u710001] 30 (0, 0)) (by (with_reducible repeat (first | refine blk_drewN ?_ _ | refine blk_drew ?_ | refine blk_alloc ?_ _)); exact BK709.out) hb); have n5_ := Aside0.mk (below_step (by repeat (first | (with_reducible first | exact HB.out | apply below_alloc | apply pw_below_drewN | apply below_drew1 | refine below_set ?_ GE706.out | refine below_set ?_ GE707.out | refine below_set ?_ GE708.out | refine below_set ?_ GE709.out) | exact HB.out)) hb); have n6_ := Aside0.mk (hbox); have n7_ := Aside0.mk ((by rw [hg]; exact (below_size (by repeat (first | (with_reducible first | exact HB.out | apply below_alloc | apply pw_below_drewN | apply below_drew1 | refine below_set ?_ GE706.out | refine below_set ?_ GE707.out | refine below_set ?_ GE708.out | refine below_set ?_ GE709.out) | exact HB.out))) : w.heap.size ≤ gb711)); have n8_ := Aside0.mk ((by rw [hg]; exact (below_size (by repeat (first | (with_reducible first | exact HB.out | apply below_alloc | apply pw_below_drewN | apply below_drew1 | refine below_set ?_ GE706.out | refine below_set ?_ GE707.out | refine below_set ?_ GE708.out | refine below_set ?_ GE709.out) | exact HB.out))) : w.heap.size ≤ gb711)); have n9_ := Aside0.mk ((by rw [hg]; exact Nat.ne_of_lt (blk_lt (g := gb706) (o := .cells #[.int .i64 a0_0, .slice (some ad710) l0_1.length c0_1] 30 (0, 0)) (by (with_reducible repeat (first | refine blk_drewN ?_ _ | refine blk_drew ?_ | refine blk_alloc ?_ _)); exact BK706.out)) : gb706 ≠ gb711)); have n10_ := Aside0.mk ((by rw [hg]; exact Nat.ne_of_gt (blk_lt (g := gb706) (o := .cells #[.int .i64 a0_0, .slice (some ad710) l0_1.length c0_1] 30 (0, 0)) (by (with_reducible repeat (first | refine blk_drewN ?_ _ | refine blk_drew ?_ | refine blk_alloc ?_ _)); exact BK706.out)) : gb711 ≠ gb706)); have n11_ := Aside0.mk ((by rw [hg]; exact Nat.ne_of_lt (blk_lt (g := gb707) (o := .cells #[.int .i64 a1_0, .slice A1_1 l1_1.length c1_1] 30 (0, 0)) (by (with_reducible repeat (first | refine blk_drewN ?_ _ | refine blk_drew ?_ | refine blk_alloc ?_ _)); exact BK707.out)) : gb707 ≠ gb711)); have n12_ := Aside0.mk ((by rw [hg]; exact Nat.ne_of_gt (blk_lt (g := gb707) (o := .cells #[.int .i64 a1_0, .slice A1_1 l1_1.length c1_1] 30 (0, 0)) (by (with_reducible repeat (first | refine blk_drewN ?_ _ | refine blk_drew ?_ | refine blk_alloc ?_ _)); exact BK707.out)) : gb711 ≠ gb707)); have n13_ := Aside0.mk ((by rw [hg]; exact Nat.ne_of_lt (blk_lt (g := gb708) (o := .cells #[.int .i64 0, .slice none 0 0] 30 (0, 0)) (by (with_reducible repeat (first | refine blk_drewN ?_ _ | refine blk_drew ?_ | refine blk_alloc ?_ _)); exact BK708.out)) : gb708 ≠ gb711)); have n14_ := Aside0.mk ((by rw [hg]; exact Nat.ne_of_gt (blk_lt (g := gb708) (o := .cells #[.int .i64 0, .slice none 0 0] 30 (0, 0)) (by (with_reducible repeat (first | refine blk_drewN ?_ _ | refine blk_drew ?_ | refine blk_alloc ?_ _)); exact BK708.out)) : gb711 ≠ gb708)); have n15_ := Aside0.mk ((by rw [hg]; exact Nat.ne_of_lt (blk_lt (g := gb709) (o := .cells #[.int .i64 (wrap64 (a0_0 * a1_0)), u710001] 30 (0, 0)) (by (with_reducible repeat (first | refine blk_drewN ?_ _ | refine blk_drew ?_ | refine blk_alloc ?_ _)); exact BK709.out)) : gb709 ≠ gb711)); have n16_ := Aside0.mk ((by rw [hg]; exact Nat.ne_of_gt (blk_lt (g := gb709) (o := .cells #[.int .i64 (wrap64 (a0_0 * a1_0)), u710001] 30 (0, 0)) (by (with_reducible repeat (first | refine blk_drewN ?_ _ | refine blk_drew ?_ | refine blk_alloc ?_ _)); exact BK709.out)) : gb711 ≠ gb709)); clear HO_710001; clear BK706; clear BK707; clear BK708; clear BK709; clear HB; have HO_710001 := n0_; have BK706 := n1_; have BK707 := n2_; have BK708 := n3_; have BK709 := n4_; have HB := n5_; have BK711 := n6_; have GW711 := n7_; have GE711 := n8_; have NB706_711 := n9_; have NB711_706 := n10_; have NB707_711 := n11_; have NB711_707 := n12_; have NB708_711 := n13_; have NB711_708 := n14_; have NB709_711 := n15_; have NB711_709 := n16_; clear n0_ n1_ n2_ n3_ n4_ n5_ n6_ n7_ n8_ n9_ n10_ n11_ n12_ n13_ n14_ n15_ n16_; clear hb hbox hg; have hnb21 := NB711_706.out; have hnc21 := NB706_711.out; have hnb22 := NB711_707.out; have hnc22 := NB707_711.out; have hnb23 := NB711_708.out; have hnc23 := NB708_711.out; have hnb24 := NB711_709.out; have hnc24 := NB709_711.out; have hcz25_0 : w20.cell? ⟨gb711, 0, none⟩ = some (.int .i64 0) := (blk_cell BK711.out 0).trans rfl; have hcz25_1 : w20.cell? ⟨gb711, 1, none⟩ = some (.slice none 0 0) := (blk_cell BK711.out 1).trans rfl; have hfz25_0 := blk_frozen BK711.out 0; have hfz25_1 := blk_frozen BK711.out 1) | ((with_reducible refine gate_dst (N := 8) rfl ?_); refine box_event ?hg (N := 8) ?hd (cs := #[.int .i64 0, .slice none 0 0]) (t := 87) ?hr ?_; (case hd => rfl); (case hg => rfl); (case hr => first | (go_simp; done) | (go_simp; rfl)); intro gb712 hg w26 hbox hb; have n0_ := Aside0.mk (Kd.S_below (Kd.S_elderB (by (with_reducible repeat (first | apply Kd.S_alloc | apply Kd.S_drewN | apply Kd.S_drew)); exact (Kd.S_mono (Kd.S_far (p := ⟨gb711, 1, none⟩) (Kd.S_far (p := ⟨gb711, 0, none⟩) (Kd.S_mono HO_710001.out (fun k_ hk => (⟨hk, hk.2⟩ : _ ∧ k_ ≠ gb711))) (fun _ hk => hk.2) (.int .i64 ((rd_T87 l0_1 x23_1).f0))) (fun _ hk => hk.2) (.slice A710_1 ((rd_T87 l0_1 x23_1).f1).length c710_1)) (fun _ h_ => h_.1))) gb712 (Nat.le_of_eq hg.symm)) hb); have n1_ := Aside0.mk (blk_below (g := gb706) (o := .cells #[.int .i64 a0_0, .slice (some ad710) l0_1.length c0_1] 30 (0, 0)) (by (with_reducible repeat (first | refine blk_drewN ?_ _ | refine blk_drew ?_ | refine blk_alloc ?_ _)); refine blk_far ?_ NB706_711.out _; (with_reducible repeat (first | refine blk_drewN ?_ _ | refine blk_drew ?_ | refine blk_alloc ?_ _)); refine blk_far ?_ NB706_711.out _; (with_reducible repeat (first | refine blk_drewN ?_ _ | refine blk_drew ?_ | refine blk_alloc ?_ _)); exact BK706.out) hb); have n2_ := Aside0.mk (blk_below (g := gb707) (o := .cells #[.int .i64 a1_0, .slice A1_1 l1_1.length c1_1] 30 (0, 0)) (by (with_reducible repeat (first | refine blk_drewN ?_ _ | refine blk_drew ?_ | refine blk_alloc ?_ _)); refine blk_far ?_ NB707_711.out _; (with_reducible repeat (first | refine blk_drewN ?_ _ | refine blk_drew ?_ | refine blk_alloc ?_ _)); refine blk_far ?_ NB707_711.out _; (with_reducible repeat (first | refine blk_drewN ?_ _ | refine blk_drew ?_ | refine blk_alloc ?_ _)); exact BK707.out) hb); have n3_ := Aside0.mk (blk_below (g := gb708) (o := .cells #[.int .i64 0, .slice none 0 0] 30 (0, 0)) (by (with_reducible repeat (first | refine blk_drewN ?_ _ | refine blk_drew ?_ | refine blk_alloc ?_ _)); refine blk_far ?_ NB708_711.out _; (with_reducible repeat (first | refine blk_drewN ?_ _ | refine blk_drew ?_ | refine blk_alloc ?_ _)); refine blk_far ?_ NB708_711.out _; (with_reducible repeat (first | refine blk_drewN ?_ _ | refine blk_drew ?_ | refine blk_alloc ?_ _)); exact BK708.out) hb); have n4_ := Aside0.mk (blk_below (g := gb709) (o := .cells #[.int .i64 (wrap64 (a0_0 * a1_0)), u710001] 30 (0, 0)) (by (with_reducible repeat (first | refine blk_drewN ?_ _ | refine blk_drew ?_ | refine blk_alloc ?_ _)); refine blk_far ?_ NB709_711.out _; (with_reducible repeat (first | refine blk_drewN ?_ _ | refine blk_drew ?_ | refine blk_alloc ?_ _)); refine blk_far ?_ NB709_711.out _; (with_reducible repeat (first | refine blk_drewN ?_ _ | refine blk_drew ?_ | refine blk_alloc ?_ _)); exact BK709.out) hb); have n5_ := Aside0.mk (blk_below (g := gb711) (o := .cells #[.int .i64 ((rd_T87 l0_1 x23_1).f0), .slice A710_1 ((rd_T87 l0_1 x23_1).f1).length c710_1] 87 (0, 0)) (by (with_reducible repeat (first | refine blk_drewN ?_ _ | refine blk_drew ?_ | refine blk_alloc ?_ _)); refine blk_put (cs := #[.int .i64 ((rd_T87 l0_1 x23_1).f0), .slice none 0 0]) ?_ 1 _ rfl; (with_reducible repeat (first | refine blk_drewN ?_ _ | refine blk_drew ?_ | refine blk_alloc ?_ _)); refine blk_put (cs := #[.int .i64 0, .slice none 0 0]) ?_ 0 _ rfl; (with_reducible repeat (first | refine blk_drewN ?_ _ | refine blk_drew ?_ | refine blk_alloc ?_ _)); exact BK711.out) hb); have n6_ := Aside0.mk (below_step (by repeat (first | (with_reducible first | exact HB.out | apply below_alloc | apply pw_below_drewN | apply below_drew1 | refine below_set ?_ GE706.out | refine below_set ?_ GE707.out | refine below_set ?_ GE708.out | refine below_set ?_ GE709.out | refine below_set ?_ GE711.out) | exact HB.out)) hb); have n7_ := Aside0.mk (hbox); have n8_ := Aside0.mk ((by rw [hg]; exact (below_size (by repeat (first | (with_reducible first | exact HB.out | apply below_alloc | apply pw_below_drewN | apply below_drew1 | refine below_set ?_ GE706.out | refine below_set ?_ GE707.out | refine below_set ?_ GE708.out | refine below_set ?_ GE709.out | refine below_set ?_ GE711.out) | exact HB.out))) : w.heap.size ≤ gb712)); have n9_ := Aside0.mk ((by rw [hg]; exact (below_size (by repeat (first | (with_reducible first | exact HB.out | apply below_alloc | apply pw_below_drewN | apply below_drew1 | refine below_set ?_ GE706.out | refine below_set ?_ GE707.out | refine below_set ?_ GE708.out | refine below_set ?_ GE709.out | refine below_set ?_ GE711.out) | exact HB.out))) : w.heap.size ≤ gb712)); have n10_ := Aside0.mk ((by rw [hg]; exact Nat.ne_of_lt (blk_lt (g := gb706) (o := .cells #[.int .i64 a0_0, .slice (some ad710) l0_1.length c0_1] 30 (0, 0)) (by (with_reducible repeat (first | refine blk_drewN ?_ _ | refine blk_drew ?_ | refine blk_alloc ?_ _)); refine blk_far ?_ NB706_711.out _; (with_reducible repeat (first | refine blk_drewN ?_ _ | refine blk_drew ?_ | refine blk_alloc ?_ _)); refine blk_far ?_ NB706_711.out _; (with_reducible repeat (first | refine blk_drewN ?_ _ | refine blk_drew ?_ | refine blk_alloc ?_ _)); exact BK706.out)) : gb706 ≠ gb712)); have n11_ := Aside0.mk ((by rw [hg]; exact Nat.ne_of_gt (blk_lt (g := gb706) (o := .cells #[.int .i64 a0_0, .slice (some ad710) l0_1.length c0_1] 30 (0, 0)) (by (with_reducible repeat (first | refine blk_drewN ?_ _ | refine blk_drew ?_ | refine blk_alloc ?_ _)); refine blk_far ?_ NB706_711.out _; (with_reducible repeat (first | refine blk_drewN ?_ _ | refine blk_drew ?_ | refine blk_alloc ?_ _)); refine blk_far ?_ NB706_711.out _; (with_reducible repeat (first | refine blk_drewN ?_ _ | refine blk_drew ?_ | refine blk_alloc ?_ _)); exact BK706.out)) : gb712 ≠ gb706)); have n12_ := Aside0.mk ((by rw [hg]; exact Nat.ne_of_lt (blk_lt (g := gb707) (o := .cells #[.int .i64 a1_0, .slice A1_1 l1_1.length c1_1] 30 (0, 0)) (by (with_reducible repeat (first | refine blk_drewN ?_ _ | refine blk_drew ?_ | refine blk_alloc ?_ _)); refine blk_far ?_ NB707_711.out _; (with_reducible repeat (first | refine blk_drewN ?_ _ | refine blk_drew ?_ | refine blk_alloc ?_ _)); refine blk_far ?_ NB707_711.out _; (with_reducible repeat (first | refine blk_drewN ?_ _ | refine blk_drew ?_ | refine blk_alloc ?_ _)); exact BK707.out)) : gb707 ≠ gb712)); have n13_ := Aside0.mk ((by rw [hg]; exact Nat.ne_of_gt (blk_lt (g := gb707) (o := .cells #[.int .i64 a1_0, .slice A1_1 l1_1.length c1_1] 30 (0, 0)) (by (with_reducible repeat (first | refine blk_drewN ?_ _ | refine blk_drew ?_ | refine blk_alloc ?_ _)); refine blk_far ?_ NB707_711.out _; (with_reducible repeat (first | refine blk_drewN ?_ _ | refine blk_drew ?_ | refine blk_alloc ?_ _)); refine blk_far ?_ NB707_711.out _; (with_reducible repeat (first | refine blk_drewN ?_ _ | refine blk_drew ?_ | refine blk_alloc ?_ _)); exact BK707.out)) : gb712 ≠ gb707)); have n14_ := Aside0.mk ((by rw [hg]; exact Nat.ne_of_lt (blk_lt (g := gb708) (o := .cells #[.int .i64 0, .slice none 0 0] 30 (0, 0)) (by (with_reducible repeat (first | refine blk_drewN ?_ _ | refine blk_drew ?_ | refine blk_alloc ?_ _)); refine blk_far ?_ NB708_711.out _; (with_reducible repeat (first | refine blk_drewN ?_ _ | refine blk_drew ?_ | refine blk_alloc ?_ _)); refine blk_far ?_ NB708_711.out _; (with_reducible repeat (first | refine blk_drewN ?_ _ | refine blk_drew ?_ | refine blk_alloc ?_ _)); exact BK708.out)) : gb708 ≠ gb712)); have n15_ := Aside0.mk ((by rw [hg]; exact Nat.ne_of_gt (blk_lt (g := gb708) (o := .cells #[.int .i64 0, .slice none 0 0] 30 (0, 0)) (by (with_reducible repeat (first | refine blk_drewN ?_ _ | refine blk_drew ?_ | refine blk_alloc ?_ _)); refine blk_far ?_ NB708_711.out _; (with_reducible repeat (first | refine blk_drewN ?_ _ | refine blk_drew ?_ | refine blk_alloc ?_ _)); refine blk_far ?_ NB708_711.out _; (with_reducible repeat (first | refine blk_drewN ?_ _ | refine blk_drew ?_ | refine blk_alloc ?_ _)); exact BK708.out)) : gb712 ≠ gb708)); have n16_ := Aside0.mk ((by rw [hg]; exact Nat.ne_of_lt (blk_lt (g := gb709) (o := .cells #[.int .i64 (wrap64 (a0_0 * a1_0)), u710001] 30 (0, 0)) (by (with_reducible repeat (first | refine blk_drewN ?_ _ | refine blk_drew ?_ | refine blk_alloc ?_ _)); refine blk_far ?_ NB709_711.out _; (with_reducible repeat (first | refine blk_drewN ?_ _ | refine blk_drew ?_ | refine blk_alloc ?_ _)); refine blk_far ?_ NB709_711.out _; (with_reducible repeat (first | refine blk_drewN ?_ _ | refine blk_drew ?_ | refine blk_alloc ?_ _)); exact BK709.out)) : gb709 ≠ gb712)); have n17_ := Aside0.mk ((by rw [hg]; exact Nat.ne_of_gt (blk_lt (g := gb709) (o := .cells #[.int .i64 (wrap64 (a0_0 * a1_0)), u710001] 30 (0, 0)) (by (with_reducible repeat (first | refine blk_drewN ?_ _ | refine blk_drew ?_ | refine blk_alloc ?_ _)); refine blk_far ?_ NB709_711.out _; (with_reducible repeat (first | refine blk_drewN ?_ _ | refine blk_drew ?_ | refine blk_alloc ?_ _)); refine blk_far ?_ NB709_711.out _; (with_reducible repeat (first | refine blk_drewN ?_ _ | refine blk_drew ?_ | refine blk_alloc ?_ _)); exact BK709.out)) : gb712 ≠ gb709)); have n18_ := Aside0.mk ((by rw [hg]; exact Nat.ne_of_lt (blk_lt (g := gb711) (o := .cells #[.int .i64 ((rd_T87 l0_1 x23_1).f0), .slice A710_1 ((rd_T87 l0_1 x23_1).f1).length c710_1] 87 (0, 0)) (by (with_reducible repeat (first | refine blk_drewN ?_ _ | refine blk_drew ?_ | refine blk_alloc ?_ _)); refine blk_put (cs := #[.int .i64 ((rd_T87 l0_1 x23_1).f0), .slice none 0 0]) ?_ 1 _ rfl; (with_reducible repeat (first | refine blk_drewN ?_ _ | refine blk_drew ?_ | refine blk_alloc ?_ _)); refine blk_put (cs := #[.int .i64 0, .slice none 0 0]) ?_ 0 _ rfl; (with_reducible repeat (first | refine blk_drewN ?_ _ | refine blk_drew ?_ | refine blk_alloc ?_ _)); exact BK711.out)) : gb711 ≠ gb712)); have n19_ := Aside0.mk ((by rw [hg]; exact Nat.ne_of_gt (blk_lt (g := gb711) (o := .cells #[.int .i64 ((rd_T87 l0_1 x23_1).f0), .slice A710_1 ((rd_T87 l0_1 x23_1).f1).length c710_1] 87 (0, 0)) (by (with_reducible repeat (first | refine blk_drewN ?_ _ | refine blk_drew ?_ | refine blk_alloc ?_ _)); refine blk_put (cs := #[.int .i64 ((rd_T87 l0_1 x23_1).f0), .slice none 0 0]) ?_ 1 _ rfl; (with_reducible repeat (first | refine blk_drewN ?_ _ | refine blk_drew ?_ | refine blk_alloc ?_ _)); refine blk_put (cs := #[.int .i64 0, .slice none 0 0]) ?_ 0 _ rfl; (with_reducible repeat (first | refine blk_drewN ?_ _ | refine blk_drew ?_ | refine blk_alloc ?_ _)); exact BK711.out)) : gb712 ≠ gb711)); clear HO_710001; clear BK706; clear BK707; clear BK708; clear BK709; clear BK711; clear HB; have HO_710001 := n0_; have BK706 := n1_; have BK707 := n2_; have BK708 := n3_; have BK709 := n4_; have BK711 := n5_; have HB := n6_; have BK712 := n7_; have GW712 := n8_; have GE712 := n9_; have NB706_712 := n10_; have NB712_706 := n11_; have NB707_712 := n12_; have NB712_707 := n13_; have NB708_712 := n14_; have NB712_708 := n15_; have NB709_712 := n16_; have NB712_709 := n17_; have NB711_712 := n18_; have NB712_711 := n19_; clear n0_ n1_ n2_ n3_ n4_ n5_ n6_ n7_ n8_ n9_ n10_ n11_ n12_ n13_ n14_ n15_ n16_ n17_ n18_ n19_; clear hb hbox hg; have hnb27 := NB712_706.out; have hnc27 := NB706_712.out; have hnb28 := NB712_707.out; have hnc28 := NB707_712.out; have hnb29 := NB712_708.out; have hnc29 := NB708_712.out; have hnb30 := NB712_709.out; have hnc30 := NB709_712.out; have hnb31 := NB712_711.out; have hnc31 := NB711_712.out; have hcz32_0 : w26.cell? ⟨gb712, 0, none⟩ = some (.int .i64 0) := (blk_cell BK712.out 0).trans rfl; have hcz32_1 : w26.cell? ⟨gb712, 1, none⟩ = some (.slice none 0 0) := (blk_cell BK712.out 1).trans rfl; have hfz32_0 := blk_frozen BK712.out 0; have hfz32_1 := blk_frozen BK712.out 1))
            go_loopg [9] k1 (fun kq v9 w' => ∃ (x9_2 : Int) (x713001_2 : List Int) (u713001 : Value), v9 = .int .i64 x9_2 ∧ Aside0 (impl_product.l1 kq x23_1 x9_2 l0_1 (l0_1.length : Int) x23_1 a0_0 l0_1 a1_0 l1_1 (wrap64 (a0_0 * a1_0)) x710001_1 ((rd_T87 l0_1 x23_1).f0) ((rd_T87 l0_1 x23_1).f1) ((rd_T87 l0_1 x23_1).f0) x713001_2 = some (r1, r2)) ∧ Aside0 (kq ≤ k1) ∧ Aside0 (Kd.S k87 87 w' w.heap.size (fun k_ => some k_ ≠ (u713001 : Value).ownBlock ∧ k_ ≠ gb711 ∧ k_ ≠ gb712) u710001 x710001_1) ∧ Aside0 (Kd.R (Kd.int .i64) 3 w' w.heap.size (fun _ => True) u713001 x713001_2) ∧ Aside0 (w'.heap[gb706]? = some (.cells #[.int .i64 a0_0, (.slice (some ad710) l0_1.length c0_1)] 30 (0, 0))) ∧ Aside0 (w'.heap[gb707]? = some (.cells #[.int .i64 a1_0, (.slice A1_1 l1_1.length c1_1)] 30 (0, 0))) ∧ Aside0 (w'.heap[gb708]? = some (.cells #[.int .i64 0, (.slice none 0 0)] 30 (0, 0))) ∧ Aside0 (w'.heap[gb709]? = some (.cells #[.int .i64 (wrap64 (a0_0 * a1_0)), u710001] 30 (0, 0))) ∧ Aside0 (w'.heap[gb711]? = some (.cells #[.int .i64 ((rd_T87 l0_1 x23_1).f0), (.slice A710_1 ((rd_T87 l0_1 x23_1).f1).length c710_1)] 87 (0, 0))) ∧ Aside0 (w'.heap[gb712]? = some (.cells #[.int .i64 ((rd_T87 l0_1 x23_1).f0), u713001] 87 (0, 0))) ∧ Aside0 (Below w.heap.size w w'))
            case atStart => exact ⟨(0), (([] : List Int)), (.slice none 0 0), (by first | rfl | (simp; done) | (simp [*]; done)), H', ⟨Nat.le_refl _⟩, ⟨by (with_reducible repeat (first | apply Kd.S_alloc | apply Kd.S_drewN | apply Kd.S_drew)); exact Kd.S_mono (Kd.S_far (p := ⟨gb712, 1, none⟩) (Kd.S_far (p := ⟨gb712, 0, none⟩) (Kd.S_mono HO_710001.out (fun k_ hk => (⟨hk, hk.2⟩ : _ ∧ k_ ≠ gb712))) (fun _ hk => hk.2) (.int .i64 ((rd_T87 l0_1 x23_1).f0))) (fun _ hk => hk.2) (.slice none 0 0)) (fun _ hk => ⟨(by simp [Value.ownBlock]), ⟨hk.1.1.2, hk.1.2⟩⟩)⟩, ⟨by first | exact Kd.R_nil _ _ _ _ _ | exact Kd.N_nil _ _ _ _ _ | exact Kd.V_nil _ _ _ _ _ | exact Kd.Q_nil _ _ _ _ _ | exact Kd.S_nil _ _ _ _ _⟩, ⟨by (with_reducible repeat (first | refine blk_drewN ?_ _ | refine blk_drew ?_ | refine blk_alloc ?_ _)); refine blk_far ?_ NB706_712.out _; (with_reducible repeat (first | refine blk_drewN ?_ _ | refine blk_drew ?_ | refine blk_alloc ?_ _)); refine blk_far ?_ NB706_712.out _; (with_reducible repeat (first | refine blk_drewN ?_ _ | refine blk_drew ?_ | refine blk_alloc ?_ _)); exact BK706.out⟩, ⟨by (with_reducible repeat (first | refine blk_drewN ?_ _ | refine blk_drew ?_ | refine blk_alloc ?_ _)); refine blk_far ?_ NB707_712.out _; (with_reducible repeat (first | refine blk_drewN ?_ _ | refine blk_drew ?_ | refine blk_alloc ?_ _)); refine blk_far ?_ NB707_712.out _; (with_reducible repeat (first | refine blk_drewN ?_ _ | refine blk_drew ?_ | refine blk_alloc ?_ _)); exact BK707.out⟩, ⟨by (with_reducible repeat (first | refine blk_drewN ?_ _ | refine blk_drew ?_ | refine blk_alloc ?_ _)); refine blk_far ?_ NB708_712.out _; (with_reducible repeat (first | refine blk_drewN ?_ _ | refine blk_drew ?_ | refine blk_alloc ?_ _)); refine blk_far ?_ NB708_712.out _; (with_reducible repeat (first | refine blk_drewN ?_ _ | refine blk_drew ?_ | refine blk_alloc ?_ _)); exact BK708.out⟩, ⟨by (with_reducible repeat (first | refine blk_drewN ?_ _ | refine blk_drew ?_ | refine blk_alloc ?_ _)); refine blk_far ?_ NB709_712.out _; (with_reducible repeat (first | refine blk_drewN ?_ _ | refine blk_drew ?_ | refine blk_alloc ?_ _)); refine blk_far ?_ NB709_712.out _; (with_reducible repeat (first | refine blk_drewN ?_ _ | refine blk_drew ?_ | refine blk_alloc ?_ _)); exact BK709.out⟩, ⟨by (with_reducible repeat (first | refine blk_drewN ?_ _ | refine blk_drew ?_ | refine blk_alloc ?_ _)); refine blk_far ?_ NB711_712.out _; (with_reducible repeat (first | refine blk_drewN ?_ _ | refine blk_drew ?_ | refine blk_alloc ?_ _)); refine blk_far ?_ NB711_712.out _; (with_reducible repeat (first | refine blk_drewN ?_ _ | refine blk_drew ?_ | refine blk_alloc ?_ _)); exact BK711.out⟩, ⟨by (with_reducible repeat (first | refine blk_drewN ?_ _ | refine blk_drew ?_ | refine blk_alloc ?_ _)); refine blk_put (cs := #[.int .i64 ((rd_T87 l0_1 x23_1).f0), .slice none 0 0]) ?_ 1 _ rfl; (with_reducible repeat (first | refine blk_drewN ?_ _ | refine blk_drew ?_ | refine blk_alloc ?_ _)); refine blk_put (cs := #[.int .i64 0, .slice none 0 0]) ?_ 0 _ rfl; (with_reducible repeat (first | refine blk_drewN ?_ _ | refine blk_drew ?_ | refine blk_alloc ?_ _)); exact BK712.out⟩, ⟨by repeat (first | (with_reducible first | exact HB.out | apply below_alloc | apply pw_below_drewN | apply below_drew1 | refine below_set ?_ GE706.out | refine below_set ?_ GE707.out | refine below_set ?_ GE708.out | refine below_set ?_ GE709.out | refine below_set ?_ GE711.out | refine below_set ?_ GE712.out) | exact HB.out)⟩⟩
            case round =>
              clear H'
              try clear c1
              try clear c2
              try clear p2
              try clear c3
              try clear c6
              try clear p6
              try clear c7
              try clear p7
              try clear q7
              try clear hx7
              try clear c9
              try clear c10
              try clear c12
              try clear c13
              try clear c14
              try clear c17
              try clear c17b0
              try clear c18
              try clear c18b0
              try clear c19
              try clear c19b0
              try clear c21
              try clear c22
              try clear c23
              try clear c24
              try clear c27
              try clear c28
              try clear c29
              try clear c30
              try clear c31
              try clear hcz10_0
              try clear hcz10_1
              try clear hcz15_0
              try clear hcz15_1
              try clear hcz16_0
              try clear hcz16_1
              try clear hcz25_0
              try clear hcz25_1
              try clear hcz32_0
              try clear hcz32_1
              try clear hcz8_0
              try clear hcz8_1
              try clear hfz10_0
              try clear hfz10_1
              try clear hfz15_0
              try clear hfz15_1
              try clear hfz16_0
              try clear hfz16_1
              try clear hfz25_0
              try clear hfz25_1
              try clear hfz32_0
              try clear hfz32_1
              try clear hfz8_0
              try clear hfz8_1
              try clear hx710_0
              try clear hx710_1
              try clear p2
              try clear p6
              try clear p710
              try clear q710
              obtain ⟨x9_2, x713001_2, u713001, rfl, HA, HK2, HO_710001, HO_713001, BK706, BK707, BK708, BK709, BK711, BK712, HB⟩ := hrel
              cases gk with
              | zero => exact absurd HA.out (by simp [impl_product.l1])
              | succ k2 =>
                have H := HA.out
                clear HA
                simp only [impl_product.l1] at H
                replace H := Option.bind_eq_some_iff.mp H
                obtain ⟨t713, A330, H⟩ := H
                replace H : (if x9_2 < t713 then ((impl_argsAt.f k2 x9_2 ((rd_T87 l0_1 x23_1).f0) (wrap64 (a0_0 * a1_0))).bind fun t717 => (impl_product.l2 k2 x23_1 x9_2 0 0 l0_1 (l0_1.length : Int) x23_1 t717 (t717.length : Int) 0 a0_0 l0_1 a1_0 l1_1 (wrap64 (a0_0 * a1_0)) x710001_1 ((rd_T87 l0_1 x23_1).f0) ((rd_T87 l0_1 x23_1).f1) ((rd_T87 l0_1 x23_1).f0) x713001_2)) else (if x710001_1.length < 4398046511104 then (impl_product.l0 k2 l0_1 (l0_1.length : Int) (wrap64 (x23_1 + 1)) a0_0 l0_1 a1_0 l1_1 (wrap64 (a0_0 * a1_0)) (x710001_1 ++ [(⟨((rd_T87 l0_1 x23_1).f0), x713001_2⟩ : S87)])) else (none))) = some (r1, r2) := H
                have A33 := Aside0.mk A330
                clear A330
                by_cases c34 : x9_2 < t713
                · rw [if_pos c34] at H
                  have c34b0 : decide (x9_2 < t713) = true := decide_eq_true c34
                  clear c34
                  replace H := Option.bind_eq_some_iff.mp H
                  obtain ⟨t717, A350, H⟩ := H
                  replace H : (impl_product.l2 k2 x23_1 x9_2 0 0 l0_1 (l0_1.length : Int) x23_1 t717 (t717.length : Int) 0 a0_0 l0_1 a1_0 l1_1 (wrap64 (a0_0 * a1_0)) x710001_1 ((rd_T87 l0_1 x23_1).f0) ((rd_T87 l0_1 x23_1).f1) ((rd_T87 l0_1 x23_1).f0) x713001_2) = some (r1, r2) := H
                  have A35 := Aside0.mk A350
                  clear A350
                  have H' := Aside0.mk H
                  clear H
                  have hnb36 := NB709_706.out
                  have hnc36 := NB706_709.out
                  have hnb37 := NB709_707.out
                  have hnc37 := NB707_709.out
                  have hnb38 := NB709_708.out
                  have hnc38 := NB708_709.out
                  have hnb39 := NB709_711.out
                  have hnc39 := NB711_709.out
                  have hnb40 := NB709_712.out
                  have hnc40 := NB712_709.out
                  have hcz41_0 : wr.cell? ⟨gb709, 0, none⟩ = some (.int .i64 (wrap64 (a0_0 * a1_0))) := (blk_cell BK709.out 0).trans rfl
                  have hcz41_1 : wr.cell? ⟨gb709, 1, none⟩ = some (u710001) := (blk_cell BK709.out 1).trans rfl
                  have hfz41_0 := blk_frozen BK709.out 0
                  have hfz41_1 := blk_frozen BK709.out 1
                  have hnb42 := NB711_706.out
                  have hnc42 := NB706_711.out
                  have hnb43 := NB711_707.out
                  have hnc43 := NB707_711.out
                  have hnb44 := NB711_708.out
                  have hnc44 := NB708_711.out
                  have hnb45 := NB711_712.out
                  have hnc45 := NB712_711.out
                  have hcz46_0 : wr.cell? ⟨gb711, 0, none⟩ = some (.int .i64 ((rd_T87 l0_1 x23_1).f0)) := (blk_cell BK711.out 0).trans rfl
                  have hcz46_1 : wr.cell? ⟨gb711, 1, none⟩ = some (.slice A710_1 ((rd_T87 l0_1 x23_1).f1).length c710_1) := (blk_cell BK711.out 1).trans rfl
                  have hfz46_0 := blk_frozen BK711.out 0
                  have hfz46_1 := blk_frozen BK711.out 1
                  go_wp2_with (first | ((with_reducible refine gate_callee (f := 102) rfl ?_); refine goesL_ (some 36) rfl rfl Try.func102 (by kernel_rfl) rfl #[.int .i64 (wrap64 (a0_0 * a1_0)), .int .i64 ((rd_T87 l0_1 x23_1).f0)] rfl (by (try simp only [List.map_toArray, List.map_cons, List.map_nil]); first | done | rfl | (simp only [List.length_drop, List.length_take]; rfl)) ?_; (with_reducible refine (impl_power.calls k2 (wrap64 (a0_0 * a1_0)) ((rd_T87 l0_1 x23_1).f0) t713 _ A33.out).mono ?_); rintro e w' ⟨rfl, ⟨nd, rfl⟩⟩; refine ⟨_, rfl, ?_⟩) | ((with_reducible refine gate_callee (f := 123) rfl ?_); refine goesL_ (some 45) rfl rfl Try.func123 (by kernel_rfl) rfl #[.int .i64 x9_2, .int .i64 ((rd_T87 l0_1 x23_1).f0), .int .i64 (wrap64 (a0_0 * a1_0))] rfl (by (try simp only [List.map_toArray, List.map_cons, List.map_nil]); first | done | rfl | (simp only [List.length_drop, List.length_take]; rfl)) ?_; (with_reducible refine (impl_argsAt.calls k2 x9_2 ((rd_T87 l0_1 x23_1).f0) (wrap64 (a0_0 * a1_0)) t717 _ A35.out).mono ?_); rintro e w47 ⟨v718, rfl, ho0, hb⟩; refine ⟨_, rfl, ?_⟩; have n0_ := Aside0.mk (Kd.S_elder' (by (with_reducible repeat (first | apply Kd.S_alloc | apply Kd.S_drewN | apply Kd.S_drew)); exact HO_710001.out) (Kd.R_base ho0) hb); have n1_ := Aside0.mk (Kd.R_elder' (by (with_reducible repeat (first | apply Kd.R_alloc | apply Kd.R_drewN | apply Kd.R_drew)); exact HO_713001.out) (Kd.R_base ho0) hb); have n2_ := Aside0.mk (Kd.R_lower (Kd.R_new' ho0 (Kd.R_lt (by (with_reducible repeat (first | apply Kd.R_alloc | apply Kd.R_drewN | apply Kd.R_drew)); exact HO_713001.out))) (below_size (by repeat (first | (with_reducible first | exact HB.out | apply below_alloc | apply pw_below_drewN | apply below_drew1 | refine below_set ?_ GE706.out | refine below_set ?_ GE707.out | refine below_set ?_ GE708.out | refine below_set ?_ GE709.out | refine below_set ?_ GE711.out | refine below_set ?_ GE712.out) | exact HB.out)))); have n3_ := Aside0.mk (blk_below (g := gb706) (o := .cells #[.int .i64 a0_0, .slice (some ad710) l0_1.length c0_1] 30 (0, 0)) (by (with_reducible repeat (first | refine blk_drewN ?_ _ | refine blk_drew ?_ | refine blk_alloc ?_ _)); exact BK706.out) hb); have n4_ := Aside0.mk (blk_below (g := gb707) (o := .cells #[.int .i64 a1_0, .slice A1_1 l1_1.length c1_1] 30 (0, 0)) (by (with_reducible repeat (first | refine blk_drewN ?_ _ | refine blk_drew ?_ | refine blk_alloc ?_ _)); exact BK707.out) hb); have n5_ := Aside0.mk (blk_below (g := gb708) (o := .cells #[.int .i64 0, .slice none 0 0] 30 (0, 0)) (by (with_reducible repeat (first | refine blk_drewN ?_ _ | refine blk_drew ?_ | refine blk_alloc ?_ _)); exact BK708.out) hb); have n6_ := Aside0.mk (blk_below (g := gb709) (o := .cells #[.int .i64 (wrap64 (a0_0 * a1_0)), u710001] 30 (0, 0)) (by (with_reducible repeat (first | refine blk_drewN ?_ _ | refine blk_drew ?_ | refine blk_alloc ?_ _)); exact BK709.out) hb); have n7_ := Aside0.mk (blk_below (g := gb711) (o := .cells #[.int .i64 ((rd_T87 l0_1 x23_1).f0), .slice A710_1 ((rd_T87 l0_1 x23_1).f1).length c710_1] 87 (0, 0)) (by (with_reducible repeat (first | refine blk_drewN ?_ _ | refine blk_drew ?_ | refine blk_alloc ?_ _)); exact BK711.out) hb); have n8_ := Aside0.mk (blk_below (g := gb712) (o := .cells #[.int .i64 ((rd_T87 l0_1 x23_1).f0), u713001] 87 (0, 0)) (by (with_reducible repeat (first | refine blk_drewN ?_ _ | refine blk_drew ?_ | refine blk_alloc ?_ _)); exact BK712.out) hb); have n9_ := Aside0.mk (below_step (by repeat (first | (with_reducible first | exact HB.out | apply below_alloc | apply pw_below_drewN | apply below_drew1 | refine below_set ?_ GE706.out | refine below_set ?_ GE707.out | refine below_set ?_ GE708.out | refine below_set ?_ GE709.out | refine below_set ?_ GE711.out | refine below_set ?_ GE712.out) | exact HB.out)) hb); clear HO_710001; clear HO_713001; clear BK706; clear BK707; clear BK708; clear BK709; clear BK711; clear BK712; clear HB; have HO_710001 := n0_; have HO_713001 := n1_; have HO719 := n2_; have BK706 := n3_; have BK707 := n4_; have BK708 := n5_; have BK709 := n6_; have BK711 := n7_; have BK712 := n8_; have HB := n9_; clear n0_ n1_ n2_ n3_ n4_ n5_ n6_ n7_ n8_ n9_; (try clear hb); (try clear hb2); (try clear hk); (try clear hi); (try clear ho0); obtain ⟨Ao48, co48, eo48⟩ := Kd.R_slice HO719.out; subst eo48))
                  go_loopg [10, 11, 47] k2 (fun kq v10 v11 v47 w' => ∃ (x10_3 : Int) (x11_3 : Int) (x47_3 : Int), v10 = .int .i64 x10_3 ∧ v11 = .int .i64 x11_3 ∧ v47 = .int .i64 x47_3 ∧ Aside0 (impl_product.l2 kq x23_1 x9_2 x10_3 x11_3 l0_1 (l0_1.length : Int) x23_1 t717 (t717.length : Int) x47_3 a0_0 l0_1 a1_0 l1_1 (wrap64 (a0_0 * a1_0)) x710001_1 ((rd_T87 l0_1 x23_1).f0) ((rd_T87 l0_1 x23_1).f1) ((rd_T87 l0_1 x23_1).f0) x713001_2 = some (r1, r2)) ∧ Aside0 (kq ≤ k2) ∧ Aside0 (Kd.R (Kd.int .i64) 3 w' w.heap.size (fun k_ => some k_ ≠ (u713001 : Value).ownBlock) (.slice Ao48 t717.length co48) t717) ∧ Aside0 (Kd.S k87 87 w' w.heap.size (fun k_ => some k_ ≠ ((.slice Ao48 t717.length co48) : Value).ownBlock ∧ some k_ ≠ (u713001 : Value).ownBlock ∧ k_ ≠ gb711 ∧ k_ ≠ gb712) u710001 x710001_1) ∧ Aside0 (Kd.R (Kd.int .i64) 3 w' w.heap.size (fun k_ => some k_ ≠ ((.slice Ao48 t717.length co48) : Value).ownBlock) u713001 x713001_2) ∧ Aside0 (w'.heap[gb706]? = some (.cells #[.int .i64 a0_0, (.slice (some ad710) l0_1.length c0_1)] 30 (0, 0))) ∧ Aside0 (w'.heap[gb707]? = some (.cells #[.int .i64 a1_0, (.slice A1_1 l1_1.length c1_1)] 30 (0, 0))) ∧ Aside0 (w'.heap[gb708]? = some (.cells #[.int .i64 0, (.slice none 0 0)] 30 (0, 0))) ∧ Aside0 (w'.heap[gb709]? = some (.cells #[.int .i64 (wrap64 (a0_0 * a1_0)), u710001] 30 (0, 0))) ∧ Aside0 (w'.heap[gb711]? = some (.cells #[.int .i64 ((rd_T87 l0_1 x23_1).f0), (.slice A710_1 ((rd_T87 l0_1 x23_1).f1).length c710_1)] 87 (0, 0))) ∧ Aside0 (w'.heap[gb712]? = some (.cells #[.int .i64 ((rd_T87 l0_1 x23_1).f0), u713001] 87 (0, 0))) ∧ Aside0 (Below w.heap.size w w'))
                  case atStart => exact ⟨(0), (0), (0), (by first | rfl | (simp; done) | (simp [*]; done)), (by first | rfl | (simp; done) | (simp [*]; done)), (by first | rfl | (simp; done) | (simp [*]; done)), H', ⟨Nat.le_refl _⟩, ⟨by (with_reducible repeat (first | apply Kd.R_alloc | apply Kd.R_drewN | apply Kd.R_drew)); exact Kd.R_mono HO719.out (fun _ hk => hk.2)⟩, ⟨by (with_reducible repeat (first | apply Kd.S_alloc | apply Kd.S_drewN | apply Kd.S_drew)); exact Kd.S_mono HO_710001.out (fun _ hk => ⟨hk.2, ⟨hk.1.1, ⟨hk.1.2.1, hk.1.2.2⟩⟩⟩)⟩, ⟨by (with_reducible repeat (first | apply Kd.R_alloc | apply Kd.R_drewN | apply Kd.R_drew)); exact Kd.R_mono HO_713001.out (fun _ hk => hk.2)⟩, ⟨by (with_reducible repeat (first | refine blk_drewN ?_ _ | refine blk_drew ?_ | refine blk_alloc ?_ _)); exact BK706.out⟩, ⟨by (with_reducible repeat (first | refine blk_drewN ?_ _ | refine blk_drew ?_ | refine blk_alloc ?_ _)); exact BK707.out⟩, ⟨by (with_reducible repeat (first | refine blk_drewN ?_ _ | refine blk_drew ?_ | refine blk_alloc ?_ _)); exact BK708.out⟩, ⟨by (with_reducible repeat (first | refine blk_drewN ?_ _ | refine blk_drew ?_ | refine blk_alloc ?_ _)); exact BK709.out⟩, ⟨by (with_reducible repeat (first | refine blk_drewN ?_ _ | refine blk_drew ?_ | refine blk_alloc ?_ _)); exact BK711.out⟩, ⟨by (with_reducible repeat (first | refine blk_drewN ?_ _ | refine blk_drew ?_ | refine blk_alloc ?_ _)); exact BK712.out⟩, ⟨by repeat (first | (with_reducible first | exact HB.out | apply below_alloc | apply pw_below_drewN | apply below_drew1 | refine below_set ?_ GE706.out | refine below_set ?_ GE707.out | refine below_set ?_ GE708.out | refine below_set ?_ GE709.out | refine below_set ?_ GE711.out | refine below_set ?_ GE712.out) | exact HB.out)⟩⟩
                  case round =>
                    clear H'
                    try clear c1
                    try clear c2
                    try clear p2
                    try clear c3
                    try clear c4
                    try clear c6
                    try clear p6
                    try clear c7
                    try clear p7
                    try clear q7
                    try clear hx7
                    try clear c9
                    try clear c10
                    try clear c12
                    try clear c13
                    try clear c14
                    try clear c17
                    try clear c17b0
                    try clear c18
                    try clear c18b0
                    try clear c19
                    try clear c19b0
                    try clear c21
                    try clear c22
                    try clear c23
                    try clear c24
                    try clear c27
                    try clear c28
                    try clear c29
                    try clear c30
                    try clear c31
                    try clear c34
                    try clear c34b0
                    try clear c36
                    try clear c37
                    try clear c38
                    try clear c39
                    try clear c40
                    try clear c42
                    try clear c43
                    try clear c44
                    try clear c45
                    try clear hcz10_0
                    try clear hcz10_1
                    try clear hcz15_0
                    try clear hcz15_1
                    try clear hcz16_0
                    try clear hcz16_1
                    try clear hcz25_0
                    try clear hcz25_1
                    try clear hcz32_0
                    try clear hcz32_1
                    try clear hcz41_0
                    try clear hcz41_1
                    try clear hcz46_0
                    try clear hcz46_1
                    try clear hcz8_0
                    try clear hcz8_1
                    try clear hfz10_0
                    try clear hfz10_1
                    try clear hfz15_0
                    try clear hfz15_1
                    try clear hfz16_0
                    try clear hfz16_1
                    try clear hfz25_0
                    try clear hfz25_1
                    try clear hfz32_0
                    try clear hfz32_1
                    try clear hfz41_0
                    try clear hfz41_1
                    try clear hfz46_0
                    try clear hfz46_1
                    try clear hfz8_0
                    try clear hfz8_1
                    try clear hx710_0
                    try clear hx710_1
                    try clear p2
                    try clear p6
                    try clear p7
                    try clear p710
                    try clear q7
                    try clear q710
                    obtain ⟨x10_3, x11_3, x47_3, rfl, rfl, rfl, HA, HK3, HO_45, HO_710001, HO_713001, BK706, BK707, BK708, BK709, BK711, BK712, HB⟩ := hrel
                    cases gk with
                    | zero => exact absurd HA.out (by simp [impl_product.l2])
                    | succ k3 =>
                      have H := HA.out
                      clear HA
                      simp only [impl_product.l2] at H
                      by_cases c49 : x47_3 < (t717.length : Int)
                      · rw [if_pos c49] at H
                        have c49b0 : decide (x47_3 < (t717.length : Int)) = true := decide_eq_true c49
                        clear c49
                        by_cases c50 : 0 ≤ x47_3
                        · rw [if_pos c50] at H
                          have c50b0 : decide (0 ≤ x47_3) = true := decide_eq_true c50
                          clear c50
                          by_cases c51 : x47_3 < (t717.length : Int)
                          · rw [if_pos c51] at H
                            have c51b0 : decide (x47_3 < (t717.length : Int)) = true := decide_eq_true c51
                            clear c51
                            by_cases c52 : a1_0 = 0
                            · rw [if_pos c52] at H
                              exact absurd H (by simp)
                            · rw [if_neg c52] at H
                              have c52b0 : (a1_0 == 0) = false := beq_eq_false_iff_ne.mpr c52
                              have c52b1 : (a1_0 != 0) = true := bne_iff_ne.mpr c52
                              have H' := Aside0.mk H
                              clear H
                              have p720 : 0 ≤ (x47_3 : Int) := of_decide_eq_true (by first | (with_reducible assumption) | assumption)
                              have q720 : x47_3 < (t717.length : Int) := of_decide_eq_true (by first | (with_reducible assumption) | assumption)
                              obtain ⟨ad720, e720, hx720_0⟩ := Kd.at_int (Kd.R_reads' HO_45.out).2.2 x47_3 p720 q720
                              cases e720
                              replace p720 := eq_true p720
                              replace q720 := eq_true q720
                              try go_wp2
                              have n0_ := Aside0.mk (Kd.R_drew HO_45.out)
                              have n1_ := Aside0.mk (Kd.S_drew HO_710001.out)
                              have n2_ := Aside0.mk (Kd.R_drew HO_713001.out)
                              have n3_ := Aside0.mk (blk_drew BK706.out)
                              have n4_ := Aside0.mk (blk_drew BK707.out)
                              have n5_ := Aside0.mk (blk_drew BK708.out)
                              have n6_ := Aside0.mk (blk_drew BK709.out)
                              have n7_ := Aside0.mk (blk_drew BK711.out)
                              have n8_ := Aside0.mk (blk_drew BK712.out)
                              have n9_ := Aside0.mk (below_drew1 HB.out)
                              clear HO_45
                              clear HO_710001
                              clear HO_713001
                              clear BK706
                              clear BK707
                              clear BK708
                              clear BK709
                              clear BK711
                              clear BK712
                              clear HB
                              have HO_45 := n0_
                              have HO_710001 := n1_
                              have HO_713001 := n2_
                              have BK706 := n3_
                              have BK707 := n4_
                              have BK708 := n5_
                              have BK709 := n6_
                              have BK711 := n7_
                              have BK712 := n8_
                              have HB := n9_
                              clear n0_ n1_ n2_ n3_ n4_ n5_ n6_ n7_ n8_ n9_
                              refine start_ (n := 20) (S := fun w' => w'.cell? ⟨gb706, 0, none⟩ = some (.int .i64 a0_0) ∧ w'.cell? ⟨gb706, 1, none⟩ = some (.slice (some ad710) l0_1.length c0_1) ∧ w'.cell? ⟨gb707, 0, none⟩ = some (.int .i64 a1_0) ∧ w'.cell? ⟨gb707, 1, none⟩ = some (.slice A1_1 l1_1.length c1_1)) (ds := []) #[false, false, false, false, false, false, false, false, false, false, false, false, false, false, false, false, false, false, false, false] (by kernel_rfl) rfl rfl ⟨(blk_cell BK706.out 0).trans rfl, (blk_cell BK706.out 1).trans rfl, (blk_cell BK707.out 0).trans rfl, (blk_cell BK707.out 1).trans rfl⟩ (fun hHeld => ?_); refine with_tabW impl_product.tab13 impl_product.bits13 (fun HT_ HW_ => ?_)
                              generalize wr.drew = w53 at HO_45 HO_710001 HO_713001 BK706 BK707 BK708 BK709 BK711 BK712 HB hHeld ⊢
                              refine pure_ (i := 0) (N := some 51) (v := ?_) (a' := ?_) #[true, false, false, false, false, false, false, false, false, false, false, false, false, false, false, false, false, false, false, false] rfl rfl (any_of HT_.out (by kernel_rfl)) (fun _ _ _ h => h) (Or.inl ⟨by rfl, ?_⟩) ?_ ?_
                              rotate_left
                              · intro w'
                                go_simp
                                with_reducible rfl
                              rotate_left
                              · simp only [Act.put, List.setIfInBounds_toArray, List.set_cons_zero, List.set_cons_succ, i64_w, i32_w]
                                rfl
                              refine pure_ (i := 1) (N := some 52) (v := ?_) (a' := ?_) #[true, true, false, false, false, false, false, false, false, false, false, false, false, false, false, false, false, false, false, false] rfl rfl (any_of HT_.out (by kernel_rfl)) (fun _ _ _ h => h) (Or.inl ⟨by rfl, ?_⟩) ?_ ?_
                              rotate_left
                              · intro w'
                                go_simp
                                with_reducible rfl
                              rotate_left
                              · simp only [Act.put, List.setIfInBounds_toArray, List.set_cons_zero, List.set_cons_succ, i64_w, i32_w]
                                rfl
                              refine pure_ (i := 4) (N := some 55) (v := ?_) (a' := ?_) #[true, true, false, false, true, false, false, false, false, false, false, false, false, false, false, false, false, false, false, false] rfl rfl (any_of HT_.out (by kernel_rfl)) (fun _ _ _ h => h) (Or.inl ⟨by rfl, ?_⟩) ?_ ?_
                              rotate_left
                              · intro w'
                                go_simp
                                with_reducible rfl
                              rotate_left
                              · simp only [Act.put, List.setIfInBounds_toArray, List.set_cons_zero, List.set_cons_succ, i64_w, i32_w]
                                rfl
                              refine pure_ (i := 5) (N := some 56) (v := ?_) (a' := ?_) #[true, true, false, false, true, true, false, false, false, false, false, false, false, false, false, false, false, false, false, false] rfl rfl (any_of HT_.out (by kernel_rfl)) (fun _ _ _ h => h) (Or.inl ⟨by rfl, ?_⟩) ?_ ?_
                              rotate_left
                              · intro w'
                                go_simp
                                with_reducible rfl
                              rotate_left
                              · simp only [Act.put, List.setIfInBounds_toArray, List.set_cons_zero, List.set_cons_succ, i64_w, i32_w]
                                rfl
                              refine pure_ (i := 9) (N := some 60) (v := ?_) (a' := ?_) #[true, true, false, false, true, true, false, false, false, true, false, false, false, false, false, false, false, false, false, false] rfl rfl (any_of HT_.out (by kernel_rfl)) (fun _ _ _ h => h) (Or.inl ⟨by rfl, ?_⟩) ?_ ?_
                              rotate_left
                              · intro w'
                                go_simp
                                with_reducible rfl
                              rotate_left
                              · simp only [Act.put, List.setIfInBounds_toArray, List.set_cons_zero, List.set_cons_succ, i64_w, i32_w]
                                rfl
                              refine pure_ (i := 10) (N := some 61) (v := ?_) (a' := ?_) #[true, true, false, false, true, true, false, false, false, true, true, false, false, false, false, false, false, false, false, false] rfl rfl (any_of HT_.out (by kernel_rfl)) (fun _ _ _ h => h) (Or.inl ⟨by rfl, ?_⟩) ?_ ?_
                              rotate_left
                              · intro w'
                                go_simp
                                with_reducible rfl
                              rotate_left
                              · simp only [Act.put, List.setIfInBounds_toArray, List.set_cons_zero, List.set_cons_succ, i64_w, i32_w]
                                rfl
                              refine pure_ (i := 13) (N := some 64) (v := ?_) (a' := ?_) #[true, true, false, false, true, true, false, false, false, true, true, false, false, true, false, false, false, false, false, false] rfl rfl (any_of HT_.out (by kernel_rfl)) (fun _ _ _ h => h) (Or.inl ⟨by rfl, ?_⟩) ?_ ?_
                              rotate_left
                              · intro w'
                                go_simp
                                with_reducible rfl
                              rotate_left
                              · simp only [Act.put, List.setIfInBounds_toArray, List.set_cons_zero, List.set_cons_succ, i64_w, i32_w]
                                rfl
                              refine pure_ (i := 14) (N := some 65) (v := ?_) (a' := ?_) #[true, true, false, false, true, true, false, false, false, true, true, false, false, true, true, false, false, false, false, false] rfl rfl (any_of HT_.out (by kernel_rfl)) (fun _ _ _ h => h) (Or.inl ⟨by rfl, ?_⟩) ?_ ?_
                              rotate_left
                              · intro w'
                                go_simp
                                with_reducible rfl
                              rotate_left
                              · simp only [Act.put, List.setIfInBounds_toArray, List.set_cons_zero, List.set_cons_succ, i64_w, i32_w]
                                rfl
                              refine take_ (i := 2) (N := some 53) (v := ?_) (a' := ?_) #[true, true, true, false, true, true, false, false, false, true, true, false, false, true, true, false, false, false, false, false] rfl rfl (take_ofW HT_.out HW_.out (by kernel_rfl)) (fun _ _ _ h => h) (Or.inl ⟨by rfl, ?_⟩) hHeld ?_ ?_
                              rotate_left
                              · rintro w' ⟨s0, s1, s2, s3⟩
                                go_simp
                                with_reducible rfl
                              rotate_left
                              · simp only [Act.put, List.setIfInBounds_toArray, List.set_cons_zero, List.set_cons_succ, i64_w, i32_w]
                                rfl
                              refine pure_ (i := 3) (N := some 54) (v := ?_) (a' := ?_) #[true, true, true, true, true, true, false, false, false, true, true, false, false, true, true, false, false, false, false, false] rfl rfl (any_of HT_.out (by kernel_rfl)) (fun _ _ _ h => h) (Or.inl ⟨by rfl, ?_⟩) ?_ ?_
                              rotate_left
                              · intro w'
                                go_simp
                                with_reducible rfl
                              rotate_left
                              · simp only [Act.put, List.setIfInBounds_toArray, List.set_cons_zero, List.set_cons_succ, i64_w, i32_w]
                                rfl
                              refine take_ (i := 6) (N := some 57) (v := ?_) (a' := ?_) #[true, true, true, true, true, true, true, false, false, true, true, false, false, true, true, false, false, false, false, false] rfl rfl (take_ofW HT_.out HW_.out (by kernel_rfl)) (fun _ _ _ h => h) (Or.inl ⟨by rfl, ?_⟩) hHeld ?_ ?_
                              rotate_left
                              · rintro w' ⟨s0, s1, s2, s3⟩
                                go_simp
                                with_reducible rfl
                              rotate_left
                              · simp only [Act.put, List.setIfInBounds_toArray, List.set_cons_zero, List.set_cons_succ, i64_w, i32_w]
                                rfl
                              refine pure_ (i := 7) (N := some 58) (v := ?_) (a' := ?_) #[true, true, true, true, true, true, true, true, false, true, true, false, false, true, true, false, false, false, false, false] rfl rfl (any_of HT_.out (by kernel_rfl)) (fun _ _ _ h => h) (Or.inl ⟨by rfl, ?_⟩) ?_ ?_
                              rotate_left
                              · intro w'
                                go_simp
                                with_reducible rfl
                              rotate_left
                              · simp only [Act.put, List.setIfInBounds_toArray, List.set_cons_zero, List.set_cons_succ, i64_w, i32_w]
                                rfl
                              refine pure_ (i := 8) (N := some 59) (v := ?_) (a' := ?_) #[true, true, true, true, true, true, true, true, true, true, true, false, false, true, true, false, false, false, false, false] rfl rfl (any_of HT_.out (by kernel_rfl)) (fun _ _ _ h => h) (Or.inl ⟨by rfl, ?_⟩) ?_ ?_
                              rotate_left
                              · intro w'
                                go_simp
                                with_reducible rfl
                              rotate_left
                              · simp only [Act.put, List.setIfInBounds_toArray, List.set_cons_zero, List.set_cons_succ, i64_w, i32_w]
                                rfl
                              refine pure_ (i := 18) (N := some 10) (v := ?_) (a' := ?_) #[true, true, true, true, true, true, true, true, true, true, true, false, false, true, true, false, false, false, true, false] rfl rfl (any_of HT_.out (by kernel_rfl)) (fun _ _ _ h => h) (Or.inl ⟨by rfl, ?_⟩) ?_ ?_
                              rotate_left
                              · intro w'
                                go_simp
                                with_reducible rfl
                              rotate_left
                              · simp only [Act.put, List.setIfInBounds_toArray, List.set_cons_zero, List.set_cons_succ, i64_w, i32_w]
                                rfl
                              refine take_ (i := 11) (N := some 62) (v := ?_) (a' := ?_) #[true, true, true, true, true, true, true, true, true, true, true, true, false, true, true, false, false, false, true, false] rfl rfl (take_ofW HT_.out HW_.out (by kernel_rfl)) (fun _ _ _ h => h) (Or.inl ⟨by rfl, ?_⟩) hHeld ?_ ?_
                              rotate_left
                              · rintro w' ⟨s0, s1, s2, s3⟩
                                go_simp
                                with_reducible rfl
                              rotate_left
                              · simp only [Act.put, List.setIfInBounds_toArray, List.set_cons_zero, List.set_cons_succ, i64_w, i32_w]
                                rfl
                              refine pure_ (i := 12) (N := some 63) (v := ?_) (a' := ?_) #[true, true, true, true, true, true, true, true, true, true, true, true, true, true, true, false, false, false, true, false] rfl rfl (any_of HT_.out (by kernel_rfl)) (fun _ _ _ h => h) (Or.inl ⟨by rfl, ?_⟩) ?_ ?_
                              rotate_left
                              · intro w'
                                go_simp
                                with_reducible rfl
                              rotate_left
                              · simp only [Act.put, List.setIfInBounds_toArray, List.set_cons_zero, List.set_cons_succ, i64_w, i32_w]
                                rfl
                              refine take_ (i := 15) (N := some 66) (v := ?_) (a' := ?_) #[true, true, true, true, true, true, true, true, true, true, true, true, true, true, true, true, false, false, true, false] rfl rfl (take_ofW HT_.out HW_.out (by kernel_rfl)) (fun _ _ _ h => h) (Or.inl ⟨by rfl, ?_⟩) hHeld ?_ ?_
                              rotate_left
                              · rintro w' ⟨s0, s1, s2, s3⟩
                                go_simp
                                with_reducible rfl
                              rotate_left
                              · simp only [Act.put, List.setIfInBounds_toArray, List.set_cons_zero, List.set_cons_succ, i64_w, i32_w]
                                rfl
                              refine pure_ (i := 16) (N := some 67) (v := ?_) (a' := ?_) #[true, true, true, true, true, true, true, true, true, true, true, true, true, true, true, true, true, false, true, false] rfl rfl (any_of HT_.out (by kernel_rfl)) (fun _ _ _ h => h) (Or.inl ⟨by rfl, ?_⟩) ?_ ?_
                              rotate_left
                              · intro w'
                                go_simp
                                with_reducible rfl
                              rotate_left
                              · simp only [Act.put, List.setIfInBounds_toArray, List.set_cons_zero, List.set_cons_succ, i64_w, i32_w]
                                rfl
                              refine pure_ (i := 17) (N := some 68) (v := ?_) (a' := ?_) #[true, true, true, true, true, true, true, true, true, true, true, true, true, true, true, true, true, true, true, false] rfl rfl (any_of HT_.out (by kernel_rfl)) (fun _ _ _ h => h) (Or.inl ⟨by rfl, ?_⟩) ?_ ?_
                              rotate_left
                              · intro w'
                                go_simp
                                with_reducible rfl
                              rotate_left
                              · simp only [Act.put, List.setIfInBounds_toArray, List.set_cons_zero, List.set_cons_succ, i64_w, i32_w]
                                rfl
                              refine pure_ (i := 19) (N := some 11) (v := ?_) (a' := ?_) #[true, true, true, true, true, true, true, true, true, true, true, true, true, true, true, true, true, true, true, true] rfl rfl (any_of HT_.out (by kernel_rfl)) (fun _ _ _ h => h) (Or.inl ⟨by rfl, ?_⟩) ?_ ?_
                              rotate_left
                              · intro w'
                                go_simp
                                with_reducible rfl
                              rotate_left
                              · simp only [Act.put, List.setIfInBounds_toArray, List.set_cons_zero, List.set_cons_succ, i64_w, i32_w]
                                rfl
                              refine done_ (done_of HT_.out (by kernel_rfl)) ?_
                              try go_wp2
                              go_roundg k3
                              case measure => have := HK1.out; have := HK2.out; have := HK3.out; omega
                              case rel => exact ⟨(wrap64 ((wrap64 (x10_3 * a0_0)) + (wrap64 (Int.tdiv (rd t717 x47_3) a1_0)))), (wrap64 ((wrap64 (x11_3 * a1_0)) + (Int.tmod (rd t717 x47_3) a1_0))), (wrap64 (x47_3 + 1)), (by first | rfl | (simp; done) | (simp [*]; done)), (by first | rfl | (simp; done) | (simp [*]; done)), (by first | rfl | (simp; done) | (simp [*]; done)), H', ⟨by have := HK1.out; have := HK2.out; have := HK3.out; omega⟩, ⟨by (with_reducible repeat (first | apply Kd.R_alloc | apply Kd.R_drewN | apply Kd.R_drew)); exact HO_45.out⟩, ⟨by (with_reducible repeat (first | apply Kd.S_alloc | apply Kd.S_drewN | apply Kd.S_drew)); exact HO_710001.out⟩, ⟨by (with_reducible repeat (first | apply Kd.R_alloc | apply Kd.R_drewN | apply Kd.R_drew)); exact HO_713001.out⟩, ⟨by (with_reducible repeat (first | refine blk_drewN ?_ _ | refine blk_drew ?_ | refine blk_alloc ?_ _)); exact BK706.out⟩, ⟨by (with_reducible repeat (first | refine blk_drewN ?_ _ | refine blk_drew ?_ | refine blk_alloc ?_ _)); exact BK707.out⟩, ⟨by (with_reducible repeat (first | refine blk_drewN ?_ _ | refine blk_drew ?_ | refine blk_alloc ?_ _)); exact BK708.out⟩, ⟨by (with_reducible repeat (first | refine blk_drewN ?_ _ | refine blk_drew ?_ | refine blk_alloc ?_ _)); exact BK709.out⟩, ⟨by (with_reducible repeat (first | refine blk_drewN ?_ _ | refine blk_drew ?_ | refine blk_alloc ?_ _)); exact BK711.out⟩, ⟨by (with_reducible repeat (first | refine blk_drewN ?_ _ | refine blk_drew ?_ | refine blk_alloc ?_ _)); exact BK712.out⟩, ⟨by repeat (first | (with_reducible first | exact HB.out | apply below_alloc | apply pw_below_drewN | apply below_drew1 | refine below_set ?_ GE706.out | refine below_set ?_ GE707.out | refine below_set ?_ GE708.out | refine below_set ?_ GE709.out | refine below_set ?_ GE711.out | refine below_set ?_ GE712.out) | exact HB.out)⟩⟩
                          · rw [if_neg c51] at H
                            exact absurd H (by simp)
                        · rw [if_neg c50] at H
                          exact absurd H (by simp)
                      · rw [if_neg c49] at H
                        have c49b0 : decide (x47_3 < (t717.length : Int)) = false := decide_eq_false c49
                        clear c49
                        by_cases c54 : 0 ≤ x10_3
                        · rw [if_pos c54] at H
                          have c54b0 : decide (0 ≤ x10_3) = true := decide_eq_true c54
                          clear c54
                          by_cases c55 : x10_3 < (((rd_T87 l0_1 x23_1).f1).length : Int)
                          · rw [if_pos c55] at H
                            have c55b0 : decide (x10_3 < (((rd_T87 l0_1 x23_1).f1).length : Int)) = true := decide_eq_true c55
                            clear c55
                            by_cases c56 : 0 ≤ x23_1
                            · rw [if_pos c56] at H
                              have c56b0 : decide (0 ≤ x23_1) = true := decide_eq_true c56
                              clear c56
                              by_cases c57 : x23_1 < (l1_1.length : Int)
                              · rw [if_pos c57] at H
                                have c57b0 : decide (x23_1 < (l1_1.length : Int)) = true := decide_eq_true c57
                                clear c57
                                by_cases c58 : 0 ≤ x11_3
                                · rw [if_pos c58] at H
                                  have c58b0 : decide (0 ≤ x11_3) = true := decide_eq_true c58
                                  clear c58
                                  by_cases c59 : x11_3 < (((rd_T87 l1_1 x23_1).f1).length : Int)
                                  · rw [if_pos c59] at H
                                    have c59b0 : decide (x11_3 < (((rd_T87 l1_1 x23_1).f1).length : Int)) = true := decide_eq_true c59
                                    clear c59
                                    by_cases c60 : x713001_2.length < 17592186044416
                                    · rw [if_pos c60] at H
                                      have LMc60 := Aside0.mk c60
                                      clear c60
                                      obtain ⟨y724, hy724⟩ : ∃ y_ : List Int, y_ = (x713001_2 ++ [wrap64 ((wrap64 ((rd ((rd_T87 l0_1 x23_1).f1) x10_3) * a1_0)) + (rd ((rd_T87 l1_1 x23_1).f1) x11_3))]) := ⟨_, rfl⟩
                                      replace H : (impl_product.l1 k3 x23_1 (wrap64 (x9_2 + 1)) l0_1 (l0_1.length : Int) x23_1 a0_0 l0_1 a1_0 l1_1 (wrap64 (a0_0 * a1_0)) x710001_1 ((rd_T87 l0_1 x23_1).f0) ((rd_T87 l0_1 x23_1).f1) ((rd_T87 l0_1 x23_1).f0) y724) = some (r1, r2) := by first | (rw [hy724]; with_reducible exact H) | (have H2_ := (Option.bind_some _ _).symm.trans H; rw [hy724]; with_reducible exact H2_) | (have H2_ := (Option.bind_some _ _).symm.trans H; with_reducible exact H2_) | with_reducible exact H | (rw [hy724]; exact H) | exact H
                                      have Ny724 := Aside0.mk hy724
                                      clear hy724
                                      have H' := Aside0.mk H
                                      clear H
                                      try go_wp2
                                      have n0_ := Aside0.mk (Kd.R_drew HO_45.out)
                                      have n1_ := Aside0.mk (Kd.S_drew HO_710001.out)
                                      have n2_ := Aside0.mk (Kd.R_drew HO_713001.out)
                                      have n3_ := Aside0.mk (blk_drew BK706.out)
                                      have n4_ := Aside0.mk (blk_drew BK707.out)
                                      have n5_ := Aside0.mk (blk_drew BK708.out)
                                      have n6_ := Aside0.mk (blk_drew BK709.out)
                                      have n7_ := Aside0.mk (blk_drew BK711.out)
                                      have n8_ := Aside0.mk (blk_drew BK712.out)
                                      have n9_ := Aside0.mk (below_drew1 HB.out)
                                      clear HO_45
                                      clear HO_710001
                                      clear HO_713001
                                      clear BK706
                                      clear BK707
                                      clear BK708
                                      clear BK709
                                      clear BK711
                                      clear BK712
                                      clear HB
                                      have HO_45 := n0_
                                      have HO_710001 := n1_
                                      have HO_713001 := n2_
                                      have BK706 := n3_
                                      have BK707 := n4_
                                      have BK708 := n5_
                                      have BK709 := n6_
                                      have BK711 := n7_
                                      have BK712 := n8_
                                      have HB := n9_
                                      clear n0_ n1_ n2_ n3_ n4_ n5_ n6_ n7_ n8_ n9_
                                      have p721 : 0 ≤ (x10_3 : Int) := of_decide_eq_true (by first | (with_reducible assumption) | assumption)
                                      have q721 : x10_3 < (((rd_T87 l0_1 x23_1).f1).length : Int) := of_decide_eq_true (by first | (with_reducible assumption) | assumption)
                                      obtain ⟨ad721, e721, hx721_0⟩ := Kd.at_int HR710_1.out x10_3 p721 q721
                                      have hw721_0 := hx721_0
                                      cases e721
                                      replace hx721_0 := (HB.out.cell (World.block_lt_of_cell? w _ hx721_0)).trans hx721_0
                                      replace p721 := eq_true p721
                                      replace q721 := eq_true q721
                                      have p722 : 0 ≤ (x23_1 : Int) := of_decide_eq_true (by first | (with_reducible assumption) | assumption)
                                      have q722 : x23_1 < (l1_1.length : Int) := of_decide_eq_true (by first | (with_reducible assumption) | assumption)
                                      obtain ⟨ad722, A722_1, c722_1, e722, hx722_0, hx722_1, hl722_1, hi722_1⟩ := at_T87 HR1_1.out x23_1 p722 q722
                                      have hw722_1 := hx722_1
                                      have hw722_0 := hx722_0
                                      cases e722
                                      replace hx722_0 := (HB.out.cell (World.block_lt_of_cell? w _ hx722_0)).trans hx722_0
                                      replace hx722_1 := (HB.out.cell (World.block_lt_of_cell? w _ hx722_1)).trans hx722_1
                                      have HR722_1 := Aside0.mk hi722_1
                                      have HC722_1 := Aside0.mk hl722_1
                                      clear hi722_1 hl722_1
                                      replace p722 := eq_true p722
                                      replace q722 := eq_true q722
                                      have p723 : 0 ≤ (x11_3 : Int) := of_decide_eq_true (by first | (with_reducible assumption) | assumption)
                                      have q723 : x11_3 < (((rd_T87 l1_1 x23_1).f1).length : Int) := of_decide_eq_true (by first | (with_reducible assumption) | assumption)
                                      obtain ⟨ad723, e723, hx723_0⟩ := Kd.at_int HR722_1.out x11_3 p723 q723
                                      have hw723_0 := hx723_0
                                      cases e723
                                      replace hx723_0 := (HB.out.cell (World.block_lt_of_cell? w _ hx723_0)).trans hx723_0
                                      replace p723 := eq_true p723
                                      replace q723 := eq_true q723
                                      refine start_ (n := 24) (S := fun w' => w'.cell? ⟨gb712, 0, none⟩ = some (.int .i64 ((rd_T87 l0_1 x23_1).f0)) ∧ w'.cell? ⟨gb712, 1, none⟩ = some (u713001) ∧ w'.cell? ⟨gb711, 0, none⟩ = some (.int .i64 ((rd_T87 l0_1 x23_1).f0)) ∧ w'.cell? ⟨gb711, 1, none⟩ = some (.slice (some ad721) ((rd_T87 l0_1 x23_1).f1).length c710_1) ∧ w'.cell? ⟨gb707, 0, none⟩ = some (.int .i64 a1_0) ∧ w'.cell? ⟨gb707, 1, none⟩ = some (.slice (some ad722) l1_1.length c1_1) ∧ w'.cell? (ad721.add (x10_3).toNat) = some (.int .i64 (rd ((rd_T87 l0_1 x23_1).f1) x10_3)) ∧ w'.cell? (ad722.add ((x23_1).toNat * 2)) = some (.int .i64 ((rd_T87 l1_1 x23_1).f0)) ∧ w'.cell? ⟨(ad722.add ((x23_1).toNat * 2)).block, (ad722.add ((x23_1).toNat * 2)).off + 1, none⟩ = some (.slice (some ad723) ((rd_T87 l1_1 x23_1).f1).length c722_1) ∧ w'.cell? (ad723.add (x11_3).toNat) = some (.int .i64 (rd ((rd_T87 l1_1 x23_1).f1) x11_3))) (ds := [23]) #[false, false, false, false, false, false, false, false, false, false, false, false, false, false, false, false, false, false, false, false, false, false, false, false] (by kernel_rfl) rfl rfl ⟨(blk_cell BK712.out 0).trans rfl, (blk_cell BK712.out 1).trans rfl, (blk_cell BK711.out 0).trans rfl, (blk_cell BK711.out 1).trans rfl, (blk_cell BK707.out 0).trans rfl, (blk_cell BK707.out 1).trans rfl, ((HB.out.cell (World.block_lt_of_cell? w _ hw721_0)).trans hw721_0), ((HB.out.cell (World.block_lt_of_cell? w _ hw722_0)).trans hw722_0), ((HB.out.cell (World.block_lt_of_cell? w _ hw722_1)).trans hw722_1), ((HB.out.cell (World.block_lt_of_cell? w _ hw723_0)).trans hw723_0)⟩ (fun hHeld => ?_); refine with_tabW impl_product.tab15 impl_product.bits15 (fun HT_ HW_ => ?_)
                                      generalize wr.drew = w61 at HO_45 HO_710001 HO_713001 BK706 BK707 BK708 BK709 BK711 BK712 HB HR722_1 hx721_0 hx722_0 hx722_1 hx723_0 hHeld ⊢
                                      refine pure_ (i := 0) (N := some 70) (v := ?_) (a' := ?_) #[true, false, false, false, false, false, false, false, false, false, false, false, false, false, false, false, false, false, false, false, false, false, false, false] rfl rfl (any_of HT_.out (by kernel_rfl)) (fun _ _ _ h => h) (Or.inl ⟨by rfl, ?_⟩) ?_ ?_
                                      rotate_left
                                      · intro w'
                                        go_simp
                                        with_reducible rfl
                                      rotate_left
                                      · simp only [Act.put, List.setIfInBounds_toArray, List.set_cons_zero, List.set_cons_succ, i64_w, i32_w]
                                        rfl
                                      refine pure_ (i := 2) (N := some 72) (v := ?_) (a' := ?_) #[true, false, true, false, false, false, false, false, false, false, false, false, false, false, false, false, false, false, false, false, false, false, false, false] rfl rfl (any_of HT_.out (by kernel_rfl)) (fun _ _ _ h => h) (Or.inl ⟨by rfl, ?_⟩) ?_ ?_
                                      rotate_left
                                      · intro w'
                                        go_simp
                                        with_reducible rfl
                                      rotate_left
                                      · simp only [Act.put, List.setIfInBounds_toArray, List.set_cons_zero, List.set_cons_succ, i64_w, i32_w]
                                        rfl
                                      refine pure_ (i := 4) (N := some 74) (v := ?_) (a' := ?_) #[true, false, true, false, true, false, false, false, false, false, false, false, false, false, false, false, false, false, false, false, false, false, false, false] rfl rfl (any_of HT_.out (by kernel_rfl)) (fun _ _ _ h => h) (Or.inl ⟨by rfl, ?_⟩) ?_ ?_
                                      rotate_left
                                      · intro w'
                                        go_simp
                                        with_reducible rfl
                                      rotate_left
                                      · simp only [Act.put, List.setIfInBounds_toArray, List.set_cons_zero, List.set_cons_succ, i64_w, i32_w]
                                        rfl
                                      refine pure_ (i := 7) (N := some 77) (v := ?_) (a' := ?_) #[true, false, true, false, true, false, false, true, false, false, false, false, false, false, false, false, false, false, false, false, false, false, false, false] rfl rfl (any_of HT_.out (by kernel_rfl)) (fun _ _ _ h => h) (Or.inl ⟨by rfl, ?_⟩) ?_ ?_
                                      rotate_left
                                      · intro w'
                                        go_simp
                                        with_reducible rfl
                                      rotate_left
                                      · simp only [Act.put, List.setIfInBounds_toArray, List.set_cons_zero, List.set_cons_succ, i64_w, i32_w]
                                        rfl
                                      refine pure_ (i := 10) (N := some 80) (v := ?_) (a' := ?_) #[true, false, true, false, true, false, false, true, false, false, true, false, false, false, false, false, false, false, false, false, false, false, false, false] rfl rfl (any_of HT_.out (by kernel_rfl)) (fun _ _ _ h => h) (Or.inl ⟨by rfl, ?_⟩) ?_ ?_
                                      rotate_left
                                      · intro w'
                                        go_simp
                                        with_reducible rfl
                                      rotate_left
                                      · simp only [Act.put, List.setIfInBounds_toArray, List.set_cons_zero, List.set_cons_succ, i64_w, i32_w]
                                        rfl
                                      refine pure_ (i := 12) (N := some 82) (v := ?_) (a' := ?_) #[true, false, true, false, true, false, false, true, false, false, true, false, true, false, false, false, false, false, false, false, false, false, false, false] rfl rfl (any_of HT_.out (by kernel_rfl)) (fun _ _ _ h => h) (Or.inl ⟨by rfl, ?_⟩) ?_ ?_
                                      rotate_left
                                      · intro w'
                                        go_simp
                                        with_reducible rfl
                                      rotate_left
                                      · simp only [Act.put, List.setIfInBounds_toArray, List.set_cons_zero, List.set_cons_succ, i64_w, i32_w]
                                        rfl
                                      refine pure_ (i := 16) (N := some 86) (v := ?_) (a' := ?_) #[true, false, true, false, true, false, false, true, false, false, true, false, true, false, false, false, true, false, false, false, false, false, false, false] rfl rfl (any_of HT_.out (by kernel_rfl)) (fun _ _ _ h => h) (Or.inl ⟨by rfl, ?_⟩) ?_ ?_
                                      rotate_left
                                      · intro w'
                                        go_simp
                                        with_reducible rfl
                                      rotate_left
                                      · simp only [Act.put, List.setIfInBounds_toArray, List.set_cons_zero, List.set_cons_succ, i64_w, i32_w]
                                        rfl
                                      refine take_ (i := 1) (N := some 71) (v := ?_) (a' := ?_) #[true, true, true, false, true, false, false, true, false, false, true, false, true, false, false, false, true, false, false, false, false, false, false, false] rfl rfl (take_ofW HT_.out HW_.out (by kernel_rfl)) (fun _ _ _ h => h) (Or.inl ⟨by rfl, ?_⟩) hHeld ?_ ?_
                                      rotate_left
                                      · rintro w' ⟨s0, s1, s2, s3, s4, s5, s6, s7, s8, s9⟩
                                        go_simp
                                        with_reducible rfl
                                      rotate_left
                                      · simp only [Act.put, List.setIfInBounds_toArray, List.set_cons_zero, List.set_cons_succ, i64_w, i32_w]
                                        rfl
                                      refine take_ (i := 3) (N := some 73) (v := ?_) (a' := ?_) #[true, true, true, true, true, false, false, true, false, false, true, false, true, false, false, false, true, false, false, false, false, false, false, false] rfl rfl (take_ofW HT_.out HW_.out (by kernel_rfl)) (fun _ _ _ h => h) (Or.inl ⟨by rfl, ?_⟩) hHeld ?_ ?_
                                      rotate_left
                                      · rintro w' ⟨s0, s1, s2, s3, s4, s5, s6, s7, s8, s9⟩
                                        go_simp
                                        with_reducible rfl
                                      rotate_left
                                      · simp only [Act.put, List.setIfInBounds_toArray, List.set_cons_zero, List.set_cons_succ, i64_w, i32_w]
                                        rfl
                                      refine pure_ (i := 5) (N := some 75) (v := ?_) (a' := ?_) #[true, true, true, true, true, true, false, true, false, false, true, false, true, false, false, false, true, false, false, false, false, false, false, false] rfl rfl (any_of HT_.out (by kernel_rfl)) (fun _ _ _ h => h) (Or.inl ⟨by rfl, ?_⟩) ?_ ?_
                                      rotate_left
                                      · intro w'
                                        go_simp
                                        with_reducible rfl
                                      rotate_left
                                      · simp only [Act.put, List.setIfInBounds_toArray, List.set_cons_zero, List.set_cons_succ, i64_w, i32_w]
                                        rfl
                                      refine take_ (i := 6) (N := some 76) (v := ?_) (a' := ?_) #[true, true, true, true, true, true, true, true, false, false, true, false, true, false, false, false, true, false, false, false, false, false, false, false] rfl rfl (take_ofW HT_.out HW_.out (by kernel_rfl)) (fun _ _ _ h => h) (Or.inl ⟨by rfl, ?_⟩) hHeld ?_ ?_
                                      rotate_left
                                      · rintro w' ⟨s0, s1, s2, s3, s4, s5, s6, s7, s8, s9⟩
                                        go_simp
                                        with_reducible rfl
                                      rotate_left
                                      · simp only [Act.put, List.setIfInBounds_toArray, List.set_cons_zero, List.set_cons_succ, i64_w, i32_w]
                                        rfl
                                      refine take_ (i := 8) (N := some 78) (v := ?_) (a' := ?_) #[true, true, true, true, true, true, true, true, true, false, true, false, true, false, false, false, true, false, false, false, false, false, false, false] rfl rfl (take_ofW HT_.out HW_.out (by kernel_rfl)) (fun _ _ _ h => h) (Or.inl ⟨by rfl, ?_⟩) hHeld ?_ ?_
                                      rotate_left
                                      · rintro w' ⟨s0, s1, s2, s3, s4, s5, s6, s7, s8, s9⟩
                                        go_simp
                                        with_reducible rfl
                                      rotate_left
                                      · simp only [Act.put, List.setIfInBounds_toArray, List.set_cons_zero, List.set_cons_succ, i64_w, i32_w]
                                        rfl
                                      refine pure_ (i := 9) (N := some 79) (v := ?_) (a' := ?_) #[true, true, true, true, true, true, true, true, true, true, true, false, true, false, false, false, true, false, false, false, false, false, false, false] rfl rfl (any_of HT_.out (by kernel_rfl)) (fun _ _ _ h => h) (Or.inl ⟨by rfl, ?_⟩) ?_ ?_
                                      rotate_left
                                      · intro w'
                                        go_simp
                                        with_reducible rfl
                                      rotate_left
                                      · simp only [Act.put, List.setIfInBounds_toArray, List.set_cons_zero, List.set_cons_succ, i64_w, i32_w]
                                        rfl
                                      refine take_ (i := 11) (N := some 81) (v := ?_) (a' := ?_) #[true, true, true, true, true, true, true, true, true, true, true, true, true, false, false, false, true, false, false, false, false, false, false, false] rfl rfl (take_ofW HT_.out HW_.out (by kernel_rfl)) (fun _ _ _ h => h) (Or.inl ⟨by rfl, ?_⟩) hHeld ?_ ?_
                                      rotate_left
                                      · rintro w' ⟨s0, s1, s2, s3, s4, s5, s6, s7, s8, s9⟩
                                        go_simp
                                        with_reducible rfl
                                      rotate_left
                                      · simp only [Act.put, List.setIfInBounds_toArray, List.set_cons_zero, List.set_cons_succ, i64_w, i32_w]
                                        rfl
                                      refine pure_ (i := 13) (N := some 83) (v := ?_) (a' := ?_) #[true, true, true, true, true, true, true, true, true, true, true, true, true, true, false, false, true, false, false, false, false, false, false, false] rfl rfl (any_of HT_.out (by kernel_rfl)) (fun _ _ _ h => h) (Or.inl ⟨by rfl, ?_⟩) ?_ ?_
                                      rotate_left
                                      · intro w'
                                        go_simp
                                        with_reducible rfl
                                      rotate_left
                                      · simp only [Act.put, List.setIfInBounds_toArray, List.set_cons_zero, List.set_cons_succ, i64_w, i32_w]
                                        rfl
                                      refine pure_ (i := 14) (N := some 84) (v := ?_) (a' := ?_) #[true, true, true, true, true, true, true, true, true, true, true, true, true, true, true, false, true, false, false, false, false, false, false, false] rfl rfl (any_of HT_.out (by kernel_rfl)) (fun _ _ _ h => h) (Or.inl ⟨by rfl, ?_⟩) ?_ ?_
                                      rotate_left
                                      · intro w'
                                        go_simp
                                        with_reducible rfl
                                      rotate_left
                                      · simp only [Act.put, List.setIfInBounds_toArray, List.set_cons_zero, List.set_cons_succ, i64_w, i32_w]
                                        rfl
                                      refine take_ (i := 15) (N := some 85) (v := ?_) (a' := ?_) #[true, true, true, true, true, true, true, true, true, true, true, true, true, true, true, true, true, false, false, false, false, false, false, false] rfl rfl (take_ofW HT_.out HW_.out (by kernel_rfl)) (fun _ _ _ h => h) (Or.inl ⟨by rfl, ?_⟩) hHeld ?_ ?_
                                      rotate_left
                                      · rintro w' ⟨s0, s1, s2, s3, s4, s5, s6, s7, s8, s9⟩
                                        go_simp
                                        with_reducible rfl
                                      rotate_left
                                      · simp only [Act.put, List.setIfInBounds_toArray, List.set_cons_zero, List.set_cons_succ, i64_w, i32_w]
                                        rfl
                                      refine pure_ (i := 17) (N := some 87) (v := ?_) (a' := ?_) #[true, true, true, true, true, true, true, true, true, true, true, true, true, true, true, true, true, true, false, false, false, false, false, false] rfl rfl (any_of HT_.out (by kernel_rfl)) (fun _ _ _ h => h) (Or.inl ⟨by rfl, ?_⟩) ?_ ?_
                                      rotate_left
                                      · intro w'
                                        go_simp
                                        with_reducible rfl
                                      rotate_left
                                      · simp only [Act.put, List.setIfInBounds_toArray, List.set_cons_zero, List.set_cons_succ, i64_w, i32_w]
                                        rfl
                                      refine take_ (i := 18) (N := some 88) (v := ?_) (a' := ?_) #[true, true, true, true, true, true, true, true, true, true, true, true, true, true, true, true, true, true, true, false, false, false, false, false] rfl rfl (take_ofW HT_.out HW_.out (by kernel_rfl)) (fun _ _ _ h => h) (Or.inl ⟨by rfl, ?_⟩) hHeld ?_ ?_
                                      rotate_left
                                      · rintro w' ⟨s0, s1, s2, s3, s4, s5, s6, s7, s8, s9⟩
                                        go_simp
                                        with_reducible rfl
                                      rotate_left
                                      · simp only [Act.put, List.setIfInBounds_toArray, List.set_cons_zero, List.set_cons_succ, i64_w, i32_w]
                                        rfl
                                      refine pure_ (i := 19) (N := some 89) (v := ?_) (a' := ?_) #[true, true, true, true, true, true, true, true, true, true, true, true, true, true, true, true, true, true, true, true, false, false, false, false] rfl rfl (any_of HT_.out (by kernel_rfl)) (fun _ _ _ h => h) (Or.inl ⟨by rfl, ?_⟩) ?_ ?_
                                      rotate_left
                                      · intro w'
                                        go_simp
                                        with_reducible rfl
                                      rotate_left
                                      · simp only [Act.put, List.setIfInBounds_toArray, List.set_cons_zero, List.set_cons_succ, i64_w, i32_w]
                                        rfl
                                      refine one_ (i := 20) (N := some 90) #[true, true, true, true, true, true, true, true, true, true, true, true, true, true, true, true, true, true, true, true, true, false, false, false] rfl rfl (one_of HT_.out (by kernel_rfl)) (by decide) (fun K hK => ?_)
                                      refine value_ (w1 := ?_) (v := ?_) (by rfl) rfl ?_ ?_
                                      rotate_left 2
                                      · go_simp
                                        constructor
                                        · rfl
                                        · rfl
                                      refine hK.out _ _ ⟨(blk_cell (blk_alloc BK712.out _) 0).trans rfl, (blk_cell (blk_alloc BK712.out _) 1).trans rfl, (blk_cell (blk_alloc BK711.out _) 0).trans rfl, (blk_cell (blk_alloc BK711.out _) 1).trans rfl, (blk_cell (blk_alloc BK707.out _) 0).trans rfl, (blk_cell (blk_alloc BK707.out _) 1).trans rfl, (World.cell?_alloc_lt _ _ _ (World.block_lt_of_cell? _ _ (((HB.out.cell (World.block_lt_of_cell? w _ hw721_0)).trans hw721_0)))).trans (((HB.out.cell (World.block_lt_of_cell? w _ hw721_0)).trans hw721_0)), (World.cell?_alloc_lt _ _ _ (World.block_lt_of_cell? _ _ (((HB.out.cell (World.block_lt_of_cell? w _ hw722_0)).trans hw722_0)))).trans (((HB.out.cell (World.block_lt_of_cell? w _ hw722_0)).trans hw722_0)), (World.cell?_alloc_lt _ _ _ (World.block_lt_of_cell? _ _ (((HB.out.cell (World.block_lt_of_cell? w _ hw722_1)).trans hw722_1)))).trans (((HB.out.cell (World.block_lt_of_cell? w _ hw722_1)).trans hw722_1)), (World.cell?_alloc_lt _ _ _ (World.block_lt_of_cell? _ _ (((HB.out.cell (World.block_lt_of_cell? w _ hw723_0)).trans hw723_0)))).trans (((HB.out.cell (World.block_lt_of_cell? w _ hw723_0)).trans hw723_0))⟩ (fun hHeld => ?_)
                                      clear hK K
                                      refine norm_ (a' := ?_) ?_ ?_
                                      rotate_left
                                      · show Act.put _ (some 90) _ = _
                                        simp only [Act.put, List.setIfInBounds_toArray, List.set_cons_zero, List.set_cons_succ, i64_w, i32_w]
                                        rfl
                                      refine one_ (i := 21) (N := some 91) #[true, true, true, true, true, true, true, true, true, true, true, true, true, true, true, true, true, true, true, true, true, true, false, false] rfl rfl (one_of HT_.out (by kernel_rfl)) (by decide) (fun K hK => ?_)
                                      refine Kd.R_append_step (Kd.int .i64) (w0 := w) w.heap.size (by rfl) (.tmp 71) (.tmp 90) 41 3 (.int .i64 0) 8 rfl Try.underlying41 info3 rfl (by decide) (by omega) u713001 x713001_2 (wrap64 ((wrap64 ((rd ((rd_T87 l0_1 x23_1).f1) x10_3) * a1_0)) + (rd ((rd_T87 l1_1 x23_1).f1) x11_3))) [.int .i64 (wrap64 ((wrap64 ((rd ((rd_T87 l0_1 x23_1).f1) x10_3) * a1_0)) + (rd ((rd_T87 l1_1 x23_1).f1) x11_3)))] (fun k_ => some k_ ≠ (.slice Ao48 t717.length co48 : Value).ownBlock) (fun _ => False) rfl rfl ?aP (fun _ hk => hk.elim) ?aF ?aO ?aB ?aS ?aL ?_
                                      (case aP => exact rfl)
                                      (case aB => exact (by repeat (first | (with_reducible first | exact HB.out | apply below_alloc | apply pw_below_drewN | apply below_drew1 | refine below_set ?_ GE706.out | refine below_set ?_ GE707.out | refine below_set ?_ GE708.out | refine below_set ?_ GE709.out | refine below_set ?_ GE711.out | refine below_set ?_ GE712.out) | exact HB.out)))
                                      (case aF => exact (fun k_ hk => Kd.fresh' (Kd.R_lt (by (with_reducible repeat (first | apply Kd.R_alloc | apply Kd.R_drewN | apply Kd.R_drew)); exact HO_45.out)) k_ hk))
                                      (case aO => exact (by (with_reducible repeat (first | apply Kd.R_alloc | apply Kd.R_drewN | apply Kd.R_drew)); exact HO_713001.out))
                                      (case aS => exact (below_size (by repeat (first | (with_reducible first | exact HB.out | apply below_alloc | apply pw_below_drewN | apply below_drew1 | refine below_set ?_ GE706.out | refine below_set ?_ GE707.out | refine below_set ?_ GE708.out | refine below_set ?_ GE709.out | refine below_set ?_ GE711.out | refine below_set ?_ GE712.out) | exact HB.out))))
                                      (case aL => have := LMc60.out; omega)
                                      intro v725 w62 ho hb hg hat
                                      rw [← Ny724.out] at ho
                                      have n0_ := Aside0.mk (Kd.R_after (ok := (fun _ => True)) (by (with_reducible repeat (first | apply Kd.R_alloc | apply Kd.R_drewN | apply Kd.R_drew)); exact Kd.R_mono HO_45.out (fun _ hk => ⟨trivial, hk⟩)) hg hat)
                                      have n1_ := Aside0.mk (Kd.S_after (ok := (fun k_ => some k_ ≠ (.slice Ao48 t717.length co48 : Value).ownBlock ∧ k_ ≠ gb711 ∧ k_ ≠ gb712)) (by (with_reducible repeat (first | apply Kd.S_alloc | apply Kd.S_drewN | apply Kd.S_drew)); exact Kd.S_mono HO_710001.out (fun _ hk => ⟨⟨hk.1, ⟨hk.2.2.1, hk.2.2.2⟩⟩, hk.2.1⟩)) hg hat)
                                      have n2_ := Aside0.mk (blk_grown (g := gb706) (o := .cells #[.int .i64 a0_0, .slice (some ad710) l0_1.length c0_1] 30 (0, 0)) (by (with_reducible repeat (first | refine blk_drewN ?_ _ | refine blk_drew ?_ | refine blk_alloc ?_ _)); exact BK706.out) hg (Kd.R_ne HO_713001.out BK706.out (by decide)))
                                      have n3_ := Aside0.mk (blk_grown (g := gb707) (o := .cells #[.int .i64 a1_0, .slice (some ad722) l1_1.length c1_1] 30 (0, 0)) (by (with_reducible repeat (first | refine blk_drewN ?_ _ | refine blk_drew ?_ | refine blk_alloc ?_ _)); exact BK707.out) hg (Kd.R_ne HO_713001.out BK707.out (by decide)))
                                      have n4_ := Aside0.mk (blk_grown (g := gb708) (o := .cells #[.int .i64 0, .slice none 0 0] 30 (0, 0)) (by (with_reducible repeat (first | refine blk_drewN ?_ _ | refine blk_drew ?_ | refine blk_alloc ?_ _)); exact BK708.out) hg (Kd.R_ne HO_713001.out BK708.out (by decide)))
                                      have n5_ := Aside0.mk (blk_grown (g := gb709) (o := .cells #[.int .i64 (wrap64 (a0_0 * a1_0)), u710001] 30 (0, 0)) (by (with_reducible repeat (first | refine blk_drewN ?_ _ | refine blk_drew ?_ | refine blk_alloc ?_ _)); exact BK709.out) hg (Kd.R_ne HO_713001.out BK709.out (by decide)))
                                      have n6_ := Aside0.mk (blk_grown (g := gb711) (o := .cells #[.int .i64 ((rd_T87 l0_1 x23_1).f0), .slice (some ad721) ((rd_T87 l0_1 x23_1).f1).length c710_1] 87 (0, 0)) (by (with_reducible repeat (first | refine blk_drewN ?_ _ | refine blk_drew ?_ | refine blk_alloc ?_ _)); exact BK711.out) hg (Kd.R_ne HO_713001.out BK711.out (by decide)))
                                      have n7_ := Aside0.mk (blk_grown (g := gb712) (o := .cells #[.int .i64 ((rd_T87 l0_1 x23_1).f0), u713001] 87 (0, 0)) (by (with_reducible repeat (first | refine blk_drewN ?_ _ | refine blk_drew ?_ | refine blk_alloc ?_ _)); exact BK712.out) hg (Kd.R_ne HO_713001.out BK712.out (by decide)))
                                      have n8_ := Aside0.mk (hb)
                                      have n9_ := Aside0.mk (ho)
                                      clear HO_45
                                      clear HO_710001
                                      clear BK706
                                      clear BK707
                                      clear BK708
                                      clear BK709
                                      clear BK711
                                      clear BK712
                                      clear HB
                                      clear HO_713001
                                      have HO_45 := n0_
                                      have HO_710001 := n1_
                                      have BK706 := n2_
                                      have BK707 := n3_
                                      have BK708 := n4_
                                      have BK709 := n5_
                                      have BK711 := n6_
                                      have BK712 := n7_
                                      have HB := n8_
                                      have HO726 := n9_
                                      clear n0_ n1_ n2_ n3_ n4_ n5_ n6_ n7_ n8_ n9_
                                      clear ho hb hg hat
                                      obtain ⟨Ao63, co63, eo63⟩ := Kd.R_slice HO726.out
                                      (first | subst eo63 | (injection eo63 with f1_ f2_ f3_; have f4_ := f1_.symm; have f5_ := f3_.symm; clear f1_ f2_ f3_; subst f4_; subst f5_))
                                      refine hK.out _ _ ⟨(blk_cell BK712.out 0).trans rfl, (blk_cell BK712.out 1).trans rfl, (blk_cell BK711.out 0).trans rfl, (blk_cell BK711.out 1).trans rfl, (blk_cell BK707.out 0).trans rfl, (blk_cell BK707.out 1).trans rfl, ((HB.out.cell (World.block_lt_of_cell? w _ hw721_0)).trans hw721_0), ((HB.out.cell (World.block_lt_of_cell? w _ hw722_0)).trans hw722_0), ((HB.out.cell (World.block_lt_of_cell? w _ hw722_1)).trans hw722_1), ((HB.out.cell (World.block_lt_of_cell? w _ hw723_0)).trans hw723_0)⟩ (fun hHeld => ?_)
                                      clear hK K
                                      refine norm_ (a' := ?_) ?_ ?_
                                      rotate_left
                                      · show Act.put _ (some 91) _ = _
                                        simp only [Act.put, List.setIfInBounds_toArray, List.set_cons_zero, List.set_cons_succ, i64_w, i32_w]
                                        rfl
                                      refine pure_ (i := 22) (N := some 92) (v := ?_) (a' := ?_) #[true, true, true, true, true, true, true, true, true, true, true, true, true, true, true, true, true, true, true, true, true, true, true, false] rfl rfl (any_of HT_.out (by kernel_rfl)) (fun _ _ _ h => h) (Or.inl ⟨by rfl, ?_⟩) ?_ ?_
                                      rotate_left
                                      · intro w'
                                        go_simp
                                        with_reducible rfl
                                      rotate_left
                                      · simp only [Act.put, List.setIfInBounds_toArray, List.set_cons_zero, List.set_cons_succ, i64_w, i32_w]
                                        rfl
                                      refine last_ (i := 23) (N := none) #[true, true, true, true, true, true, true, true, true, true, true, true, true, true, true, true, true, true, true, true, true, true, true, true] rfl rfl (one_of HT_.out (by kernel_rfl)) (by decide) (fun K hK => ?_)
                                      have hs64 : w62.cell? ⟨gb712, 1, none⟩ = some (u713001) := (blk_cell BK712.out 1).trans rfl
                                      have hfs64 := blk_frozen BK712.out 1
                                      have hns64_0 := NB706_712.out
                                      have hns64_1 := NB707_712.out
                                      have hns64_2 := NB708_712.out
                                      have hns64_3 := NB709_712.out
                                      have hns64_4 := NB711_712.out
                                      have hms64_0 := NB712_706.out
                                      have hms64_1 := NB712_707.out
                                      have hms64_2 := NB712_708.out
                                      have hms64_3 := NB712_709.out
                                      have hms64_4 := NB712_711.out
                                      refine skip_ (w1 := ?_) (by rfl) rfl ?_ ?_
                                      rotate_left
                                      · go_simp
                                        rfl
                                      refine hK.out _ _ ?_
                                      clear hK K
                                      refine done_ (done_of HT_.out (by kernel_rfl)) ?_
                                      try go_wp2
                                      go_roundg k3
                                      case measure => have := HK1.out; have := HK2.out; have := HK3.out; omega
                                      case rel => exact ⟨(wrap64 (x9_2 + 1)), (y724), (.slice Ao63 y724.length co63), (by first | rfl | (simp; done) | (simp [*]; done)), H', ⟨by have := HK1.out; have := HK2.out; have := HK3.out; omega⟩, ⟨by (with_reducible repeat (first | apply Kd.S_alloc | apply Kd.S_drewN | apply Kd.S_drew)); exact Kd.S_mono (Kd.S_far (p := ⟨gb712, 1, none⟩) (Kd.S_mono HO_710001.out (fun k_ hk => (⟨hk, hk.1.2.2⟩ : _ ∧ k_ ≠ gb712))) (fun _ hk => hk.2) (.slice Ao63 y724.length co63)) (fun _ hk => ⟨hk.1.2, ⟨hk.1.1.2.1, hk.1.1.2.2⟩⟩)⟩, ⟨by (with_reducible repeat (first | apply Kd.R_alloc | apply Kd.R_drewN | apply Kd.R_drew)); exact Kd.R_mono (Kd.R_far (p := ⟨gb712, 1, none⟩) (Kd.R_types HO726.out BK712.out (by decide)) (fun _ hk => hk.2) (.slice Ao63 y724.length co63)) (fun _ hk => trivial)⟩, ⟨by (with_reducible repeat (first | refine blk_drewN ?_ _ | refine blk_drew ?_ | refine blk_alloc ?_ _)); refine blk_far ?_ NB706_712.out _; (with_reducible repeat (first | refine blk_drewN ?_ _ | refine blk_drew ?_ | refine blk_alloc ?_ _)); exact BK706.out⟩, ⟨by (with_reducible repeat (first | refine blk_drewN ?_ _ | refine blk_drew ?_ | refine blk_alloc ?_ _)); refine blk_far ?_ NB707_712.out _; (with_reducible repeat (first | refine blk_drewN ?_ _ | refine blk_drew ?_ | refine blk_alloc ?_ _)); exact BK707.out⟩, ⟨by (with_reducible repeat (first | refine blk_drewN ?_ _ | refine blk_drew ?_ | refine blk_alloc ?_ _)); refine blk_far ?_ NB708_712.out _; (with_reducible repeat (first | refine blk_drewN ?_ _ | refine blk_drew ?_ | refine blk_alloc ?_ _)); exact BK708.out⟩, ⟨by (with_reducible repeat (first | refine blk_drewN ?_ _ | refine blk_drew ?_ | refine blk_alloc ?_ _)); refine blk_far ?_ NB709_712.out _; (with_reducible repeat (first | refine blk_drewN ?_ _ | refine blk_drew ?_ | refine blk_alloc ?_ _)); exact BK709.out⟩, ⟨by (with_reducible repeat (first | refine blk_drewN ?_ _ | refine blk_drew ?_ | refine blk_alloc ?_ _)); refine blk_far ?_ NB711_712.out _; (with_reducible repeat (first | refine blk_drewN ?_ _ | refine blk_drew ?_ | refine blk_alloc ?_ _)); exact BK711.out⟩, ⟨by (with_reducible repeat (first | refine blk_drewN ?_ _ | refine blk_drew ?_ | refine blk_alloc ?_ _)); refine blk_put (cs := #[.int .i64 ((rd_T87 l0_1 x23_1).f0), u713001]) ?_ 1 _ rfl; (with_reducible repeat (first | refine blk_drewN ?_ _ | refine blk_drew ?_ | refine blk_alloc ?_ _)); exact BK712.out⟩, ⟨by repeat (first | (with_reducible first | exact HB.out | apply below_alloc | apply pw_below_drewN | apply below_drew1 | refine below_set ?_ GE706.out | refine below_set ?_ GE707.out | refine below_set ?_ GE708.out | refine below_set ?_ GE709.out | refine below_set ?_ GE711.out | refine below_set ?_ GE712.out) | exact HB.out)⟩⟩
                                    · rw [if_neg c60] at H
                                      exact absurd H (by simp)
                                  · rw [if_neg c59] at H
                                    exact absurd H (by simp)
                                · rw [if_neg c58] at H
                                  exact absurd H (by simp)
                              · rw [if_neg c57] at H
                                exact absurd H (by simp)
                            · rw [if_neg c56] at H
                              exact absurd H (by simp)
                          · rw [if_neg c55] at H
                            exact absurd H (by simp)
                        · rw [if_neg c54] at H
                          exact absurd H (by simp)
                · rw [if_neg c34] at H
                  have c34b0 : decide (x9_2 < t713) = false := decide_eq_false c34
                  clear c34
                  by_cases c65 : x710001_1.length < 4398046511104
                  · rw [if_pos c65] at H
                    have LMc65 := Aside0.mk c65
                    clear c65
                    obtain ⟨y714, hy714⟩ : ∃ y_ : List (S87), y_ = (x710001_1 ++ [(⟨((rd_T87 l0_1 x23_1).f0), x713001_2⟩ : S87)]) := ⟨_, rfl⟩
                    replace H : (impl_product.l0 k2 l0_1 (l0_1.length : Int) (wrap64 (x23_1 + 1)) a0_0 l0_1 a1_0 l1_1 (wrap64 (a0_0 * a1_0)) y714) = some (r1, r2) := by first | (rw [hy714]; with_reducible exact H) | (have H2_ := (Option.bind_some _ _).symm.trans H; rw [hy714]; with_reducible exact H2_) | (have H2_ := (Option.bind_some _ _).symm.trans H; with_reducible exact H2_) | with_reducible exact H | (rw [hy714]; exact H) | exact H
                    have Ny714 := Aside0.mk hy714
                    clear hy714
                    have H' := Aside0.mk H
                    clear H
                    have hnb66 := NB709_706.out
                    have hnc66 := NB706_709.out
                    have hnb67 := NB709_707.out
                    have hnc67 := NB707_709.out
                    have hnb68 := NB709_708.out
                    have hnc68 := NB708_709.out
                    have hnb69 := NB709_711.out
                    have hnc69 := NB711_709.out
                    have hnb70 := NB709_712.out
                    have hnc70 := NB712_709.out
                    have hcz71_0 : wr.cell? ⟨gb709, 0, none⟩ = some (.int .i64 (wrap64 (a0_0 * a1_0))) := (blk_cell BK709.out 0).trans rfl
                    have hcz71_1 : wr.cell? ⟨gb709, 1, none⟩ = some (u710001) := (blk_cell BK709.out 1).trans rfl
                    have hfz71_0 := blk_frozen BK709.out 0
                    have hfz71_1 := blk_frozen BK709.out 1
                    have hnb72 := NB711_706.out
                    have hnc72 := NB706_711.out
                    have hnb73 := NB711_707.out
                    have hnc73 := NB707_711.out
                    have hnb74 := NB711_708.out
                    have hnc74 := NB708_711.out
                    have hnb75 := NB711_712.out
                    have hnc75 := NB712_711.out
                    have hcz76_0 : wr.cell? ⟨gb711, 0, none⟩ = some (.int .i64 ((rd_T87 l0_1 x23_1).f0)) := (blk_cell BK711.out 0).trans rfl
                    have hcz76_1 : wr.cell? ⟨gb711, 1, none⟩ = some (.slice A710_1 ((rd_T87 l0_1 x23_1).f1).length c710_1) := (blk_cell BK711.out 1).trans rfl
                    have hfz76_0 := blk_frozen BK711.out 0
                    have hfz76_1 := blk_frozen BK711.out 1
                    go_wp2_with (first | ((with_reducible refine gate_callee (f := 102) rfl ?_); refine goesL_ (some 36) rfl rfl Try.func102 (by kernel_rfl) rfl #[.int .i64 (wrap64 (a0_0 * a1_0)), .int .i64 ((rd_T87 l0_1 x23_1).f0)] rfl (by (try simp only [List.map_toArray, List.map_cons, List.map_nil]); first | done | rfl | (simp only [List.length_drop, List.length_take]; rfl)) ?_; (with_reducible refine (impl_power.calls k2 (wrap64 (a0_0 * a1_0)) ((rd_T87 l0_1 x23_1).f0) t713 _ A33.out).mono ?_); rintro e w' ⟨rfl, ⟨nd, rfl⟩⟩; refine ⟨_, rfl, ?_⟩; (try (rw [drewN_self wr]; generalize hq_ : World.drewN wr _ = wr; have n0_ : Aside0 (Kd.S k87 87 wr w.heap.size (fun k_ => some k_ ≠ (u713001 : Value).ownBlock ∧ k_ ≠ gb711 ∧ k_ ≠ gb712) u710001 x710001_1) := ⟨by rw [← hq_]; exact (by (with_reducible repeat (first | apply Kd.S_alloc | apply Kd.S_drewN | apply Kd.S_drew)); exact HO_710001.out)⟩; have n1_ : Aside0 (Kd.R (Kd.int .i64) 3 wr w.heap.size (fun _ => True) u713001 x713001_2) := ⟨by rw [← hq_]; exact (by (with_reducible repeat (first | apply Kd.R_alloc | apply Kd.R_drewN | apply Kd.R_drew)); exact HO_713001.out)⟩; have n2_ : Aside0 (wr.heap[gb706]? = some (.cells #[.int .i64 a0_0, .slice (some ad710) l0_1.length c0_1] 30 (0, 0))) := ⟨by rw [← hq_]; exact (by (with_reducible repeat (first | refine blk_drewN ?_ _ | refine blk_drew ?_ | refine blk_alloc ?_ _)); exact BK706.out)⟩; have n3_ : Aside0 (wr.heap[gb707]? = some (.cells #[.int .i64 a1_0, .slice A1_1 l1_1.length c1_1] 30 (0, 0))) := ⟨by rw [← hq_]; exact (by (with_reducible repeat (first | refine blk_drewN ?_ _ | refine blk_drew ?_ | refine blk_alloc ?_ _)); exact BK707.out)⟩; have n4_ : Aside0 (wr.heap[gb708]? = some (.cells #[.int .i64 0, .slice none 0 0] 30 (0, 0))) := ⟨by rw [← hq_]; exact (by (with_reducible repeat (first | refine blk_drewN ?_ _ | refine blk_drew ?_ | refine blk_alloc ?_ _)); exact BK708.out)⟩; have n5_ : Aside0 (wr.heap[gb709]? = some (.cells #[.int .i64 (wrap64 (a0_0 * a1_0)), u710001] 30 (0, 0))) := ⟨by rw [← hq_]; exact (by (with_reducible repeat (first | refine blk_drewN ?_ _ | refine blk_drew ?_ | refine blk_alloc ?_ _)); exact BK709.out)⟩; have n6_ : Aside0 (wr.heap[gb711]? = some (.cells #[.int .i64 ((rd_T87 l0_1 x23_1).f0), .slice A710_1 ((rd_T87 l0_1 x23_1).f1).length c710_1] 87 (0, 0))) := ⟨by rw [← hq_]; exact (by (with_reducible repeat (first | refine blk_drewN ?_ _ | refine blk_drew ?_ | refine blk_alloc ?_ _)); exact BK711.out)⟩; have n7_ : Aside0 (wr.heap[gb712]? = some (.cells #[.int .i64 ((rd_T87 l0_1 x23_1).f0), u713001] 87 (0, 0))) := ⟨by rw [← hq_]; exact (by (with_reducible repeat (first | refine blk_drewN ?_ _ | refine blk_drew ?_ | refine blk_alloc ?_ _)); exact BK712.out)⟩; have n8_ : Aside0 (Below w.heap.size w wr) := ⟨by rw [← hq_]; exact (by repeat (first | (with_reducible first | exact HB.out | apply below_alloc | apply pw_below_drewN | apply below_drew1 | refine below_set ?_ GE706.out | refine below_set ?_ GE707.out | refine below_set ?_ GE708.out | refine below_set ?_ GE709.out | refine below_set ?_ GE711.out | refine below_set ?_ GE712.out) | exact HB.out))⟩; clear HO_710001 HO_713001 BK706 BK707 BK708 BK709 BK711 BK712 HB hq_; have HO_710001 := n0_; have HO_713001 := n1_; have BK706 := n2_; have BK707 := n3_; have BK708 := n4_; have BK709 := n5_; have BK711 := n6_; have BK712 := n7_; have HB := n8_; clear n0_ n1_ n2_ n3_ n4_ n5_ n6_ n7_ n8_; have hczq_gb706_0 : wr.cell? ⟨gb706, 0, none⟩ = some (.int .i64 a0_0) := (blk_cell BK706.out 0).trans rfl; have hfzq_gb706_0 := blk_frozen BK706.out 0; have hczq_gb706_1 : wr.cell? ⟨gb706, 1, none⟩ = some (.slice (some ad710) l0_1.length c0_1) := (blk_cell BK706.out 1).trans rfl; have hfzq_gb706_1 := blk_frozen BK706.out 1; have hczq_gb707_0 : wr.cell? ⟨gb707, 0, none⟩ = some (.int .i64 a1_0) := (blk_cell BK707.out 0).trans rfl; have hfzq_gb707_0 := blk_frozen BK707.out 0; have hczq_gb707_1 : wr.cell? ⟨gb707, 1, none⟩ = some (.slice A1_1 l1_1.length c1_1) := (blk_cell BK707.out 1).trans rfl; have hfzq_gb707_1 := blk_frozen BK707.out 1; have hczq_gb708_0 : wr.cell? ⟨gb708, 0, none⟩ = some (.int .i64 0) := (blk_cell BK708.out 0).trans rfl; have hfzq_gb708_0 := blk_frozen BK708.out 0; have hczq_gb708_1 : wr.cell? ⟨gb708, 1, none⟩ = some (.slice none 0 0) := (blk_cell BK708.out 1).trans rfl; have hfzq_gb708_1 := blk_frozen BK708.out 1; have hczq_gb709_0 : wr.cell? ⟨gb709, 0, none⟩ = some (.int .i64 (wrap64 (a0_0 * a1_0))) := (blk_cell BK709.out 0).trans rfl; have hfzq_gb709_0 := blk_frozen BK709.out 0; have hczq_gb709_1 : wr.cell? ⟨gb709, 1, none⟩ = some (u710001) := (blk_cell BK709.out 1).trans rfl; have hfzq_gb709_1 := blk_frozen BK709.out 1; have hczq_gb711_0 : wr.cell? ⟨gb711, 0, none⟩ = some (.int .i64 ((rd_T87 l0_1 x23_1).f0)) := (blk_cell BK711.out 0).trans rfl; have hfzq_gb711_0 := blk_frozen BK711.out 0; have hczq_gb711_1 : wr.cell? ⟨gb711, 1, none⟩ = some (.slice A710_1 ((rd_T87 l0_1 x23_1).f1).length c710_1) := (blk_cell BK711.out 1).trans rfl; have hfzq_gb711_1 := blk_frozen BK711.out 1; have hczq_gb712_0 : wr.cell? ⟨gb712, 0, none⟩ = some (.int .i64 ((rd_T87 l0_1 x23_1).f0)) := (blk_cell BK712.out 0).trans rfl; have hfzq_gb712_0 := blk_frozen BK712.out 0; have hczq_gb712_1 : wr.cell? ⟨gb712, 1, none⟩ = some (u713001) := (blk_cell BK712.out 1).trans rfl; have hfzq_gb712_1 := blk_frozen BK712.out 1)); have hnb77 := NB712_706.out; have hnc77 := NB706_712.out; have hnb78 := NB712_707.out; have hnc78 := NB707_712.out; have hnb79 := NB712_708.out; have hnc79 := NB708_712.out; have hcz80_0 : wr.cell? ⟨gb712, 0, none⟩ = some (.int .i64 ((rd_T87 l0_1 x23_1).f0)) := (blk_cell BK712.out 0).trans rfl; have hcz80_1 : wr.cell? ⟨gb712, 1, none⟩ = some (u713001) := (blk_cell BK712.out 1).trans rfl; have hfz80_0 := blk_frozen BK712.out 0; have hfz80_1 := blk_frozen BK712.out 1; obtain ⟨Ao82, co82, eo82⟩ := Kd.R_slice HO_713001.out; subst eo82) | ((with_reducible refine gate_builtin (b := .append) (xs := #[.tmp 94, .tmp 96]) rfl ?_); at_builtin; refine Kd.S_append k87 (w0 := w) w.heap.size rfl (.tmp 94) (.tmp 96) 28 87 (.agg #[(.int .i64 0), (.slice none 0 0)]) 32 rfl Try.underlying28 info87 rfl (by decide) (by omega) u710001 x710001_1 (⟨((rd_T87 l0_1 x23_1).f0), x713001_2⟩ : S87) [.int .i64 ((rd_T87 l0_1 x23_1).f0), .slice Ao82 x713001_2.length co82] (fun k_ => k_ ≠ gb711 ∧ k_ ≠ gb712) (fun k_ => some k_ = (.slice Ao82 x713001_2.length co82 : Value).ownBlock) rfl rfl ?aP (fun k_ hk_ => ((Kd.R_mono (ok' := fun k_ => ((fun k_ => k_ ≠ gb711 ∧ k_ ≠ gb712)) k_ ∧ some k_ ≠ (u710001 : Value).ownBlock) (Kd.R_types (Kd.R_types (Kd.R_apart' (HO_713001.out) (Kd.S_typed HO_710001.out) (by decide)) BK711.out (by decide)) BK712.out (by decide)) (fun k_ hk => ⟨⟨hk.1.2, hk.2⟩, hk.1.1.2⟩))).1 k_ hk_.symm) ?aF ?aO ?aB ?aS ?aL ?_; (case aP => exact k87_mkM _ _ _ (⟨((rd_T87 l0_1 x23_1).f0), x713001_2⟩ : S87) (Kd.R_mono (Kd.R_tight rfl (Kd.R_mono (ok' := fun k_ => ((fun k_ => k_ ≠ gb711 ∧ k_ ≠ gb712)) k_ ∧ some k_ ≠ (u710001 : Value).ownBlock) (Kd.R_types (Kd.R_types (Kd.R_apart' (HO_713001.out) (Kd.S_typed HO_710001.out) (by decide)) BK711.out (by decide)) BK712.out (by decide)) (fun k_ hk => ⟨⟨hk.1.2, hk.2⟩, hk.1.1.2⟩))) (fun _ h_ => h_))); (case aB => exact (by repeat (first | (with_reducible first | exact HB.out | apply below_alloc | apply pw_below_drewN | apply below_drew1 | refine below_set ?_ GE706.out | refine below_set ?_ GE707.out | refine below_set ?_ GE708.out | refine below_set ?_ GE709.out | refine below_set ?_ GE711.out | refine below_set ?_ GE712.out) | exact HB.out))); (case aF => exact (fun k_ hk => ⟨Kd.freshB (g := gb711) (o := .cells #[.int .i64 ((rd_T87 l0_1 x23_1).f0), .slice A710_1 ((rd_T87 l0_1 x23_1).f1).length c710_1] 87 (0, 0)) (by (with_reducible repeat (first | refine blk_drewN ?_ _ | refine blk_drew ?_ | refine blk_alloc ?_ _)); exact BK711.out) k_ hk, Kd.freshB (g := gb712) (o := .cells #[.int .i64 ((rd_T87 l0_1 x23_1).f0), .slice Ao82 x713001_2.length co82] 87 (0, 0)) (by (with_reducible repeat (first | refine blk_drewN ?_ _ | refine blk_drew ?_ | refine blk_alloc ?_ _)); exact BK712.out) k_ hk⟩)); (case aO => exact (by (with_reducible repeat (first | apply Kd.S_alloc | apply Kd.S_drewN | apply Kd.S_drew)); exact Kd.S_mono HO_710001.out (fun k_ hk => ⟨⟨hk.2.1, hk.2.2⟩, fun e_ => hk.1 e_⟩))); (case aS => exact (below_size (by repeat (first | (with_reducible first | exact HB.out | apply below_alloc | apply pw_below_drewN | apply below_drew1 | refine below_set ?_ GE706.out | refine below_set ?_ GE707.out | refine below_set ?_ GE708.out | refine below_set ?_ GE709.out | refine below_set ?_ GE711.out | refine below_set ?_ GE712.out) | exact HB.out)))); (case aL => have := LMc65.out; omega); intro v715 w81 ho hb hg hat; rw [← Ny714.out] at ho; have n0_ := Aside0.mk (blk_grown (g := gb706) (o := .cells #[.int .i64 a0_0, .slice (some ad710) l0_1.length c0_1] 30 (0, 0)) (by (with_reducible repeat (first | refine blk_drewN ?_ _ | refine blk_drew ?_ | refine blk_alloc ?_ _)); exact BK706.out) hg (Kd.S_ne HO_710001.out BK706.out (by decide))); have n1_ := Aside0.mk (blk_grown (g := gb707) (o := .cells #[.int .i64 a1_0, .slice A1_1 l1_1.length c1_1] 30 (0, 0)) (by (with_reducible repeat (first | refine blk_drewN ?_ _ | refine blk_drew ?_ | refine blk_alloc ?_ _)); exact BK707.out) hg (Kd.S_ne HO_710001.out BK707.out (by decide))); have n2_ := Aside0.mk (blk_grown (g := gb708) (o := .cells #[.int .i64 0, .slice none 0 0] 30 (0, 0)) (by (with_reducible repeat (first | refine blk_drewN ?_ _ | refine blk_drew ?_ | refine blk_alloc ?_ _)); exact BK708.out) hg (Kd.S_ne HO_710001.out BK708.out (by decide))); have n3_ := Aside0.mk (blk_grown (g := gb709) (o := .cells #[.int .i64 (wrap64 (a0_0 * a1_0)), u710001] 30 (0, 0)) (by (with_reducible repeat (first | refine blk_drewN ?_ _ | refine blk_drew ?_ | refine blk_alloc ?_ _)); exact BK709.out) hg (Kd.S_ne HO_710001.out BK709.out (by decide))); have n4_ := Aside0.mk (blk_grown (g := gb711) (o := .cells #[.int .i64 ((rd_T87 l0_1 x23_1).f0), .slice A710_1 ((rd_T87 l0_1 x23_1).f1).length c710_1] 87 (0, 0)) (by (with_reducible repeat (first | refine blk_drewN ?_ _ | refine blk_drew ?_ | refine blk_alloc ?_ _)); exact BK711.out) hg (Kd.S_away HO_710001.out (fun _ hk => hk.2.1))); have n5_ := Aside0.mk (blk_grown (g := gb712) (o := .cells #[.int .i64 ((rd_T87 l0_1 x23_1).f0), .slice Ao82 x713001_2.length co82] 87 (0, 0)) (by (with_reducible repeat (first | refine blk_drewN ?_ _ | refine blk_drew ?_ | refine blk_alloc ?_ _)); exact BK712.out) hg (Kd.S_away HO_710001.out (fun _ hk => hk.2.2))); have n6_ := Aside0.mk (hb); have n7_ := Aside0.mk (ho); clear BK706; clear BK707; clear BK708; clear BK709; clear BK711; clear BK712; clear HB; clear HO_710001; clear HO_713001; have BK706 := n0_; have BK707 := n1_; have BK708 := n2_; have BK709 := n3_; have BK711 := n4_; have BK712 := n5_; have HB := n6_; have HO716 := n7_; clear n0_ n1_ n2_ n3_ n4_ n5_ n6_ n7_; clear ho hb hg hat; obtain ⟨Ao83, co83, eo83⟩ := Kd.S_slice HO716.out; subst eo83; have hcz84_0 : w81.cell? ⟨gb709, 0, none⟩ = some (.int .i64 (wrap64 (a0_0 * a1_0))) := (blk_cell BK709.out 0).trans rfl; have hcz84_1 : w81.cell? ⟨gb709, 1, none⟩ = some (u710001) := (blk_cell BK709.out 1).trans rfl; have hfz84_0 := blk_frozen BK709.out 0; have hfz84_1 := blk_frozen BK709.out 1))
                    go_roundg k2
                    case measure => have := HK1.out; have := HK2.out; omega
                    case rel => exact ⟨(wrap64 (x23_1 + 1)), (y714), (.slice Ao83 y714.length co83), (by first | rfl | (simp; done) | (simp [*]; done)), H', ⟨by have := HK1.out; have := HK2.out; omega⟩, ⟨by (with_reducible repeat (first | apply Kd.S_alloc | apply Kd.S_drewN | apply Kd.S_drew)); exact Kd.S_mono (Kd.S_far (p := ⟨gb709, 1, none⟩) (Kd.S_types HO716.out BK709.out (by decide)) (fun _ hk => hk.2) (.slice Ao83 y714.length co83)) (fun _ hk => trivial)⟩, ⟨by (with_reducible repeat (first | refine blk_drewN ?_ _ | refine blk_drew ?_ | refine blk_alloc ?_ _)); refine blk_far ?_ NB706_709.out _; (with_reducible repeat (first | refine blk_drewN ?_ _ | refine blk_drew ?_ | refine blk_alloc ?_ _)); exact BK706.out⟩, ⟨by (with_reducible repeat (first | refine blk_drewN ?_ _ | refine blk_drew ?_ | refine blk_alloc ?_ _)); refine blk_far ?_ NB707_709.out _; (with_reducible repeat (first | refine blk_drewN ?_ _ | refine blk_drew ?_ | refine blk_alloc ?_ _)); exact BK707.out⟩, ⟨by (with_reducible repeat (first | refine blk_drewN ?_ _ | refine blk_drew ?_ | refine blk_alloc ?_ _)); refine blk_far ?_ NB708_709.out _; (with_reducible repeat (first | refine blk_drewN ?_ _ | refine blk_drew ?_ | refine blk_alloc ?_ _)); exact BK708.out⟩, ⟨by (with_reducible repeat (first | refine blk_drewN ?_ _ | refine blk_drew ?_ | refine blk_alloc ?_ _)); refine blk_put (cs := #[.int .i64 (wrap64 (a0_0 * a1_0)), u710001]) ?_ 1 _ rfl; (with_reducible repeat (first | refine blk_drewN ?_ _ | refine blk_drew ?_ | refine blk_alloc ?_ _)); exact BK709.out⟩, ⟨by repeat (first | (with_reducible first | exact HB.out | apply below_alloc | apply pw_below_drewN | apply below_drew1 | refine below_set ?_ GE706.out | refine below_set ?_ GE707.out | refine below_set ?_ GE708.out | refine below_set ?_ GE709.out | refine below_set ?_ GE711.out | refine below_set ?_ GE712.out) | exact HB.out)⟩⟩
                  · rw [if_neg c65] at H
                    exact absurd H (by simp)
          · rw [if_neg c19] at H
            exact absurd H (by simp)
        · rw [if_neg c18] at H
          exact absurd H (by simp)
      · rw [if_neg c17] at H
        have c17b0 : decide (x23_1 < (l0_1.length : Int)) = false := decide_eq_false c17
        clear c17
        simp only [Option.some.injEq, Prod.mk.injEq] at H
        obtain ⟨rfl, rfl⟩ := H
        have hnb85 := NB709_706.out
        have hnc85 := NB706_709.out
        have hnb86 := NB709_707.out
        have hnc86 := NB707_709.out
        have hnb87 := NB709_708.out
        have hnc87 := NB708_709.out
        have hcz88_0 : wr.cell? ⟨gb709, 0, none⟩ = some (.int .i64 (wrap64 (a0_0 * a1_0))) := (blk_cell BK709.out 0).trans rfl
        have hcz88_1 : wr.cell? ⟨gb709, 1, none⟩ = some (u710001) := (blk_cell BK709.out 1).trans rfl
        have hfz88_0 := blk_frozen BK709.out 0
        have hfz88_1 := blk_frozen BK709.out 1
        have hnb89 := NB708_706.out
        have hnc89 := NB706_708.out
        have hnb90 := NB708_707.out
        have hnc90 := NB707_708.out
        have hcz91_0 : wr.cell? ⟨gb708, 0, none⟩ = some (.int .i64 0) := (blk_cell BK708.out 0).trans rfl
        have hcz91_1 : wr.cell? ⟨gb708, 1, none⟩ = some (.slice none 0 0) := (blk_cell BK708.out 1).trans rfl
        have hfz91_0 := blk_frozen BK708.out 0
        have hfz91_1 := blk_frozen BK708.out 1
        obtain ⟨Ao92, co92, eo92⟩ := Kd.S_slice HO_710001.out
        subst eo92
        go_wp2
        refine bodyPost_ret (results_cell_row rfl _ _ gb708 30 #[.int .i64 (wrap64 (a0_0 * a1_0)), .slice Ao92 x710001_1.length co92] (0, 0) _ rfl (by (with_reducible repeat (first | refine blk_drewN ?_ _ | refine blk_drew ?_ | refine blk_alloc ?_ _)); refine blk_put (cs := #[.int .i64 (wrap64 (a0_0 * a1_0)), .slice none 0 0]) ?_ 1 _ rfl; (with_reducible repeat (first | refine blk_drewN ?_ _ | refine blk_drew ?_ | refine blk_alloc ?_ _)); refine blk_put (cs := #[.int .i64 0, .slice none 0 0]) ?_ 0 _ rfl; (with_reducible repeat (first | refine blk_drewN ?_ _ | refine blk_drew ?_ | refine blk_alloc ?_ _)); exact BK708.out) Try.underlying30 rfl (by kernel_rfl)) rfl ?_
        exact ⟨_, by first | rfl | (simp [errW_none, errW_some] <;> rfl) | (simp [*, errW_none, errW_some] <;> rfl), by (with_reducible repeat (first | apply Kd.S_alloc | apply Kd.S_drewN | apply Kd.S_drew)); exact Kd.S_mono (Kd.S_far (p := ⟨gb708, 1, none⟩) (Kd.S_far (p := ⟨gb708, 0, none⟩) (Kd.S_types HO_710001.out BK708.out (by decide)) (fun _ hk => hk.2) (.int .i64 (wrap64 (a0_0 * a1_0)))) (fun _ hk => hk.2) (.slice Ao92 x710001_1.length co92)) (fun _ hk => trivial), by repeat (first | (with_reducible first | exact HB.out | apply below_alloc | apply pw_below_drewN | apply below_drew1 | refine below_set ?_ GE706.out | refine below_set ?_ GE707.out | refine below_set ?_ GE708.out | refine below_set ?_ GE709.out) | exact HB.out)⟩
end Go.Proofs.Ytijnfpfijgmopaa.Q

namespace Go.Proofs.Ytijnfpfijgmopaa.Q
open Go.RowKit Go.Proofs.YtijnfpfijgmopaaW.PrintWords Go.Proofs.YtijnfpfijgmopaaW.PrintLast Go.Proofs.YtijnfpfijgmopaaW.PrintMore
attribute [local go_sem] max2_int min2_int max_two min_two max_three min_three max_four min_four
set_option linter.unusedVariables false
set_option linter.unusedSimpArgs false
def impl_trivialLike.l0 : Nat → List (S87) → Int → Int → Int → List (S87) → Option (Int × (List (S87)))
  | 0, _, _, _, _, _ => none
  | k + 1, x8, x9, x10, x921000, x921001 => if x10 < x9 then (if 0 ≤ x10 then (if x10 < (x8.length : Int) then (if x921001.length < 4398046511104 then (impl_trivialLike.l0 k x8 x9 (wrap64 (x10 + 1)) x921000 (x921001 ++ [(⟨(rd_T87 x8 x10).f0, (([0] : List Int))⟩ : S87)])) else (none)) else (none)) else (none)) else (some (x921000, x921001))
def impl_trivialLike.f (k : Nat) (a0_0 : Int) (l0_1 : List (S87)) : Option (Int × (List (S87))) := impl_trivialLike.l0 k l0_1 (l0_1.length : Int) 0 1 ([] : List (S87))
theorem impl_trivialLike.mono_l : ∀ k, (∀ y0 y1 y2 y3 y4, LeO (impl_trivialLike.l0 k y0 y1 y2 y3 y4) (impl_trivialLike.l0 (k + 1) y0 y1 y2 y3 y4))
  | 0 => fun _ _ _ _ _ r h => by simp [impl_trivialLike.l0] at h
  | k + 1 => by
    have ih0 := impl_trivialLike.mono_l k
    · intro y0 y1 y2 y3 y4
      unfold impl_trivialLike.l0
      repeat' first
      | (with_reducible exact ih0 _ _ _ _ _)
      | (with_reducible exact LeO.refl _)
      | (with_reducible exact LeO.none _)
      | (with_reducible refine LeO.ite ?_ ?_)
      | (with_reducible refine LeO.bind ?_ (fun _ => ?_))
      | exact ih0 _ _ _ _ _
      | exact LeO.none _
      | refine LeO.ite ?_ ?_
      | refine LeO.bind ?_ (fun _ => ?_)
theorem impl_trivialLike.mono : ∀ a0 a1 k, LeO (impl_trivialLike.f k a0 a1) (impl_trivialLike.f (k + 1) a0 a1) := by
  intro a0 a1 k
  have ih0 := impl_trivialLike.mono_l k
  unfold impl_trivialLike.f
  repeat' first
      | (with_reducible exact ih0 _ _ _ _ _)
      | (with_reducible exact LeO.refl _)
      | (with_reducible exact LeO.none _)
      | (with_reducible refine LeO.ite ?_ ?_)
      | (with_reducible refine LeO.bind ?_ (fun _ => ?_))
      | exact ih0 _ _ _ _ _
      | exact LeO.none _
      | refine LeO.ite ?_ ?_
      | refine LeO.bind ?_ (fun _ => ?_)
set_option maxHeartbeats 8000000 in
set_option maxRecDepth 100000 in
theorem impl_trivialLike.calls (k : Nat) (a0_0 : Int) (A0_1 : Option Addr) (c0_1 : Nat) (l0_1 : List (S87)) (r1 : Int) (r2 : List (S87)) (w : World) (hr0_1 : Kd.C k87 w A0_1 l0_1.length l0_1) (hc0_1 : l0_1.length ≤ c0_1) (h : impl_trivialLike.f k a0_0 l0_1 = some (r1, r2)) :
    Calls Try.prog 103 #[.agg #[.int .i64 a0_0, .slice A0_1 l0_1.length c0_1]] w fun e w' => ∃ v1_ : Value, e = .returned (.agg #[.int .i64 r1, v1_]) ∧ Kd.S k87 87 w' w.heap.size (fun _ => True) v1_ r2 ∧ Below w.heap.size w w' := by
  have hu30 := Try.underlying30
  have hu87 := Try.underlying87
  have HR0_1 := Aside0.mk hr0_1
  have HC0_1 := Aside0.mk hc0_1
  clear hr0_1 hc0_1
  have HB := Aside0.mk (Below.refl w.heap.size w)
  have H : (impl_trivialLike.l0 k l0_1 (l0_1.length : Int) 0 1 ([] : List (S87))) = some (r1, r2) := h
  clear h
  have H' := Aside0.mk H
  clear H
  go_enter Try.func103, Try.ntmps103
  go_wp2_with (first | ((with_reducible refine gate_dst (N := 1) rfl ?_); refine box_event ?hg (N := 1) ?hd (cs := #[.int .i64 a0_0, .slice A0_1 l0_1.length c0_1]) (t := 30) ?hr ?_; (case hd => rfl); (case hg => rfl); (case hr => first | (go_simp; done) | (go_simp; rfl)); intro gb918 hg w2 hbox hb; have n0_ := Aside0.mk (below_step (by repeat (first | (with_reducible first | exact HB.out | apply below_alloc | apply pw_below_drewN | apply below_drew1) | exact HB.out)) hb); have n1_ := Aside0.mk (hbox); have n2_ := Aside0.mk ((by rw [hg]; exact (below_size (by repeat (first | (with_reducible first | exact HB.out | apply below_alloc | apply pw_below_drewN | apply below_drew1) | exact HB.out))) : w.heap.size ≤ gb918)); have n3_ := Aside0.mk ((by rw [hg]; exact (below_size (by repeat (first | (with_reducible first | exact HB.out | apply below_alloc | apply pw_below_drewN | apply below_drew1) | exact HB.out))) : w.heap.size ≤ gb918)); clear HB; have HB := n0_; have BK918 := n1_; have GW918 := n2_; have GE918 := n3_; clear n0_ n1_ n2_ n3_; clear hb hbox hg) | ((with_reducible refine gate_dst (N := 2) rfl ?_); refine box_event ?hg (N := 2) ?hd (cs := #[.int .i64 0, .slice none 0 0]) (t := 30) ?hr ?_; (case hd => rfl); (case hg => rfl); (case hr => first | (go_simp; done) | (go_simp; rfl)); intro gb919 hg w3 hbox hb; have n0_ := Aside0.mk (blk_below (g := gb918) (o := .cells #[.int .i64 a0_0, .slice A0_1 l0_1.length c0_1] 30 (0, 0)) (by (with_reducible repeat (first | refine blk_drewN ?_ _ | refine blk_drew ?_ | refine blk_alloc ?_ _)); exact BK918.out) hb); have n1_ := Aside0.mk (below_step (by repeat (first | (with_reducible first | exact HB.out | apply below_alloc | apply pw_below_drewN | apply below_drew1 | refine below_set ?_ GE918.out) | exact HB.out)) hb); have n2_ := Aside0.mk (hbox); have n3_ := Aside0.mk ((by rw [hg]; exact (below_size (by repeat (first | (with_reducible first | exact HB.out | apply below_alloc | apply pw_below_drewN | apply below_drew1 | refine below_set ?_ GE918.out) | exact HB.out))) : w.heap.size ≤ gb919)); have n4_ := Aside0.mk ((by rw [hg]; exact (below_size (by repeat (first | (with_reducible first | exact HB.out | apply below_alloc | apply pw_below_drewN | apply below_drew1 | refine below_set ?_ GE918.out) | exact HB.out))) : w.heap.size ≤ gb919)); have n5_ := Aside0.mk ((by rw [hg]; exact Nat.ne_of_lt (blk_lt (g := gb918) (o := .cells #[.int .i64 a0_0, .slice A0_1 l0_1.length c0_1] 30 (0, 0)) (by (with_reducible repeat (first | refine blk_drewN ?_ _ | refine blk_drew ?_ | refine blk_alloc ?_ _)); exact BK918.out)) : gb918 ≠ gb919)); have n6_ := Aside0.mk ((by rw [hg]; exact Nat.ne_of_gt (blk_lt (g := gb918) (o := .cells #[.int .i64 a0_0, .slice A0_1 l0_1.length c0_1] 30 (0, 0)) (by (with_reducible repeat (first | refine blk_drewN ?_ _ | refine blk_drew ?_ | refine blk_alloc ?_ _)); exact BK918.out)) : gb919 ≠ gb918)); clear BK918; clear HB; have BK918 := n0_; have HB := n1_; have BK919 := n2_; have GW919 := n3_; have GE919 := n4_; have NB918_919 := n5_; have NB919_918 := n6_; clear n0_ n1_ n2_ n3_ n4_ n5_ n6_; clear hb hbox hg) | ((with_reducible refine gate_dst (N := 3) rfl ?_); refine box_event ?hg (N := 3) ?hd (cs := #[.int .i64 0, .slice none 0 0]) (t := 30) ?hr ?_; (case hd => rfl); (case hg => rfl); (case hr => first | (go_simp; done) | (go_simp; rfl)); intro gb920 hg w4 hbox hb; have n0_ := Aside0.mk (blk_below (g := gb918) (o := .cells #[.int .i64 a0_0, .slice A0_1 l0_1.length c0_1] 30 (0, 0)) (by (with_reducible repeat (first | refine blk_drewN ?_ _ | refine blk_drew ?_ | refine blk_alloc ?_ _)); exact BK918.out) hb); have n1_ := Aside0.mk (blk_below (g := gb919) (o := .cells #[.int .i64 0, .slice none 0 0] 30 (0, 0)) (by (with_reducible repeat (first | refine blk_drewN ?_ _ | refine blk_drew ?_ | refine blk_alloc ?_ _)); exact BK919.out) hb); have n2_ := Aside0.mk (below_step (by repeat (first | (with_reducible first | exact HB.out | apply below_alloc | apply pw_below_drewN | apply below_drew1 | refine below_set ?_ GE918.out | refine below_set ?_ GE919.out) | exact HB.out)) hb); have n3_ := Aside0.mk (hbox); have n4_ := Aside0.mk ((by rw [hg]; exact (below_size (by repeat (first | (with_reducible first | exact HB.out | apply below_alloc | apply pw_below_drewN | apply below_drew1 | refine below_set ?_ GE918.out | refine below_set ?_ GE919.out) | exact HB.out))) : w.heap.size ≤ gb920)); have n5_ := Aside0.mk ((by rw [hg]; exact (below_size (by repeat (first | (with_reducible first | exact HB.out | apply below_alloc | apply pw_below_drewN | apply below_drew1 | refine below_set ?_ GE918.out | refine below_set ?_ GE919.out) | exact HB.out))) : w.heap.size ≤ gb920)); have n6_ := Aside0.mk ((by rw [hg]; exact Nat.ne_of_lt (blk_lt (g := gb918) (o := .cells #[.int .i64 a0_0, .slice A0_1 l0_1.length c0_1] 30 (0, 0)) (by (with_reducible repeat (first | refine blk_drewN ?_ _ | refine blk_drew ?_ | refine blk_alloc ?_ _)); exact BK918.out)) : gb918 ≠ gb920)); have n7_ := Aside0.mk ((by rw [hg]; exact Nat.ne_of_gt (blk_lt (g := gb918) (o := .cells #[.int .i64 a0_0, .slice A0_1 l0_1.length c0_1] 30 (0, 0)) (by (with_reducible repeat (first | refine blk_drewN ?_ _ | refine blk_drew ?_ | refine blk_alloc ?_ _)); exact BK918.out)) : gb920 ≠ gb918)); have n8_ := Aside0.mk ((by rw [hg]; exact Nat.ne_of_lt (blk_lt (g := gb919) (o := .cells #[.int .i64 0, .slice none 0 0] 30 (0, 0)) (by (with_reducible repeat (first | refine blk_drewN ?_ _ | refine blk_drew ?_ | refine blk_alloc ?_ _)); exact BK919.out)) : gb919 ≠ gb920)); have n9_ := Aside0.mk ((by rw [hg]; exact Nat.ne_of_gt (blk_lt (g := gb919) (o := .cells #[.int .i64 0, .slice none 0 0] 30 (0, 0)) (by (with_reducible repeat (first | refine blk_drewN ?_ _ | refine blk_drew ?_ | refine blk_alloc ?_ _)); exact BK919.out)) : gb920 ≠ gb919)); clear BK918; clear BK919; clear HB; have BK918 := n0_; have BK919 := n1_; have HB := n2_; have BK920 := n3_; have GW920 := n4_; have GE920 := n5_; have NB918_920 := n6_; have NB920_918 := n7_; have NB919_920 := n8_; have NB920_919 := n9_; clear n0_ n1_ n2_ n3_ n4_ n5_ n6_ n7_ n8_ n9_; clear hb hbox hg; have hnb5 := NB920_918.out; have hnc5 := NB918_920.out; have hnb6 := NB920_919.out; have hnc6 := NB919_920.out; have hcz7_0 : w4.cell? ⟨gb920, 0, none⟩ = some (.int .i64 0) := (blk_cell BK920.out 0).trans rfl; have hcz7_1 : w4.cell? ⟨gb920, 1, none⟩ = some (.slice none 0 0) := (blk_cell BK920.out 1).trans rfl; have hfz7_0 := blk_frozen BK920.out 0; have hfz7_1 := blk_frozen BK920.out 1; have hnb8 := NB918_919.out; have hnc8 := NB919_918.out; have hcz9_0 : w4.cell? ⟨gb918, 0, none⟩ = some (.int .i64 a0_0) := (blk_cell BK918.out 0).trans rfl; have hcz9_1 : w4.cell? ⟨gb918, 1, none⟩ = some (.slice A0_1 l0_1.length c0_1) := (blk_cell BK918.out 1).trans rfl; have hfz9_0 := blk_frozen BK918.out 0; have hfz9_1 := blk_frozen BK918.out 1))
  go_loopg [10] k (fun kq v10 w' => ∃ (x10_1 : Int) (x921001_1 : List (S87)) (u921001 : Value), v10 = .int .i64 x10_1 ∧ Aside0 (impl_trivialLike.l0 kq l0_1 (l0_1.length : Int) x10_1 1 x921001_1 = some (r1, r2)) ∧ Aside0 (kq ≤ k) ∧ Aside0 (Kd.S k87 87 w' w.heap.size (fun _ => True) u921001 x921001_1) ∧ Aside0 (w'.heap[gb918]? = some (.cells #[.int .i64 a0_0, (.slice A0_1 l0_1.length c0_1)] 30 (0, 0))) ∧ Aside0 (w'.heap[gb919]? = some (.cells #[.int .i64 0, (.slice none 0 0)] 30 (0, 0))) ∧ Aside0 (w'.heap[gb920]? = some (.cells #[.int .i64 1, u921001] 30 (0, 0))) ∧ Aside0 (Below w.heap.size w w'))
  case atStart => exact ⟨(0), (([] : List (S87))), (.slice none 0 0), (by first | rfl | (simp; done) | (simp [*]; done)), H', ⟨Nat.le_refl _⟩, ⟨by first | exact Kd.S_nil _ _ _ _ _ | exact Kd.N_nil _ _ _ _ _ | exact Kd.V_nil _ _ _ _ _ | exact Kd.Q_nil _ _ _ _ _ | exact Kd.R_nil _ _ _ _ _⟩, ⟨by (with_reducible repeat (first | refine blk_drewN ?_ _ | refine blk_drew ?_ | refine blk_alloc ?_ _)); refine blk_far ?_ NB918_920.out _; (with_reducible repeat (first | refine blk_drewN ?_ _ | refine blk_drew ?_ | refine blk_alloc ?_ _)); refine blk_far ?_ NB918_920.out _; (with_reducible repeat (first | refine blk_drewN ?_ _ | refine blk_drew ?_ | refine blk_alloc ?_ _)); exact BK918.out⟩, ⟨by (with_reducible repeat (first | refine blk_drewN ?_ _ | refine blk_drew ?_ | refine blk_alloc ?_ _)); refine blk_far ?_ NB919_920.out _; (with_reducible repeat (first | refine blk_drewN ?_ _ | refine blk_drew ?_ | refine blk_alloc ?_ _)); refine blk_far ?_ NB919_920.out _; (with_reducible repeat (first | refine blk_drewN ?_ _ | refine blk_drew ?_ | refine blk_alloc ?_ _)); exact BK919.out⟩, ⟨by (with_reducible repeat (first | refine blk_drewN ?_ _ | refine blk_drew ?_ | refine blk_alloc ?_ _)); refine blk_put (cs := #[.int .i64 1, .slice none 0 0]) ?_ 1 _ rfl; (with_reducible repeat (first | refine blk_drewN ?_ _ | refine blk_drew ?_ | refine blk_alloc ?_ _)); refine blk_put (cs := #[.int .i64 0, .slice none 0 0]) ?_ 0 _ rfl; (with_reducible repeat (first | refine blk_drewN ?_ _ | refine blk_drew ?_ | refine blk_alloc ?_ _)); exact BK920.out⟩, ⟨by repeat (first | (with_reducible first | exact HB.out | apply below_alloc | apply pw_below_drewN | apply below_drew1 | refine below_set ?_ GE918.out | refine below_set ?_ GE919.out | refine below_set ?_ GE920.out) | exact HB.out)⟩⟩
  case round =>
    clear H'
    try clear c1
    try clear p2
    try clear c5
    try clear c6
    try clear c8
    try clear hcz7_0
    try clear hcz7_1
    try clear hcz9_0
    try clear hcz9_1
    try clear hfz7_0
    try clear hfz7_1
    try clear hfz9_0
    try clear hfz9_1
    obtain ⟨x10_1, x921001_1, u921001, rfl, HA, HK1, HO_921001, BK918, BK919, BK920, HB⟩ := hrel
    cases gk with
    | zero => exact absurd HA.out (by simp [impl_trivialLike.l0])
    | succ k1 =>
      have H := HA.out
      clear HA
      simp only [impl_trivialLike.l0] at H
      by_cases c10 : x10_1 < (l0_1.length : Int)
      · rw [if_pos c10] at H
        have c10b0 : decide (x10_1 < (l0_1.length : Int)) = true := decide_eq_true c10
        clear c10
        by_cases c11 : 0 ≤ x10_1
        · rw [if_pos c11] at H
          have c11b0 : decide (0 ≤ x10_1) = true := decide_eq_true c11
          clear c11
          by_cases c12 : x10_1 < (l0_1.length : Int)
          · rw [if_pos c12] at H
            have c12b0 : decide (x10_1 < (l0_1.length : Int)) = true := decide_eq_true c12
            clear c12
            obtain ⟨y923, hy923⟩ : ∃ y_ : List Int, y_ = (([0] : List Int)) := ⟨_, rfl⟩
            replace H : (if x921001_1.length < 4398046511104 then (impl_trivialLike.l0 k1 l0_1 (l0_1.length : Int) (wrap64 (x10_1 + 1)) 1 (x921001_1 ++ [(⟨(rd_T87 l0_1 x10_1).f0, y923⟩ : S87)])) else (none)) = some (r1, r2) := by first | (rw [hy923]; with_reducible exact H) | (have H2_ := (Option.bind_some _ _).symm.trans H; rw [hy923]; with_reducible exact H2_) | (have H2_ := (Option.bind_some _ _).symm.trans H; with_reducible exact H2_) | with_reducible exact H | (rw [hy923]; exact H) | exact H
            have Ny923 := Aside0.mk hy923
            clear hy923
            by_cases c13 : x921001_1.length < 4398046511104
            · rw [if_pos c13] at H
              have LMc13 := Aside0.mk c13
              clear c13
              obtain ⟨y926, hy926⟩ : ∃ y_ : List (S87), y_ = (x921001_1 ++ [(⟨(rd_T87 l0_1 x10_1).f0, y923⟩ : S87)]) := ⟨_, rfl⟩
              replace H : (impl_trivialLike.l0 k1 l0_1 (l0_1.length : Int) (wrap64 (x10_1 + 1)) 1 y926) = some (r1, r2) := by first | (rw [hy926]; with_reducible exact H) | (have H2_ := (Option.bind_some _ _).symm.trans H; rw [hy926]; with_reducible exact H2_) | (have H2_ := (Option.bind_some _ _).symm.trans H; with_reducible exact H2_) | with_reducible exact H | (rw [hy926]; exact H) | exact H
              have Ny926 := Aside0.mk hy926
              clear hy926
              have H' := Aside0.mk H
              clear H
              have p921 : 0 ≤ (x10_1 : Int) := of_decide_eq_true (by first | (with_reducible assumption) | assumption)
              have q921 : x10_1 < (l0_1.length : Int) := of_decide_eq_true (by first | (with_reducible assumption) | assumption)
              obtain ⟨ad921, A921_1, c921_1, e921, hx921_0, hx921_1, hl921_1, hi921_1⟩ := at_T87 HR0_1.out x10_1 p921 q921
              cases e921
              replace hx921_0 := (HB.out.cell (World.block_lt_of_cell? w _ hx921_0)).trans hx921_0
              replace hx921_1 := (HB.out.cell (World.block_lt_of_cell? w _ hx921_1)).trans hx921_1
              have HR921_1 := Aside0.mk hi921_1
              have HC921_1 := Aside0.mk hl921_1
              clear hi921_1 hl921_1
              replace p921 := eq_true p921
              replace q921 := eq_true q921
              go_wp2_with (first | ((with_reducible refine gate_dst (N := 5) rfl ?_); refine box_event ?hg (N := 5) ?hd (cs := #[.int .i64 0, .slice none 0 0]) (t := 87) ?hr ?_; (case hd => rfl); (case hg => rfl); (case hr => first | (go_simp; done) | (go_simp; rfl)); intro gb922 hg w14 hbox hb; have n0_ := Aside0.mk (Kd.S_below (Kd.S_elderB (by (with_reducible repeat (first | apply Kd.S_alloc | apply Kd.S_drewN | apply Kd.S_drew)); exact HO_921001.out) gb922 (Nat.le_of_eq hg.symm)) hb); have n1_ := Aside0.mk (blk_below (g := gb918) (o := .cells #[.int .i64 a0_0, .slice (some ad921) l0_1.length c0_1] 30 (0, 0)) (by (with_reducible repeat (first | refine blk_drewN ?_ _ | refine blk_drew ?_ | refine blk_alloc ?_ _)); exact BK918.out) hb); have n2_ := Aside0.mk (blk_below (g := gb919) (o := .cells #[.int .i64 0, .slice none 0 0] 30 (0, 0)) (by (with_reducible repeat (first | refine blk_drewN ?_ _ | refine blk_drew ?_ | refine blk_alloc ?_ _)); exact BK919.out) hb); have n3_ := Aside0.mk (blk_below (g := gb920) (o := .cells #[.int .i64 1, u921001] 30 (0, 0)) (by (with_reducible repeat (first | refine blk_drewN ?_ _ | refine blk_drew ?_ | refine blk_alloc ?_ _)); exact BK920.out) hb); have n4_ := Aside0.mk (below_step (by repeat (first | (with_reducible first | exact HB.out | apply below_alloc | apply pw_below_drewN | apply below_drew1 | refine below_set ?_ GE918.out | refine below_set ?_ GE919.out | refine below_set ?_ GE920.out) | exact HB.out)) hb); have n5_ := Aside0.mk (hbox); have n6_ := Aside0.mk ((by rw [hg]; exact (below_size (by repeat (first | (with_reducible first | exact HB.out | apply below_alloc | apply pw_below_drewN | apply below_drew1 | refine below_set ?_ GE918.out | refine below_set ?_ GE919.out | refine below_set ?_ GE920.out) | exact HB.out))) : w.heap.size ≤ gb922)); have n7_ := Aside0.mk ((by rw [hg]; exact (below_size (by repeat (first | (with_reducible first | exact HB.out | apply below_alloc | apply pw_below_drewN | apply below_drew1 | refine below_set ?_ GE918.out | refine below_set ?_ GE919.out | refine below_set ?_ GE920.out) | exact HB.out))) : w.heap.size ≤ gb922)); have n8_ := Aside0.mk ((by rw [hg]; exact Nat.ne_of_lt (blk_lt (g := gb918) (o := .cells #[.int .i64 a0_0, .slice (some ad921) l0_1.length c0_1] 30 (0, 0)) (by (with_reducible repeat (first | refine blk_drewN ?_ _ | refine blk_drew ?_ | refine blk_alloc ?_ _)); exact BK918.out)) : gb918 ≠ gb922)); have n9_ := Aside0.mk ((by rw [hg]; exact Nat.ne_of_gt (blk_lt (g := gb918) (o := .cells #[.int .i64 a0_0, .slice (some ad921) l0_1.length c0_1] 30 (0, 0)) (by (with_reducible repeat (first | refine blk_drewN ?_ _ | refine blk_drew ?_ | refine blk_alloc ?_ _)); exact BK918.out)) : gb922 ≠ gb918)); have n10_ := Aside0.mk ((by rw [hg]; exact Nat.ne_of_lt (blk_lt (g := gb919) (o := .cells #[.int .i64 0, .slice none 0 0] 30 (0, 0)) (by (with_reducible repeat (first | refine blk_drewN ?_ _ | refine blk_drew ?_ | refine blk_alloc ?_ _)); exact BK919.out)) : gb919 ≠ gb922)); have n11_ := Aside0.mk ((by rw [hg]; exact Nat.ne_of_gt (blk_lt (g := gb919) (o := .cells #[.int .i64 0, .slice none 0 0] 30 (0, 0)) (by (with_reducible repeat (first | refine blk_drewN ?_ _ | refine blk_drew ?_ | refine blk_alloc ?_ _)); exact BK919.out)) : gb922 ≠ gb919)); have n12_ := Aside0.mk ((by rw [hg]; exact Nat.ne_of_lt (blk_lt (g := gb920) (o := .cells #[.int .i64 1, u921001] 30 (0, 0)) (by (with_reducible repeat (first | refine blk_drewN ?_ _ | refine blk_drew ?_ | refine blk_alloc ?_ _)); exact BK920.out)) : gb920 ≠ gb922)); have n13_ := Aside0.mk ((by rw [hg]; exact Nat.ne_of_gt (blk_lt (g := gb920) (o := .cells #[.int .i64 1, u921001] 30 (0, 0)) (by (with_reducible repeat (first | refine blk_drewN ?_ _ | refine blk_drew ?_ | refine blk_alloc ?_ _)); exact BK920.out)) : gb922 ≠ gb920)); clear HO_921001; clear BK918; clear BK919; clear BK920; clear HB; have HO_921001 := n0_; have BK918 := n1_; have BK919 := n2_; have BK920 := n3_; have HB := n4_; have BK922 := n5_; have GW922 := n6_; have GE922 := n7_; have NB918_922 := n8_; have NB922_918 := n9_; have NB919_922 := n10_; have NB922_919 := n11_; have NB920_922 := n12_; have NB922_920 := n13_; clear n0_ n1_ n2_ n3_ n4_ n5_ n6_ n7_ n8_ n9_ n10_ n11_ n12_ n13_; clear hb hbox hg; have hnb15 := NB922_918.out; have hnc15 := NB918_922.out; have hnb16 := NB922_919.out; have hnc16 := NB919_922.out; have hnb17 := NB922_920.out; have hnc17 := NB920_922.out; have hcz18_0 : w14.cell? ⟨gb922, 0, none⟩ = some (.int .i64 0) := (blk_cell BK922.out 0).trans rfl; have hcz18_1 : w14.cell? ⟨gb922, 1, none⟩ = some (.slice none 0 0) := (blk_cell BK922.out 1).trans rfl; have hfz18_0 := blk_frozen BK922.out 0; have hfz18_1 := blk_frozen BK922.out 1; have hnb19 := NB920_918.out; have hnc19 := NB918_920.out; have hnb20 := NB920_919.out; have hnc20 := NB919_920.out; have hcz21_0 : w14.cell? ⟨gb920, 0, none⟩ = some (.int .i64 1) := (blk_cell BK920.out 0).trans rfl; have hcz21_1 : w14.cell? ⟨gb920, 1, none⟩ = some (u921001) := (blk_cell BK920.out 1).trans rfl; have hfz21_0 := blk_frozen BK920.out 0; have hfz21_1 := blk_frozen BK920.out 1) | ((with_reducible refine gate_dst (N := 18) rfl ?_); refine Kd.R_lit (Kd.int .i64) _ 3 ?hg (N := 18) ?hd (xs := ([0] : List Int)) (inner := [.int .i64 0]) (ok := fun _ => True) (okp := fun _ => True) ?hr ?hp (fun _ hk => hk) trivial (Below.refl _ _) (Nat.le_refl _) (by simp) ?_; (case hd => rfl); (case hg => rfl); (case hr => first | (go_simp; done) | (go_simp; rfl)); (case hp => exact (Reps.one (show Kd.M (Kd.int .i64) _ _ _ 0 [.int .i64 0] from rfl) (Reps.none _ _))); intro v924 w22 ho23 hb hg_ hnew_; clear hg_ hnew_; (first | rw [← Ny923.out] at ho23 | (simp only [Int.reduceToNat] at ho23; rw [← Ny923.out] at ho23)); have n0_ := Aside0.mk (Kd.S_elder' (by (with_reducible repeat (first | apply Kd.S_alloc | apply Kd.S_drewN | apply Kd.S_drew)); exact (Kd.S_mono (Kd.S_far (p := ⟨gb922, 1, none⟩) (Kd.S_far (p := ⟨gb922, 0, none⟩) (Kd.S_mono HO_921001.out (fun k_ hk => (⟨hk, hk.2⟩ : _ ∧ k_ ≠ gb922))) (fun _ hk => hk.2) (.int .i64 ((rd_T87 l0_1 x10_1).f0))) (fun _ hk => hk.2) (.slice A921_1 ((rd_T87 l0_1 x10_1).f1).length c921_1)) (fun _ h_ => h_.1))) (Kd.R_base ho23) hb); have n1_ := Aside0.mk (Kd.R_lower ho23 (below_size (by repeat (first | (with_reducible first | exact HB.out | apply below_alloc | apply pw_below_drewN | apply below_drew1 | refine below_set ?_ GE918.out | refine below_set ?_ GE919.out | refine below_set ?_ GE920.out | refine below_set ?_ GE922.out) | exact HB.out)))); have n2_ := Aside0.mk (blk_below (g := gb918) (o := .cells #[.int .i64 a0_0, .slice (some ad921) l0_1.length c0_1] 30 (0, 0)) (by (with_reducible repeat (first | refine blk_drewN ?_ _ | refine blk_drew ?_ | refine blk_alloc ?_ _)); refine blk_far ?_ NB918_922.out _; (with_reducible repeat (first | refine blk_drewN ?_ _ | refine blk_drew ?_ | refine blk_alloc ?_ _)); refine blk_far ?_ NB918_922.out _; (with_reducible repeat (first | refine blk_drewN ?_ _ | refine blk_drew ?_ | refine blk_alloc ?_ _)); exact BK918.out) hb); have n3_ := Aside0.mk (blk_below (g := gb919) (o := .cells #[.int .i64 0, .slice none 0 0] 30 (0, 0)) (by (with_reducible repeat (first | refine blk_drewN ?_ _ | refine blk_drew ?_ | refine blk_alloc ?_ _)); refine blk_far ?_ NB919_922.out _; (with_reducible repeat (first | refine blk_drewN ?_ _ | refine blk_drew ?_ | refine blk_alloc ?_ _)); refine blk_far ?_ NB919_922.out _; (with_reducible repeat (first | refine blk_drewN ?_ _ | refine blk_drew ?_ | refine blk_alloc ?_ _)); exact BK919.out) hb); have n4_ := Aside0.mk (blk_below (g := gb920) (o := .cells #[.int .i64 1, u921001] 30 (0, 0)) (by (with_reducible repeat (first | refine blk_drewN ?_ _ | refine blk_drew ?_ | refine blk_alloc ?_ _)); refine blk_far ?_ NB920_922.out _; (with_reducible repeat (first | refine blk_drewN ?_ _ | refine blk_drew ?_ | refine blk_alloc ?_ _)); refine blk_far ?_ NB920_922.out _; (with_reducible repeat (first | refine blk_drewN ?_ _ | refine blk_drew ?_ | refine blk_alloc ?_ _)); exact BK920.out) hb); have n5_ := Aside0.mk (blk_below (g := gb922) (o := .cells #[.int .i64 ((rd_T87 l0_1 x10_1).f0), .slice A921_1 ((rd_T87 l0_1 x10_1).f1).length c921_1] 87 (0, 0)) (by (with_reducible repeat (first | refine blk_drewN ?_ _ | refine blk_drew ?_ | refine blk_alloc ?_ _)); refine blk_put (cs := #[.int .i64 ((rd_T87 l0_1 x10_1).f0), .slice none 0 0]) ?_ 1 _ rfl; (with_reducible repeat (first | refine blk_drewN ?_ _ | refine blk_drew ?_ | refine blk_alloc ?_ _)); refine blk_put (cs := #[.int .i64 0, .slice none 0 0]) ?_ 0 _ rfl; (with_reducible repeat (first | refine blk_drewN ?_ _ | refine blk_drew ?_ | refine blk_alloc ?_ _)); exact BK922.out) hb); have n6_ := Aside0.mk (below_step (by repeat (first | (with_reducible first | exact HB.out | apply below_alloc | apply pw_below_drewN | apply below_drew1 | refine below_set ?_ GE918.out | refine below_set ?_ GE919.out | refine below_set ?_ GE920.out | refine below_set ?_ GE922.out) | exact HB.out)) hb); clear HO_921001; clear BK918; clear BK919; clear BK920; clear BK922; clear HB; have HO_921001 := n0_; have HO925 := n1_; have BK918 := n2_; have BK919 := n3_; have BK920 := n4_; have BK922 := n5_; have HB := n6_; clear n0_ n1_ n2_ n3_ n4_ n5_ n6_; clear hb ho23; obtain ⟨Ao24, co24, eo24⟩ := Kd.R_slice HO925.out; subst eo24) | ((with_reducible refine gate_builtin (b := .append) (xs := #[.tmp 15, .tmp 20]) rfl ?_); at_builtin; refine Kd.S_append k87 (w0 := w) w.heap.size rfl (.tmp 15) (.tmp 20) 28 87 (.agg #[(.int .i64 0), (.slice none 0 0)]) 32 rfl Try.underlying28 info87 rfl (by decide) (by omega) u921001 x921001_1 (⟨(rd_T87 l0_1 x10_1).f0, y923⟩ : S87) [.int .i64 ((rd_T87 l0_1 x10_1).f0), .slice Ao24 y923.length co24] (fun k_ => k_ ≠ gb922) (fun k_ => some k_ = (.slice Ao24 y923.length co24 : Value).ownBlock) rfl rfl ?aP (fun k_ hk_ => ((Kd.R_mono (ok' := fun k_ => ((fun k_ => k_ ≠ gb922)) k_ ∧ some k_ ≠ (u921001 : Value).ownBlock) (Kd.R_types (Kd.R_apart' (HO925.out) (Kd.S_typed HO_921001.out) (by decide)) BK922.out (by decide)) (fun k_ hk => ⟨hk.2, hk.1.2⟩))).1 k_ hk_.symm) ?aF ?aO ?aB ?aS ?aL ?_; (case aP => exact k87_mkM _ _ _ (⟨(rd_T87 l0_1 x10_1).f0, y923⟩ : S87) (Kd.R_mono (Kd.R_tight rfl (Kd.R_mono (ok' := fun k_ => ((fun k_ => k_ ≠ gb922)) k_ ∧ some k_ ≠ (u921001 : Value).ownBlock) (Kd.R_types (Kd.R_apart' (HO925.out) (Kd.S_typed HO_921001.out) (by decide)) BK922.out (by decide)) (fun k_ hk => ⟨hk.2, hk.1.2⟩))) (fun _ h_ => h_))); (case aB => exact (by repeat (first | (with_reducible first | exact HB.out | apply below_alloc | apply pw_below_drewN | apply below_drew1 | refine below_set ?_ GE918.out | refine below_set ?_ GE919.out | refine below_set ?_ GE920.out | refine below_set ?_ GE922.out) | exact HB.out))); (case aF => exact (fun k_ hk => Kd.freshB (g := gb922) (o := .cells #[.int .i64 ((rd_T87 l0_1 x10_1).f0), .slice A921_1 ((rd_T87 l0_1 x10_1).f1).length c921_1] 87 (0, 0)) (by (with_reducible repeat (first | refine blk_drewN ?_ _ | refine blk_drew ?_ | refine blk_alloc ?_ _)); exact BK922.out) k_ hk)); (case aO => exact (by (with_reducible repeat (first | apply Kd.S_alloc | apply Kd.S_drewN | apply Kd.S_drew)); exact Kd.S_mono HO_921001.out (fun k_ hk => ⟨hk.1.2, fun e_ => hk.2 e_⟩))); (case aS => exact (below_size (by repeat (first | (with_reducible first | exact HB.out | apply below_alloc | apply pw_below_drewN | apply below_drew1 | refine below_set ?_ GE918.out | refine below_set ?_ GE919.out | refine below_set ?_ GE920.out | refine below_set ?_ GE922.out) | exact HB.out)))); (case aL => have := LMc13.out; omega); intro v927 w25 ho hb hg hat; rw [← Ny926.out] at ho; have n0_ := Aside0.mk (blk_grown (g := gb918) (o := .cells #[.int .i64 a0_0, .slice (some ad921) l0_1.length c0_1] 30 (0, 0)) (by (with_reducible repeat (first | refine blk_drewN ?_ _ | refine blk_drew ?_ | refine blk_alloc ?_ _)); exact BK918.out) hg (Kd.S_ne HO_921001.out BK918.out (by decide))); have n1_ := Aside0.mk (blk_grown (g := gb919) (o := .cells #[.int .i64 0, .slice none 0 0] 30 (0, 0)) (by (with_reducible repeat (first | refine blk_drewN ?_ _ | refine blk_drew ?_ | refine blk_alloc ?_ _)); exact BK919.out) hg (Kd.S_ne HO_921001.out BK919.out (by decide))); have n2_ := Aside0.mk (blk_grown (g := gb920) (o := .cells #[.int .i64 1, u921001] 30 (0, 0)) (by (with_reducible repeat (first | refine blk_drewN ?_ _ | refine blk_drew ?_ | refine blk_alloc ?_ _)); exact BK920.out) hg (Kd.S_ne HO_921001.out BK920.out (by decide))); have n3_ := Aside0.mk (blk_grown (g := gb922) (o := .cells #[.int .i64 ((rd_T87 l0_1 x10_1).f0), .slice A921_1 ((rd_T87 l0_1 x10_1).f1).length c921_1] 87 (0, 0)) (by (with_reducible repeat (first | refine blk_drewN ?_ _ | refine blk_drew ?_ | refine blk_alloc ?_ _)); exact BK922.out) hg (Kd.S_away HO_921001.out (fun _ hk => hk.1.2))); have n4_ := Aside0.mk (hb); have n5_ := Aside0.mk (ho); clear BK918; clear BK919; clear BK920; clear BK922; clear HB; clear HO_921001; clear HO925; have BK918 := n0_; have BK919 := n1_; have BK920 := n2_; have BK922 := n3_; have HB := n4_; have HO928 := n5_; clear n0_ n1_ n2_ n3_ n4_ n5_; clear ho hb hg hat; obtain ⟨Ao26, co26, eo26⟩ := Kd.S_slice HO928.out; subst eo26; have hcz27_0 : w25.cell? ⟨gb920, 0, none⟩ = some (.int .i64 1) := (blk_cell BK920.out 0).trans rfl; have hcz27_1 : w25.cell? ⟨gb920, 1, none⟩ = some (u921001) := (blk_cell BK920.out 1).trans rfl; have hfz27_0 := blk_frozen BK920.out 0; have hfz27_1 := blk_frozen BK920.out 1))
              go_roundg k1
              case measure => have := HK1.out; omega
              case rel => exact ⟨(wrap64 (x10_1 + 1)), (y926), (.slice Ao26 y926.length co26), (by first | rfl | (simp; done) | (simp [*]; done)), H', ⟨by have := HK1.out; omega⟩, ⟨by (with_reducible repeat (first | apply Kd.S_alloc | apply Kd.S_drewN | apply Kd.S_drew)); exact Kd.S_mono (Kd.S_far (p := ⟨gb920, 1, none⟩) (Kd.S_types HO928.out BK920.out (by decide)) (fun _ hk => hk.2) (.slice Ao26 y926.length co26)) (fun _ hk => trivial)⟩, ⟨by (with_reducible repeat (first | refine blk_drewN ?_ _ | refine blk_drew ?_ | refine blk_alloc ?_ _)); refine blk_far ?_ NB918_920.out _; (with_reducible repeat (first | refine blk_drewN ?_ _ | refine blk_drew ?_ | refine blk_alloc ?_ _)); exact BK918.out⟩, ⟨by (with_reducible repeat (first | refine blk_drewN ?_ _ | refine blk_drew ?_ | refine blk_alloc ?_ _)); refine blk_far ?_ NB919_920.out _; (with_reducible repeat (first | refine blk_drewN ?_ _ | refine blk_drew ?_ | refine blk_alloc ?_ _)); exact BK919.out⟩, ⟨by (with_reducible repeat (first | refine blk_drewN ?_ _ | refine blk_drew ?_ | refine blk_alloc ?_ _)); refine blk_put (cs := #[.int .i64 1, u921001]) ?_ 1 _ rfl; (with_reducible repeat (first | refine blk_drewN ?_ _ | refine blk_drew ?_ | refine blk_alloc ?_ _)); exact BK920.out⟩, ⟨by repeat (first | (with_reducible first | exact HB.out | apply below_alloc | apply pw_below_drewN | apply below_drew1 | refine below_set ?_ GE918.out | refine below_set ?_ GE919.out | refine below_set ?_ GE920.out | refine below_set ?_ GE922.out) | exact HB.out)⟩⟩
            · rw [if_neg c13] at H
              exact absurd H (by simp)
          · rw [if_neg c12] at H
            exact absurd H (by simp)
        · rw [if_neg c11] at H
          exact absurd H (by simp)
      · rw [if_neg c10] at H
        have c10b0 : decide (x10_1 < (l0_1.length : Int)) = false := decide_eq_false c10
        clear c10
        simp only [Option.some.injEq, Prod.mk.injEq] at H
        obtain ⟨rfl, rfl⟩ := H
        have hnb28 := NB920_918.out
        have hnc28 := NB918_920.out
        have hnb29 := NB920_919.out
        have hnc29 := NB919_920.out
        have hcz30_0 : wr.cell? ⟨gb920, 0, none⟩ = some (.int .i64 1) := (blk_cell BK920.out 0).trans rfl
        have hcz30_1 : wr.cell? ⟨gb920, 1, none⟩ = some (u921001) := (blk_cell BK920.out 1).trans rfl
        have hfz30_0 := blk_frozen BK920.out 0
        have hfz30_1 := blk_frozen BK920.out 1
        have hnb31 := NB919_918.out
        have hnc31 := NB918_919.out
        have hcz32_0 : wr.cell? ⟨gb919, 0, none⟩ = some (.int .i64 0) := (blk_cell BK919.out 0).trans rfl
        have hcz32_1 : wr.cell? ⟨gb919, 1, none⟩ = some (.slice none 0 0) := (blk_cell BK919.out 1).trans rfl
        have hfz32_0 := blk_frozen BK919.out 0
        have hfz32_1 := blk_frozen BK919.out 1
        obtain ⟨Ao33, co33, eo33⟩ := Kd.S_slice HO_921001.out
        subst eo33
        go_wp2
        refine bodyPost_ret (results_cell_row rfl _ _ gb919 30 #[.int .i64 1, .slice Ao33 x921001_1.length co33] (0, 0) _ rfl (by (with_reducible repeat (first | refine blk_drewN ?_ _ | refine blk_drew ?_ | refine blk_alloc ?_ _)); refine blk_put (cs := #[.int .i64 1, .slice none 0 0]) ?_ 1 _ rfl; (with_reducible repeat (first | refine blk_drewN ?_ _ | refine blk_drew ?_ | refine blk_alloc ?_ _)); refine blk_put (cs := #[.int .i64 0, .slice none 0 0]) ?_ 0 _ rfl; (with_reducible repeat (first | refine blk_drewN ?_ _ | refine blk_drew ?_ | refine blk_alloc ?_ _)); exact BK919.out) Try.underlying30 rfl (by kernel_rfl)) rfl ?_
        exact ⟨_, by first | rfl | (simp [errW_none, errW_some] <;> rfl) | (simp [*, errW_none, errW_some] <;> rfl), by (with_reducible repeat (first | apply Kd.S_alloc | apply Kd.S_drewN | apply Kd.S_drew)); exact Kd.S_mono (Kd.S_far (p := ⟨gb919, 1, none⟩) (Kd.S_far (p := ⟨gb919, 0, none⟩) (Kd.S_types HO_921001.out BK919.out (by decide)) (fun _ hk => hk.2) (.int .i64 1)) (fun _ hk => hk.2) (.slice Ao33 x921001_1.length co33)) (fun _ hk => trivial), by repeat (first | (with_reducible first | exact HB.out | apply below_alloc | apply pw_below_drewN | apply below_drew1 | refine below_set ?_ GE918.out | refine below_set ?_ GE919.out | refine below_set ?_ GE920.out) | exact HB.out)⟩
end Go.Proofs.Ytijnfpfijgmopaa.Q

namespace Go.Proofs.Ytijnfpfijgmopaa.Q
open Go.RowKit Go.Proofs.YtijnfpfijgmopaaW.PrintWords Go.Proofs.YtijnfpfijgmopaaW.PrintLast Go.Proofs.YtijnfpfijgmopaaW.PrintMore
attribute [local go_sem] max2_int min2_int max_two min_two max_three min_three max_four min_four
set_option linter.unusedVariables false
set_option linter.unusedSimpArgs false
mutual
def impl_PowerOf.j0 : Nat → Int → Bool → Int → List (S87) → Option (Int × (List (S87)) × Bool)
  | 0, _, _, _, _ => none
  | k + 1, x1, x24, x930000, x930001 => if x24 = true then (some (0, ([] : List (S87)), false)) else ((impl_trivialLike.f k x930000 x930001).bind fun bt933 => (impl_PowerOf.l0 k x1 x930000 x930001 bt933.1 bt933.2))
def impl_PowerOf.l0 : Nat → Int → Int → List (S87) → Int → List (S87) → Option (Int × (List (S87)) × Bool)
  | 0, _, _, _, _, _ => none
  | k + 1, x1, x930000, x930001, x938000, x938001 => if x1 > 0 then ((impl_product.f k x938000 x938001 x930000 x930001).bind fun bt938 => (impl_PowerOf.l0 k (wrap64 (x1 - 1)) x930000 x930001 bt938.1 bt938.2)) else (some (x938000, x938001, true))
end
def impl_PowerOf.f (k : Nat) (a0_0 : Int) (l0_1 : List (S87)) (a1 : Int) : Option (Int × (List (S87)) × Bool) := (impl_IsAlgebra.f k a0_0 l0_1).bind fun t931 => (if t931 = true then (if a1 < 0 then (impl_PowerOf.j0 k a1 true a0_0 l0_1) else (if a1 > 3 then (impl_PowerOf.j0 k a1 true a0_0 l0_1) else ((impl_power.f k a0_0 a1).bind fun t932 => (impl_PowerOf.j0 k a1 (decide (t932 > 8)) a0_0 l0_1)))) else (impl_PowerOf.j0 k a1 true a0_0 l0_1))
theorem impl_PowerOf.mono_l : ∀ k, (∀ y0 y1 y2 y3, LeO (impl_PowerOf.j0 k y0 y1 y2 y3) (impl_PowerOf.j0 (k + 1) y0 y1 y2 y3)) ∧ (∀ y0 y1 y2 y3 y4, LeO (impl_PowerOf.l0 k y0 y1 y2 y3 y4) (impl_PowerOf.l0 (k + 1) y0 y1 y2 y3 y4))
  | 0 => ⟨fun _ _ _ _ r h => by simp [impl_PowerOf.j0] at h, fun _ _ _ _ _ r h => by simp [impl_PowerOf.l0] at h⟩
  | k + 1 => by
    obtain ⟨ih0, ih1⟩ := impl_PowerOf.mono_l k
    refine ⟨?_, ?_⟩
    · intro y0 y1 y2 y3
      unfold impl_PowerOf.j0
      repeat' first
      | (with_reducible exact ih0 _ _ _ _)
      | (with_reducible exact ih1 _ _ _ _ _)
      | (with_reducible exact impl_IsAlgebra.mono _ _ _)
      | (with_reducible exact impl_power.mono _ _ _)
      | (with_reducible exact impl_product.mono _ _ _ _ _)
      | (with_reducible exact impl_trivialLike.mono _ _ _)
      | (with_reducible exact LeO.refl _)
      | (with_reducible exact LeO.none _)
      | (with_reducible refine LeO.ite ?_ ?_)
      | (with_reducible refine LeO.bind ?_ (fun _ => ?_))
      | exact ih0 _ _ _ _
      | exact ih1 _ _ _ _ _
      | exact impl_IsAlgebra.mono _ _ _
      | exact impl_power.mono _ _ _
      | exact impl_product.mono _ _ _ _ _
      | exact impl_trivialLike.mono _ _ _
      | exact LeO.none _
      | refine LeO.ite ?_ ?_
      | refine LeO.bind ?_ (fun _ => ?_)
    · intro y0 y1 y2 y3 y4
      unfold impl_PowerOf.l0
      repeat' first
      | (with_reducible exact ih0 _ _ _ _)
      | (with_reducible exact ih1 _ _ _ _ _)
      | (with_reducible exact impl_IsAlgebra.mono _ _ _)
      | (with_reducible exact impl_power.mono _ _ _)
      | (with_reducible exact impl_product.mono _ _ _ _ _)
      | (with_reducible exact impl_trivialLike.mono _ _ _)
      | (with_reducible exact LeO.refl _)
      | (with_reducible exact LeO.none _)
      | (with_reducible refine LeO.ite ?_ ?_)
      | (with_reducible refine LeO.bind ?_ (fun _ => ?_))
      | exact ih0 _ _ _ _
      | exact ih1 _ _ _ _ _
      | exact impl_IsAlgebra.mono _ _ _
      | exact impl_power.mono _ _ _
      | exact impl_product.mono _ _ _ _ _
      | exact impl_trivialLike.mono _ _ _
      | exact LeO.none _
      | refine LeO.ite ?_ ?_
      | refine LeO.bind ?_ (fun _ => ?_)
theorem impl_PowerOf.mono : ∀ a0 a1 a2 k, LeO (impl_PowerOf.f k a0 a1 a2) (impl_PowerOf.f (k + 1) a0 a1 a2) := by
  intro a0 a1 a2 k
  obtain ⟨ih0, ih1⟩ := impl_PowerOf.mono_l k
  unfold impl_PowerOf.f
  repeat' first
      | (with_reducible exact ih0 _ _ _ _)
      | (with_reducible exact ih1 _ _ _ _ _)
      | (with_reducible exact impl_IsAlgebra.mono _ _ _)
      | (with_reducible exact impl_power.mono _ _ _)
      | (with_reducible exact impl_product.mono _ _ _ _ _)
      | (with_reducible exact impl_trivialLike.mono _ _ _)
      | (with_reducible exact LeO.refl _)
      | (with_reducible exact LeO.none _)
      | (with_reducible refine LeO.ite ?_ ?_)
      | (with_reducible refine LeO.bind ?_ (fun _ => ?_))
      | exact ih0 _ _ _ _
      | exact ih1 _ _ _ _ _
      | exact impl_IsAlgebra.mono _ _ _
      | exact impl_power.mono _ _ _
      | exact impl_product.mono _ _ _ _ _
      | exact impl_trivialLike.mono _ _ _
      | exact LeO.none _
      | refine LeO.ite ?_ ?_
      | refine LeO.bind ?_ (fun _ => ?_)
set_option maxHeartbeats 8000000 in
set_option maxRecDepth 100000 in
theorem impl_PowerOf.calls (k : Nat) (a0_0 : Int) (A0_1 : Option Addr) (c0_1 : Nat) (l0_1 : List (S87)) (a1 : Int) (r1 : Int) (r2 : List (S87)) (r3 : Bool) (w : World) (hr0_1 : Kd.C k87 w A0_1 l0_1.length l0_1) (hc0_1 : l0_1.length ≤ c0_1) (h : impl_PowerOf.f k a0_0 l0_1 a1 = some (r1, r2, r3)) :
    Calls Try.prog 48 #[.agg #[.int .i64 a0_0, .slice A0_1 l0_1.length c0_1], .int .i64 a1] w fun e w' => ∃ v1_ : Value, e = .returned (.tuple #[.agg #[.int .i64 r1, v1_], .bool r3]) ∧ Kd.S k87 87 w' w.heap.size (fun _ => True) v1_ r2 ∧ Below w.heap.size w w' := by
  have hu30 := Try.underlying30
  have HR0_1 := Aside0.mk hr0_1
  have HC0_1 := Aside0.mk hc0_1
  clear hr0_1 hc0_1
  have HB := Aside0.mk (Below.refl w.heap.size w)
  have H : ((impl_IsAlgebra.f k a0_0 l0_1).bind fun t931 => (if t931 = true then (if a1 < 0 then (impl_PowerOf.j0 k a1 true a0_0 l0_1) else (if a1 > 3 then (impl_PowerOf.j0 k a1 true a0_0 l0_1) else ((impl_power.f k a0_0 a1).bind fun t932 => (impl_PowerOf.j0 k a1 (decide (t932 > 8)) a0_0 l0_1)))) else (impl_PowerOf.j0 k a1 true a0_0 l0_1))) = some (r1, r2, r3) := h
  clear h
  have HC3 := Aside0.mk H
  clear H
  go_enter Try.func48, Try.ntmps48
  go_upto_region 1 with (first | ((with_reducible refine gate_dst (N := 2) rfl ?_); refine box_event ?hg (N := 2) ?hd (cs := #[.int .i64 a0_0, .slice A0_1 l0_1.length c0_1]) (t := 30) ?hr ?_; (case hd => rfl); (case hg => rfl); (case hr => first | (go_simp; done) | (go_simp; rfl)); intro gb929 hg w4 hbox hb; have n0_ := Aside0.mk (below_step (by repeat (first | (with_reducible first | exact HB.out | apply below_alloc | apply pw_below_drewN | apply below_drew1) | exact HB.out)) hb); have n1_ := Aside0.mk (hbox); have n2_ := Aside0.mk ((by rw [hg]; exact (below_size (by repeat (first | (with_reducible first | exact HB.out | apply below_alloc | apply pw_below_drewN | apply below_drew1) | exact HB.out))) : w.heap.size ≤ gb929)); have n3_ := Aside0.mk ((by rw [hg]; exact (below_size (by repeat (first | (with_reducible first | exact HB.out | apply below_alloc | apply pw_below_drewN | apply below_drew1) | exact HB.out))) : w.heap.size ≤ gb929)); clear HB; have HB := n0_; have BK929 := n1_; have GW929 := n2_; have GE929 := n3_; clear n0_ n1_ n2_ n3_; clear hb hbox hg) | ((with_reducible refine gate_dst (N := 4) rfl ?_); refine box_event ?hg (N := 4) ?hd (cs := #[.int .i64 0, .slice none 0 0]) (t := 30) ?hr ?_; (case hd => rfl); (case hg => rfl); (case hr => first | (go_simp; done) | (go_simp; rfl)); intro gb930 hg w5 hbox hb; have n0_ := Aside0.mk (blk_below (g := gb929) (o := .cells #[.int .i64 a0_0, .slice A0_1 l0_1.length c0_1] 30 (0, 0)) (by (with_reducible repeat (first | refine blk_drewN ?_ _ | refine blk_drew ?_ | refine blk_alloc ?_ _)); exact BK929.out) hb); have n1_ := Aside0.mk (below_step (by repeat (first | (with_reducible first | exact HB.out | apply below_alloc | apply pw_below_drewN | apply below_drew1 | refine below_set ?_ GE929.out) | exact HB.out)) hb); have n2_ := Aside0.mk (hbox); have n3_ := Aside0.mk ((by rw [hg]; exact (below_size (by repeat (first | (with_reducible first | exact HB.out | apply below_alloc | apply pw_below_drewN | apply below_drew1 | refine below_set ?_ GE929.out) | exact HB.out))) : w.heap.size ≤ gb930)); have n4_ := Aside0.mk ((by rw [hg]; exact (below_size (by repeat (first | (with_reducible first | exact HB.out | apply below_alloc | apply pw_below_drewN | apply below_drew1 | refine below_set ?_ GE929.out) | exact HB.out))) : w.heap.size ≤ gb930)); have n5_ := Aside0.mk ((by rw [hg]; exact Nat.ne_of_lt (blk_lt (g := gb929) (o := .cells #[.int .i64 a0_0, .slice A0_1 l0_1.length c0_1] 30 (0, 0)) (by (with_reducible repeat (first | refine blk_drewN ?_ _ | refine blk_drew ?_ | refine blk_alloc ?_ _)); exact BK929.out)) : gb929 ≠ gb930)); have n6_ := Aside0.mk ((by rw [hg]; exact Nat.ne_of_gt (blk_lt (g := gb929) (o := .cells #[.int .i64 a0_0, .slice A0_1 l0_1.length c0_1] 30 (0, 0)) (by (with_reducible repeat (first | refine blk_drewN ?_ _ | refine blk_drew ?_ | refine blk_alloc ?_ _)); exact BK929.out)) : gb930 ≠ gb929)); clear BK929; clear HB; have BK929 := n0_; have HB := n1_; have BK930 := n2_; have GW930 := n3_; have GE930 := n4_; have NB929_930 := n5_; have NB930_929 := n6_; clear n0_ n1_ n2_ n3_ n4_ n5_ n6_; clear hb hbox hg))
  (try simp only [Act.put, List.setIfInBounds_toArray, List.set_cons_zero, List.set_cons_succ])
  go_cut [24] (fun v24 wc => ∃ (kq : Nat) (x24_2 : Bool), v24 = .bool x24_2 ∧ Aside0 (impl_PowerOf.j0 kq a1 x24_2 a0_0 l0_1 = some (r1, r2, r3)) ∧ Aside0 (kq ≤ k) ∧ Aside0 (wc.heap[gb929]? = some (.cells #[.int .i64 a0_0, (.slice A0_1 l0_1.length c0_1)] 30 (0, 0))) ∧ Aside0 (wc.heap[gb930]? = some (.cells #[.int .i64 0, (.slice none 0 0)] 30 (0, 0))) ∧ Aside0 (Below w.heap.size w wc))
  case first =>
    have H := HC3.out
    clear HC3
    replace H := Option.bind_eq_some_iff.mp H
    obtain ⟨t931, A60, H⟩ := H
    replace H : (if t931 = true then (if a1 < 0 then (impl_PowerOf.j0 k a1 true a0_0 l0_1) else (if a1 > 3 then (impl_PowerOf.j0 k a1 true a0_0 l0_1) else ((impl_power.f k a0_0 a1).bind fun t932 => (impl_PowerOf.j0 k a1 (decide (t932 > 8)) a0_0 l0_1)))) else (impl_PowerOf.j0 k a1 true a0_0 l0_1)) = some (r1, r2, r3) := H
    have A6 := Aside0.mk A60
    clear A60
    by_cases c7 : t931 = true
    · subst c7
      have H1 : (if a1 < 0 then (impl_PowerOf.j0 k a1 true a0_0 l0_1) else (if a1 > 3 then (impl_PowerOf.j0 k a1 true a0_0 l0_1) else ((impl_power.f k a0_0 a1).bind fun t932 => (impl_PowerOf.j0 k a1 (decide (t932 > 8)) a0_0 l0_1)))) = some (r1, r2, r3) := by rw [if_pos rfl] at H; exact H
      clear H
      have H := H1
      clear H1
      by_cases c8 : a1 < 0
      · rw [if_pos c8] at H
        have c8b0 : decide (a1 < 0) = true := decide_eq_true c8
        clear c8
        (first | rw [c8b0] | (simp only [i64_w, i32_w]; rw [c8b0]) | skip)
        have H' := Aside0.mk H
        clear H
        have hnb9 := NB929_930.out
        have hnc9 := NB930_929.out
        have hcz10_0 : w5.cell? ⟨gb929, 0, none⟩ = some (.int .i64 a0_0) := (blk_cell BK929.out 0).trans rfl
        have hcz10_1 : w5.cell? ⟨gb929, 1, none⟩ = some (.slice A0_1 l0_1.length c0_1) := (blk_cell BK929.out 1).trans rfl
        have hfz10_0 := blk_frozen BK929.out 0
        have hfz10_1 := blk_frozen BK929.out 1
        go_wp2_with (first | ((with_reducible refine gate_callee (f := 71) rfl ?_); refine goesL_ (some 8) rfl rfl Try.func71 (by kernel_rfl) rfl #[.agg #[.int .i64 a0_0, .slice A0_1 l0_1.length c0_1]] rfl (by (try simp only [List.map_toArray, List.map_cons, List.map_nil]); first | done | rfl | (simp only [List.length_drop, List.length_take]; rfl)) ?_; (with_reducible refine (impl_IsAlgebra.calls k a0_0 _ _ l0_1 true _ ?side1 ?side2 A6.out).mono ?_); (case side1 => repeat (first | exact (Kd.C_below HR0_1.out HB.out) | (with_reducible refine Kd.C_alloc ?_ _) | (with_reducible refine Kd.C_drewN ?_ _) | (with_reducible refine Kd.C_drew ?_))); (case side2 => exact HC0_1.out); rintro e w11 ⟨rfl, hb⟩; refine ⟨_, rfl, ?_⟩; have n0_ := Aside0.mk (blk_below (g := gb929) (o := .cells #[.int .i64 a0_0, .slice A0_1 l0_1.length c0_1] 30 (0, 0)) (by (with_reducible repeat (first | refine blk_drewN ?_ _ | refine blk_drew ?_ | refine blk_alloc ?_ _)); exact BK929.out) hb); have n1_ := Aside0.mk (blk_below (g := gb930) (o := .cells #[.int .i64 0, .slice none 0 0] 30 (0, 0)) (by (with_reducible repeat (first | refine blk_drewN ?_ _ | refine blk_drew ?_ | refine blk_alloc ?_ _)); exact BK930.out) hb); have n2_ := Aside0.mk (below_step (by repeat (first | (with_reducible first | exact HB.out | apply below_alloc | apply pw_below_drewN | apply below_drew1 | refine below_set ?_ GE929.out | refine below_set ?_ GE930.out) | exact HB.out)) hb); clear BK929; clear BK930; clear HB; have BK929 := n0_; have BK930 := n1_; have HB := n2_; clear n0_ n1_ n2_; (try clear hb); (try clear hb2); (try clear hk); (try clear hi)))
        go_meet
        case rel => exact ⟨_, (true), (by first | rfl | (simp; done) | (simp [*]; done)), H', ⟨by first | omega | exact Nat.le_refl _⟩, ⟨by (with_reducible repeat (first | refine blk_drewN ?_ _ | refine blk_drew ?_ | refine blk_alloc ?_ _)); exact BK929.out⟩, ⟨by (with_reducible repeat (first | refine blk_drewN ?_ _ | refine blk_drew ?_ | refine blk_alloc ?_ _)); exact BK930.out⟩, ⟨by repeat (first | (with_reducible first | exact HB.out | apply below_alloc | apply pw_below_drewN | apply below_drew1 | refine below_set ?_ GE929.out | refine below_set ?_ GE930.out) | exact HB.out)⟩⟩
      · rw [if_neg c8] at H
        have c8b0 : decide (a1 < 0) = false := decide_eq_false c8
        clear c8
        (first | rw [c8b0] | (simp only [i64_w, i32_w]; rw [c8b0]) | skip)
        by_cases c12 : a1 > 3
        · rw [if_pos c12] at H
          have c12b0 : decide (3 < a1) = true := decide_eq_true c12
          clear c12
          have H' := Aside0.mk H
          clear H
          have hnb13 := NB929_930.out
          have hnc13 := NB930_929.out
          have hcz14_0 : w5.cell? ⟨gb929, 0, none⟩ = some (.int .i64 a0_0) := (blk_cell BK929.out 0).trans rfl
          have hcz14_1 : w5.cell? ⟨gb929, 1, none⟩ = some (.slice A0_1 l0_1.length c0_1) := (blk_cell BK929.out 1).trans rfl
          have hfz14_0 := blk_frozen BK929.out 0
          have hfz14_1 := blk_frozen BK929.out 1
          go_wp2_with (first | ((with_reducible refine gate_callee (f := 71) rfl ?_); refine goesL_ (some 8) rfl rfl Try.func71 (by kernel_rfl) rfl #[.agg #[.int .i64 a0_0, .slice A0_1 l0_1.length c0_1]] rfl (by (try simp only [List.map_toArray, List.map_cons, List.map_nil]); first | done | rfl | (simp only [List.length_drop, List.length_take]; rfl)) ?_; (with_reducible refine (impl_IsAlgebra.calls k a0_0 _ _ l0_1 true _ ?side1 ?side2 A6.out).mono ?_); (case side1 => repeat (first | exact (Kd.C_below HR0_1.out HB.out) | (with_reducible refine Kd.C_alloc ?_ _) | (with_reducible refine Kd.C_drewN ?_ _) | (with_reducible refine Kd.C_drew ?_))); (case side2 => exact HC0_1.out); rintro e w15 ⟨rfl, hb⟩; refine ⟨_, rfl, ?_⟩; have n0_ := Aside0.mk (blk_below (g := gb929) (o := .cells #[.int .i64 a0_0, .slice A0_1 l0_1.length c0_1] 30 (0, 0)) (by (with_reducible repeat (first | refine blk_drewN ?_ _ | refine blk_drew ?_ | refine blk_alloc ?_ _)); exact BK929.out) hb); have n1_ := Aside0.mk (blk_below (g := gb930) (o := .cells #[.int .i64 0, .slice none 0 0] 30 (0, 0)) (by (with_reducible repeat (first | refine blk_drewN ?_ _ | refine blk_drew ?_ | refine blk_alloc ?_ _)); exact BK930.out) hb); have n2_ := Aside0.mk (below_step (by repeat (first | (with_reducible first | exact HB.out | apply below_alloc | apply pw_below_drewN | apply below_drew1 | refine below_set ?_ GE929.out | refine below_set ?_ GE930.out) | exact HB.out)) hb); clear BK929; clear BK930; clear HB; have BK929 := n0_; have BK930 := n1_; have HB := n2_; clear n0_ n1_ n2_; (try clear hb); (try clear hb2); (try clear hk); (try clear hi)))
          go_meet
          case rel => exact ⟨_, (true), (by first | rfl | (simp; done) | (simp [*]; done)), H', ⟨by first | omega | exact Nat.le_refl _⟩, ⟨by (with_reducible repeat (first | refine blk_drewN ?_ _ | refine blk_drew ?_ | refine blk_alloc ?_ _)); exact BK929.out⟩, ⟨by (with_reducible repeat (first | refine blk_drewN ?_ _ | refine blk_drew ?_ | refine blk_alloc ?_ _)); exact BK930.out⟩, ⟨by repeat (first | (with_reducible first | exact HB.out | apply below_alloc | apply pw_below_drewN | apply below_drew1 | refine below_set ?_ GE929.out | refine below_set ?_ GE930.out) | exact HB.out)⟩⟩
        · rw [if_neg c12] at H
          have c12b0 : decide (3 < a1) = false := decide_eq_false c12
          clear c12
          replace H := Option.bind_eq_some_iff.mp H
          obtain ⟨t932, A160, H⟩ := H
          replace H : (impl_PowerOf.j0 k a1 (decide (t932 > 8)) a0_0 l0_1) = some (r1, r2, r3) := H
          have A16 := Aside0.mk A160
          clear A160
          have H' := Aside0.mk H
          clear H
          have hnb17 := NB929_930.out
          have hnc17 := NB930_929.out
          have hcz18_0 : w5.cell? ⟨gb929, 0, none⟩ = some (.int .i64 a0_0) := (blk_cell BK929.out 0).trans rfl
          have hcz18_1 : w5.cell? ⟨gb929, 1, none⟩ = some (.slice A0_1 l0_1.length c0_1) := (blk_cell BK929.out 1).trans rfl
          have hfz18_0 := blk_frozen BK929.out 0
          have hfz18_1 := blk_frozen BK929.out 1
          go_wp2_with (first | ((with_reducible refine gate_callee (f := 71) rfl ?_); refine goesL_ (some 8) rfl rfl Try.func71 (by kernel_rfl) rfl #[.agg #[.int .i64 a0_0, .slice A0_1 l0_1.length c0_1]] rfl (by (try simp only [List.map_toArray, List.map_cons, List.map_nil]); first | done | rfl | (simp only [List.length_drop, List.length_take]; rfl)) ?_; (with_reducible refine (impl_IsAlgebra.calls k a0_0 _ _ l0_1 true _ ?side1 ?side2 A6.out).mono ?_); (case side1 => repeat (first | exact (Kd.C_below HR0_1.out HB.out) | (with_reducible refine Kd.C_alloc ?_ _) | (with_reducible refine Kd.C_drewN ?_ _) | (with_reducible refine Kd.C_drew ?_))); (case side2 => exact HC0_1.out); rintro e w19 ⟨rfl, hb⟩; refine ⟨_, rfl, ?_⟩; have n0_ := Aside0.mk (blk_below (g := gb929) (o := .cells #[.int .i64 a0_0, .slice A0_1 l0_1.length c0_1] 30 (0, 0)) (by (with_reducible repeat (first | refine blk_drewN ?_ _ | refine blk_drew ?_ | refine blk_alloc ?_ _)); exact BK929.out) hb); have n1_ := Aside0.mk (blk_below (g := gb930) (o := .cells #[.int .i64 0, .slice none 0 0] 30 (0, 0)) (by (with_reducible repeat (first | refine blk_drewN ?_ _ | refine blk_drew ?_ | refine blk_alloc ?_ _)); exact BK930.out) hb); have n2_ := Aside0.mk (below_step (by repeat (first | (with_reducible first | exact HB.out | apply below_alloc | apply pw_below_drewN | apply below_drew1 | refine below_set ?_ GE929.out | refine below_set ?_ GE930.out) | exact HB.out)) hb); clear BK929; clear BK930; clear HB; have BK929 := n0_; have BK930 := n1_; have HB := n2_; clear n0_ n1_ n2_; (try clear hb); (try clear hb2); (try clear hk); (try clear hi); have hcz20_0 : w19.cell? ⟨gb929, 0, none⟩ = some (.int .i64 a0_0) := (blk_cell BK929.out 0).trans rfl; have hcz20_1 : w19.cell? ⟨gb929, 1, none⟩ = some (.slice A0_1 l0_1.length c0_1) := (blk_cell BK929.out 1).trans rfl; have hfz20_0 := blk_frozen BK929.out 0; have hfz20_1 := blk_frozen BK929.out 1) | (go_at_call 102; (with_reducible refine (impl_power.calls k a0_0 a1 t932 _ A16.out).mono ?_); rintro e w' ⟨rfl, ⟨nd, rfl⟩⟩))
          go_meet
          case rel => exact ⟨_, (decide (t932 > 8)), (by first | rfl | (simp; done) | (simp [*]; done)), H', ⟨by first | omega | exact Nat.le_refl _⟩, ⟨by (with_reducible repeat (first | refine blk_drewN ?_ _ | refine blk_drew ?_ | refine blk_alloc ?_ _)); exact BK929.out⟩, ⟨by (with_reducible repeat (first | refine blk_drewN ?_ _ | refine blk_drew ?_ | refine blk_alloc ?_ _)); exact BK930.out⟩, ⟨by repeat (first | (with_reducible first | exact HB.out | apply below_alloc | apply pw_below_drewN | apply below_drew1 | refine below_set ?_ GE929.out | refine below_set ?_ GE930.out) | exact HB.out)⟩⟩
    · replace c7 := Bool.eq_false_iff.mpr c7
      subst c7
      have H1 : (impl_PowerOf.j0 k a1 true a0_0 l0_1) = some (r1, r2, r3) := by rw [if_neg (show ¬ (false = true) by decide)] at H; exact H
      clear H
      have H := H1
      clear H1
      have H' := Aside0.mk H
      clear H
      have hnb21 := NB929_930.out
      have hnc21 := NB930_929.out
      have hcz22_0 : w5.cell? ⟨gb929, 0, none⟩ = some (.int .i64 a0_0) := (blk_cell BK929.out 0).trans rfl
      have hcz22_1 : w5.cell? ⟨gb929, 1, none⟩ = some (.slice A0_1 l0_1.length c0_1) := (blk_cell BK929.out 1).trans rfl
      have hfz22_0 := blk_frozen BK929.out 0
      have hfz22_1 := blk_frozen BK929.out 1
      go_wp2_with (first | ((with_reducible refine gate_callee (f := 71) rfl ?_); refine goesL_ (some 8) rfl rfl Try.func71 (by kernel_rfl) rfl #[.agg #[.int .i64 a0_0, .slice A0_1 l0_1.length c0_1]] rfl (by (try simp only [List.map_toArray, List.map_cons, List.map_nil]); first | done | rfl | (simp only [List.length_drop, List.length_take]; rfl)) ?_; (with_reducible refine (impl_IsAlgebra.calls k a0_0 _ _ l0_1 false _ ?side1 ?side2 A6.out).mono ?_); (case side1 => repeat (first | exact (Kd.C_below HR0_1.out HB.out) | (with_reducible refine Kd.C_alloc ?_ _) | (with_reducible refine Kd.C_drewN ?_ _) | (with_reducible refine Kd.C_drew ?_))); (case side2 => exact HC0_1.out); rintro e w23 ⟨rfl, hb⟩; refine ⟨_, rfl, ?_⟩; have n0_ := Aside0.mk (blk_below (g := gb929) (o := .cells #[.int .i64 a0_0, .slice A0_1 l0_1.length c0_1] 30 (0, 0)) (by (with_reducible repeat (first | refine blk_drewN ?_ _ | refine blk_drew ?_ | refine blk_alloc ?_ _)); exact BK929.out) hb); have n1_ := Aside0.mk (blk_below (g := gb930) (o := .cells #[.int .i64 0, .slice none 0 0] 30 (0, 0)) (by (with_reducible repeat (first | refine blk_drewN ?_ _ | refine blk_drew ?_ | refine blk_alloc ?_ _)); exact BK930.out) hb); have n2_ := Aside0.mk (below_step (by repeat (first | (with_reducible first | exact HB.out | apply below_alloc | apply pw_below_drewN | apply below_drew1 | refine below_set ?_ GE929.out | refine below_set ?_ GE930.out) | exact HB.out)) hb); clear BK929; clear BK930; clear HB; have BK929 := n0_; have BK930 := n1_; have HB := n2_; clear n0_ n1_ n2_; (try clear hb); (try clear hb2); (try clear hk); (try clear hi)))
      go_meet
      case rel => exact ⟨_, (true), (by first | rfl | (simp; done) | (simp [*]; done)), H', ⟨by first | omega | exact Nat.le_refl _⟩, ⟨by (with_reducible repeat (first | refine blk_drewN ?_ _ | refine blk_drew ?_ | refine blk_alloc ?_ _)); exact BK929.out⟩, ⟨by (with_reducible repeat (first | refine blk_drewN ?_ _ | refine blk_drew ?_ | refine blk_alloc ?_ _)); exact BK930.out⟩, ⟨by repeat (first | (with_reducible first | exact HB.out | apply below_alloc | apply pw_below_drewN | apply below_drew1 | refine below_set ?_ GE929.out | refine below_set ?_ GE930.out) | exact HB.out)⟩⟩
  case rest =>
    clear HC3
    try clear c1
    try clear c2
    try clear p2
    try clear c4
    try clear c7
    try clear c8
    try clear c8b0
    try clear c9
    try clear c12
    try clear c12b0
    try clear c13
    try clear c17
    try clear c21
    try clear hcz10_0
    try clear hcz10_1
    try clear hcz14_0
    try clear hcz14_1
    try clear hcz18_0
    try clear hcz18_1
    try clear hcz20_0
    try clear hcz20_1
    try clear hcz22_0
    try clear hcz22_1
    try clear hfz10_0
    try clear hfz10_1
    try clear hfz14_0
    try clear hfz14_1
    try clear hfz18_0
    try clear hfz18_1
    try clear hfz20_0
    try clear hfz20_1
    try clear hfz22_0
    try clear hfz22_1
    obtain ⟨kq, x24_2, rfl, HA, HJ2, BK929, BK930, HB⟩ := hcut
    cases kq with
    | zero => exact absurd HA.out (by simp [impl_PowerOf.j0])
    | succ kj2 =>
      have H := HA.out
      clear HA
      simp only [impl_PowerOf.j0] at H
      by_cases c24 : x24_2 = true
      · subst c24
        have H1 : (some (0, ([] : List (S87)), false)) = some (r1, r2, r3) := by rw [if_pos rfl] at H; exact H
        clear H
        have H := H1
        clear H1
        simp only [Option.some.injEq, Prod.mk.injEq] at H
        obtain ⟨rfl, rfl, rfl⟩ := H
        have hnb25 := NB930_929.out
        have hnc25 := NB929_930.out
        have hcz26_0 : wc.cell? ⟨gb930, 0, none⟩ = some (.int .i64 0) := (blk_cell BK930.out 0).trans rfl
        have hcz26_1 : wc.cell? ⟨gb930, 1, none⟩ = some (.slice none 0 0) := (blk_cell BK930.out 1).trans rfl
        have hfz26_0 := blk_frozen BK930.out 0
        have hfz26_1 := blk_frozen BK930.out 1
        go_wp2
        refine bodyPost_ret (results_ct rfl _ _ gb930 30 #[.int .i64 0, .slice none 0 0] (0, 0) _ rfl (by (with_reducible repeat (first | refine blk_drewN ?_ _ | refine blk_drew ?_ | refine blk_alloc ?_ _)); refine blk_put (cs := #[.int .i64 0, .slice none 0 0]) ?_ 1 _ rfl; (with_reducible repeat (first | refine blk_drewN ?_ _ | refine blk_drew ?_ | refine blk_alloc ?_ _)); refine blk_put (cs := #[.int .i64 0, .slice none 0 0]) ?_ 0 _ rfl; (with_reducible repeat (first | refine blk_drewN ?_ _ | refine blk_drew ?_ | refine blk_alloc ?_ _)); exact BK930.out) Try.underlying30 rfl (by kernel_rfl)) rfl ?_
        exact ⟨_, by first | rfl | (simp [errW_none, errW_some] <;> rfl) | (simp [*, errW_none, errW_some] <;> rfl), by first | exact Kd.S_nil _ _ _ _ _ | exact Kd.N_nil _ _ _ _ _ | exact Kd.V_nil _ _ _ _ _ | exact Kd.Q_nil _ _ _ _ _ | exact Kd.R_nil _ _ _ _ _, by repeat (first | (with_reducible first | exact HB.out | apply below_alloc | apply pw_below_drewN | apply below_drew1 | refine below_set ?_ GE929.out | refine below_set ?_ GE930.out) | exact HB.out)⟩
      · replace c24 := Bool.eq_false_iff.mpr c24
        subst c24
        have H1 : ((impl_trivialLike.f kj2 a0_0 l0_1).bind fun bt933 => (impl_PowerOf.l0 kj2 a1 a0_0 l0_1 bt933.1 bt933.2)) = some (r1, r2, r3) := by rw [if_neg (show ¬ (false = true) by decide)] at H; exact H
        clear H
        have H := H1
        clear H1
        replace H := Option.bind_eq_some_iff.mp H
        obtain ⟨⟨t933, t934⟩, A270, H⟩ := H
        replace H : (impl_PowerOf.l0 kj2 a1 a0_0 l0_1 t933 t934) = some (r1, r2, r3) := H
        have A27 := Aside0.mk A270
        clear A270
        have H' := Aside0.mk H
        clear H
        have hnb28 := NB929_930.out
        have hnc28 := NB930_929.out
        have hcz29_0 : wc.cell? ⟨gb929, 0, none⟩ = some (.int .i64 a0_0) := (blk_cell BK929.out 0).trans rfl
        have hcz29_1 : wc.cell? ⟨gb929, 1, none⟩ = some (.slice A0_1 l0_1.length c0_1) := (blk_cell BK929.out 1).trans rfl
        have hfz29_0 := blk_frozen BK929.out 0
        have hfz29_1 := blk_frozen BK929.out 1
        go_wp2_with (first | ((with_reducible refine gate_callee (f := 103) rfl ?_); refine goesL_ (some 27) rfl rfl Try.func103 (by kernel_rfl) rfl #[.agg #[.int .i64 a0_0, .slice A0_1 l0_1.length c0_1]] rfl (by (try simp only [List.map_toArray, List.map_cons, List.map_nil]); first | done | rfl | (simp only [List.length_drop, List.length_take]; rfl)) ?_; (with_reducible refine (impl_trivialLike.calls kj2 a0_0 _ _ l0_1 t933 t934 _ ?side1 ?side2 A27.out).mono ?_); (case side1 => repeat (first | exact (Kd.C_below HR0_1.out HB.out) | (with_reducible refine Kd.C_alloc ?_ _) | (with_reducible refine Kd.C_drewN ?_ _) | (with_reducible refine Kd.C_drew ?_))); (case side2 => exact HC0_1.out); rintro e w30 ⟨v935, rfl, ho0, hb⟩; refine ⟨_, rfl, ?_⟩; have n0_ := Aside0.mk (Kd.S_lower ho0 (below_size (by repeat (first | (with_reducible first | exact HB.out | apply below_alloc | apply pw_below_drewN | apply below_drew1 | refine below_set ?_ GE929.out | refine below_set ?_ GE930.out) | exact HB.out)))); have n1_ := Aside0.mk (blk_below (g := gb929) (o := .cells #[.int .i64 a0_0, .slice A0_1 l0_1.length c0_1] 30 (0, 0)) (by (with_reducible repeat (first | refine blk_drewN ?_ _ | refine blk_drew ?_ | refine blk_alloc ?_ _)); exact BK929.out) hb); have n2_ := Aside0.mk (blk_below (g := gb930) (o := .cells #[.int .i64 0, .slice none 0 0] 30 (0, 0)) (by (with_reducible repeat (first | refine blk_drewN ?_ _ | refine blk_drew ?_ | refine blk_alloc ?_ _)); exact BK930.out) hb); have n3_ := Aside0.mk (below_step (by repeat (first | (with_reducible first | exact HB.out | apply below_alloc | apply pw_below_drewN | apply below_drew1 | refine below_set ?_ GE929.out | refine below_set ?_ GE930.out) | exact HB.out)) hb); clear BK929; clear BK930; clear HB; have HO936 := n0_; have BK929 := n1_; have BK930 := n2_; have HB := n3_; clear n0_ n1_ n2_ n3_; (try clear hb); (try clear hb2); (try clear hk); (try clear hi); (try clear ho0)) | ((with_reducible refine gate_dst (N := 6) rfl ?_); refine box_event ?hg (N := 6) ?hd (cs := #[.int .i64 0, .slice none 0 0]) (t := 30) ?hr ?_; (case hd => rfl); (case hg => rfl); (case hr => first | (go_simp; done) | (go_simp; rfl)); intro gb937 hg w31 hbox hb; have n0_ := Aside0.mk (Kd.S_below (by (with_reducible repeat (first | apply Kd.S_alloc | apply Kd.S_drewN | apply Kd.S_drew)); exact HO936.out) hb); have n1_ := Aside0.mk (blk_below (g := gb929) (o := .cells #[.int .i64 a0_0, .slice A0_1 l0_1.length c0_1] 30 (0, 0)) (by (with_reducible repeat (first | refine blk_drewN ?_ _ | refine blk_drew ?_ | refine blk_alloc ?_ _)); exact BK929.out) hb); have n2_ := Aside0.mk (blk_below (g := gb930) (o := .cells #[.int .i64 0, .slice none 0 0] 30 (0, 0)) (by (with_reducible repeat (first | refine blk_drewN ?_ _ | refine blk_drew ?_ | refine blk_alloc ?_ _)); exact BK930.out) hb); have n3_ := Aside0.mk (below_step (by repeat (first | (with_reducible first | exact HB.out | apply below_alloc | apply pw_below_drewN | apply below_drew1 | refine below_set ?_ GE929.out | refine below_set ?_ GE930.out) | exact HB.out)) hb); have n4_ := Aside0.mk (hbox); have n5_ := Aside0.mk ((by rw [hg]; exact (below_size (by repeat (first | (with_reducible first | exact HB.out | apply below_alloc | apply pw_below_drewN | apply below_drew1 | refine below_set ?_ GE929.out | refine below_set ?_ GE930.out) | exact HB.out))) : w.heap.size ≤ gb937)); have n6_ := Aside0.mk ((by rw [hg]; exact (below_size (by repeat (first | (with_reducible first | exact HB.out | apply below_alloc | apply pw_below_drewN | apply below_drew1 | refine below_set ?_ GE929.out | refine below_set ?_ GE930.out) | exact HB.out))) : w.heap.size ≤ gb937)); have n7_ := Aside0.mk ((by rw [hg]; exact Nat.ne_of_lt (blk_lt (g := gb929) (o := .cells #[.int .i64 a0_0, .slice A0_1 l0_1.length c0_1] 30 (0, 0)) (by (with_reducible repeat (first | refine blk_drewN ?_ _ | refine blk_drew ?_ | refine blk_alloc ?_ _)); exact BK929.out)) : gb929 ≠ gb937)); have n8_ := Aside0.mk ((by rw [hg]; exact Nat.ne_of_gt (blk_lt (g := gb929) (o := .cells #[.int .i64 a0_0, .slice A0_1 l0_1.length c0_1] 30 (0, 0)) (by (with_reducible repeat (first | refine blk_drewN ?_ _ | refine blk_drew ?_ | refine blk_alloc ?_ _)); exact BK929.out)) : gb937 ≠ gb929)); have n9_ := Aside0.mk ((by rw [hg]; exact Nat.ne_of_lt (blk_lt (g := gb930) (o := .cells #[.int .i64 0, .slice none 0 0] 30 (0, 0)) (by (with_reducible repeat (first | refine blk_drewN ?_ _ | refine blk_drew ?_ | refine blk_alloc ?_ _)); exact BK930.out)) : gb930 ≠ gb937)); have n10_ := Aside0.mk ((by rw [hg]; exact Nat.ne_of_gt (blk_lt (g := gb930) (o := .cells #[.int .i64 0, .slice none 0 0] 30 (0, 0)) (by (with_reducible repeat (first | refine blk_drewN ?_ _ | refine blk_drew ?_ | refine blk_alloc ?_ _)); exact BK930.out)) : gb937 ≠ gb930)); clear HO936; clear BK929; clear BK930; clear HB; have HO936 := n0_; have BK929 := n1_; have BK930 := n2_; have HB := n3_; have BK937 := n4_; have GW937 := n5_; have GE937 := n6_; have NB929_937 := n7_; have NB937_929 := n8_; have NB930_937 := n9_; have NB937_930 := n10_; clear n0_ n1_ n2_ n3_ n4_ n5_ n6_ n7_ n8_ n9_ n10_; clear hb hbox hg; have hnb32 := NB937_929.out; have hnc32 := NB929_937.out; have hnb33 := NB937_930.out; have hnc33 := NB930_937.out; have hcz34_0 : w31.cell? ⟨gb937, 0, none⟩ = some (.int .i64 0) := (blk_cell BK937.out 0).trans rfl; have hcz34_1 : w31.cell? ⟨gb937, 1, none⟩ = some (.slice none 0 0) := (blk_cell BK937.out 1).trans rfl; have hfz34_0 := blk_frozen BK937.out 0; have hfz34_1 := blk_frozen BK937.out 1; obtain ⟨Ao35, co35, eo35⟩ := Kd.S_slice HO936.out; subst eo35))
        go_loopg [1] kj2 (fun kq v1 w' => ∃ (x1_2 : Int) (x938000_2 : Int) (x938001_2 : List (S87)) (u938001 : Value), v1 = .int .i64 x1_2 ∧ Aside0 (impl_PowerOf.l0 kq x1_2 a0_0 l0_1 x938000_2 x938001_2 = some (r1, r2, r3)) ∧ Aside0 (kq ≤ kj2) ∧ Aside0 (Kd.S k87 87 w' w.heap.size (fun _ => True) u938001 x938001_2) ∧ Aside0 (w'.heap[gb929]? = some (.cells #[.int .i64 a0_0, (.slice A0_1 l0_1.length c0_1)] 30 (0, 0))) ∧ Aside0 (w'.heap[gb930]? = some (.cells #[.int .i64 0, (.slice none 0 0)] 30 (0, 0))) ∧ Aside0 (w'.heap[gb937]? = some (.cells #[.int .i64 x938000_2, u938001] 30 (0, 0))) ∧ Aside0 (Below w.heap.size w w'))
        case atStart => exact ⟨(a1), (t933), (t934), (.slice Ao35 t934.length co35), (by first | rfl | (simp; done) | (simp [*]; done)), H', ⟨Nat.le_refl _⟩, ⟨by (with_reducible repeat (first | apply Kd.S_alloc | apply Kd.S_drewN | apply Kd.S_drew)); exact Kd.S_mono (Kd.S_far (p := ⟨gb937, 1, none⟩) (Kd.S_far (p := ⟨gb937, 0, none⟩) (Kd.S_types HO936.out BK937.out (by decide)) (fun _ hk => hk.2) (.int .i64 t933)) (fun _ hk => hk.2) (.slice Ao35 t934.length co35)) (fun _ hk => trivial)⟩, ⟨by (with_reducible repeat (first | refine blk_drewN ?_ _ | refine blk_drew ?_ | refine blk_alloc ?_ _)); refine blk_far ?_ NB929_937.out _; (with_reducible repeat (first | refine blk_drewN ?_ _ | refine blk_drew ?_ | refine blk_alloc ?_ _)); refine blk_far ?_ NB929_937.out _; (with_reducible repeat (first | refine blk_drewN ?_ _ | refine blk_drew ?_ | refine blk_alloc ?_ _)); exact BK929.out⟩, ⟨by (with_reducible repeat (first | refine blk_drewN ?_ _ | refine blk_drew ?_ | refine blk_alloc ?_ _)); refine blk_far ?_ NB930_937.out _; (with_reducible repeat (first | refine blk_drewN ?_ _ | refine blk_drew ?_ | refine blk_alloc ?_ _)); refine blk_far ?_ NB930_937.out _; (with_reducible repeat (first | refine blk_drewN ?_ _ | refine blk_drew ?_ | refine blk_alloc ?_ _)); exact BK930.out⟩, ⟨by (with_reducible repeat (first | refine blk_drewN ?_ _ | refine blk_drew ?_ | refine blk_alloc ?_ _)); refine blk_put (cs := #[.int .i64 t933, .slice none 0 0]) ?_ 1 _ rfl; (with_reducible repeat (first | refine blk_drewN ?_ _ | refine blk_drew ?_ | refine blk_alloc ?_ _)); refine blk_put (cs := #[.int .i64 0, .slice none 0 0]) ?_ 0 _ rfl; (with_reducible repeat (first | refine blk_drewN ?_ _ | refine blk_drew ?_ | refine blk_alloc ?_ _)); exact BK937.out⟩, ⟨by repeat (first | (with_reducible first | exact HB.out | apply below_alloc | apply pw_below_drewN | apply below_drew1 | refine below_set ?_ GE929.out | refine below_set ?_ GE930.out | refine below_set ?_ GE937.out) | exact HB.out)⟩⟩
        case round =>
          clear H'
          try clear c1
          try clear c2
          try clear p2
          try clear c3
          try clear c4
          try clear c7
          try clear c8
          try clear c8b0
          try clear c9
          try clear c10
          try clear c12
          try clear c12b0
          try clear c13
          try clear c17
          try clear c21
          try clear c24
          try clear c25
          try clear c28
          try clear c32
          try clear c33
          try clear hcz10_0
          try clear hcz10_1
          try clear hcz14_0
          try clear hcz14_1
          try clear hcz18_0
          try clear hcz18_1
          try clear hcz20_0
          try clear hcz20_1
          try clear hcz22_0
          try clear hcz22_1
          try clear hcz26_0
          try clear hcz26_1
          try clear hcz29_0
          try clear hcz29_1
          try clear hcz34_0
          try clear hcz34_1
          try clear hfz10_0
          try clear hfz10_1
          try clear hfz14_0
          try clear hfz14_1
          try clear hfz18_0
          try clear hfz18_1
          try clear hfz20_0
          try clear hfz20_1
          try clear hfz22_0
          try clear hfz22_1
          try clear hfz26_0
          try clear hfz26_1
          try clear hfz29_0
          try clear hfz29_1
          try clear hfz34_0
          try clear hfz34_1
          try clear p2
          obtain ⟨x1_2, x938000_2, x938001_2, u938001, rfl, HA, HK2, HO_938001, BK929, BK930, BK937, HB⟩ := hrel
          cases gk with
          | zero => exact absurd HA.out (by simp [impl_PowerOf.l0])
          | succ k2 =>
            have H := HA.out
            clear HA
            simp only [impl_PowerOf.l0] at H
            by_cases c36 : x1_2 > 0
            · rw [if_pos c36] at H
              have c36b0 : decide (0 < x1_2) = true := decide_eq_true c36
              clear c36
              replace H := Option.bind_eq_some_iff.mp H
              obtain ⟨⟨t938, t939⟩, A370, H⟩ := H
              replace H : (impl_PowerOf.l0 k2 (wrap64 (x1_2 - 1)) a0_0 l0_1 t938 t939) = some (r1, r2, r3) := H
              have A37 := Aside0.mk A370
              clear A370
              have H' := Aside0.mk H
              clear H
              have hnb38 := NB937_929.out
              have hnc38 := NB929_937.out
              have hnb39 := NB937_930.out
              have hnc39 := NB930_937.out
              have hcz40_0 : wr.cell? ⟨gb937, 0, none⟩ = some (.int .i64 x938000_2) := (blk_cell BK937.out 0).trans rfl
              have hcz40_1 : wr.cell? ⟨gb937, 1, none⟩ = some (u938001) := (blk_cell BK937.out 1).trans rfl
              have hfz40_0 := blk_frozen BK937.out 0
              have hfz40_1 := blk_frozen BK937.out 1
              have hnb41 := NB929_930.out
              have hnc41 := NB930_929.out
              have hcz42_0 : wr.cell? ⟨gb929, 0, none⟩ = some (.int .i64 a0_0) := (blk_cell BK929.out 0).trans rfl
              have hcz42_1 : wr.cell? ⟨gb929, 1, none⟩ = some (.slice A0_1 l0_1.length c0_1) := (blk_cell BK929.out 1).trans rfl
              have hfz42_0 := blk_frozen BK929.out 0
              have hfz42_1 := blk_frozen BK929.out 1
              obtain ⟨Ao43, co43, eo43⟩ := Kd.S_slice HO_938001.out
              subst eo43
              go_wp2_with (first | ((with_reducible refine gate_callee (f := 104) rfl ?_); refine goesL_ (some 34) rfl rfl Try.func104 (by kernel_rfl) rfl #[.agg #[.int .i64 x938000_2, .slice Ao43 x938001_2.length co43], .agg #[.int .i64 a0_0, .slice A0_1 l0_1.length c0_1]] rfl (by (try simp only [List.map_toArray, List.map_cons, List.map_nil]); first | done | rfl | (simp only [List.length_drop, List.length_take]; rfl)) ?_; (with_reducible refine (impl_product.calls k2 x938000_2 _ _ x938001_2 a0_0 _ _ l0_1 t938 t939 _ ?side1 ?side2 ?side3 ?side4 A37.out).mono ?_); (case side1 => repeat (first | exact (Kd.S_reads' HO_938001.out).2.2 | (with_reducible refine Kd.C_alloc ?_ _) | (with_reducible refine Kd.C_drewN ?_ _) | (with_reducible refine Kd.C_drew ?_))); (case side2 => exact (Kd.S_reads' HO_938001.out).2.1); (case side3 => repeat (first | exact (Kd.C_below HR0_1.out HB.out) | (with_reducible refine Kd.C_alloc ?_ _) | (with_reducible refine Kd.C_drewN ?_ _) | (with_reducible refine Kd.C_drew ?_))); (case side4 => exact HC0_1.out); rintro e w44 ⟨v940, rfl, ho0, hb⟩; refine ⟨_, rfl, ?_⟩; have n0_ := Aside0.mk (Kd.S_elder' (by (with_reducible repeat (first | apply Kd.S_alloc | apply Kd.S_drewN | apply Kd.S_drew)); exact HO_938001.out) (Kd.S_base ho0) hb); have n1_ := Aside0.mk (Kd.S_lower (Kd.S_new' ho0 (Kd.S_lt (by (with_reducible repeat (first | apply Kd.S_alloc | apply Kd.S_drewN | apply Kd.S_drew)); exact HO_938001.out))) (below_size (by repeat (first | (with_reducible first | exact HB.out | apply below_alloc | apply pw_below_drewN | apply below_drew1 | refine below_set ?_ GE929.out | refine below_set ?_ GE930.out | refine below_set ?_ GE937.out) | exact HB.out)))); have n2_ := Aside0.mk (blk_below (g := gb929) (o := .cells #[.int .i64 a0_0, .slice A0_1 l0_1.length c0_1] 30 (0, 0)) (by (with_reducible repeat (first | refine blk_drewN ?_ _ | refine blk_drew ?_ | refine blk_alloc ?_ _)); exact BK929.out) hb); have n3_ := Aside0.mk (blk_below (g := gb930) (o := .cells #[.int .i64 0, .slice none 0 0] 30 (0, 0)) (by (with_reducible repeat (first | refine blk_drewN ?_ _ | refine blk_drew ?_ | refine blk_alloc ?_ _)); exact BK930.out) hb); have n4_ := Aside0.mk (blk_below (g := gb937) (o := .cells #[.int .i64 x938000_2, .slice Ao43 x938001_2.length co43] 30 (0, 0)) (by (with_reducible repeat (first | refine blk_drewN ?_ _ | refine blk_drew ?_ | refine blk_alloc ?_ _)); exact BK937.out) hb); have n5_ := Aside0.mk (below_step (by repeat (first | (with_reducible first | exact HB.out | apply below_alloc | apply pw_below_drewN | apply below_drew1 | refine below_set ?_ GE929.out | refine below_set ?_ GE930.out | refine below_set ?_ GE937.out) | exact HB.out)) hb); clear HO_938001; clear BK929; clear BK930; clear BK937; clear HB; have HO_938001 := n0_; have HO941 := n1_; have BK929 := n2_; have BK930 := n3_; have BK937 := n4_; have HB := n5_; clear n0_ n1_ n2_ n3_ n4_ n5_; (try clear hb); (try clear hb2); (try clear hk); (try clear hi); (try clear ho0); have hcz45_0 : w44.cell? ⟨gb937, 0, none⟩ = some (.int .i64 x938000_2) := (blk_cell BK937.out 0).trans rfl; have hcz45_1 : w44.cell? ⟨gb937, 1, none⟩ = some (.slice Ao43 x938001_2.length co43) := (blk_cell BK937.out 1).trans rfl; have hfz45_0 := blk_frozen BK937.out 0; have hfz45_1 := blk_frozen BK937.out 1; obtain ⟨Ao46, co46, eo46⟩ := Kd.S_slice HO941.out; subst eo46))
              go_roundg k2
              case measure => have := HJ2.out; have := HK2.out; omega
              case rel => exact ⟨(wrap64 (x1_2 - 1)), (t938), (t939), (.slice Ao46 t939.length co46), (by first | rfl | (simp; done) | (simp [*]; done)), H', ⟨by have := HJ2.out; have := HK2.out; omega⟩, ⟨by (with_reducible repeat (first | apply Kd.S_alloc | apply Kd.S_drewN | apply Kd.S_drew)); exact Kd.S_mono (Kd.S_far (p := ⟨gb937, 1, none⟩) (Kd.S_far (p := ⟨gb937, 0, none⟩) (Kd.S_types HO941.out BK937.out (by decide)) (fun _ hk => hk.2) (.int .i64 t938)) (fun _ hk => hk.2) (.slice Ao46 t939.length co46)) (fun _ hk => trivial)⟩, ⟨by (with_reducible repeat (first | refine blk_drewN ?_ _ | refine blk_drew ?_ | refine blk_alloc ?_ _)); refine blk_far ?_ NB929_937.out _; (with_reducible repeat (first | refine blk_drewN ?_ _ | refine blk_drew ?_ | refine blk_alloc ?_ _)); refine blk_far ?_ NB929_937.out _; (with_reducible repeat (first | refine blk_drewN ?_ _ | refine blk_drew ?_ | refine blk_alloc ?_ _)); exact BK929.out⟩, ⟨by (with_reducible repeat (first | refine blk_drewN ?_ _ | refine blk_drew ?_ | refine blk_alloc ?_ _)); refine blk_far ?_ NB930_937.out _; (with_reducible repeat (first | refine blk_drewN ?_ _ | refine blk_drew ?_ | refine blk_alloc ?_ _)); refine blk_far ?_ NB930_937.out _; (with_reducible repeat (first | refine blk_drewN ?_ _ | refine blk_drew ?_ | refine blk_alloc ?_ _)); exact BK930.out⟩, ⟨by (with_reducible repeat (first | refine blk_drewN ?_ _ | refine blk_drew ?_ | refine blk_alloc ?_ _)); refine blk_put (cs := #[.int .i64 t938, .slice Ao43 x938001_2.length co43]) ?_ 1 _ rfl; (with_reducible repeat (first | refine blk_drewN ?_ _ | refine blk_drew ?_ | refine blk_alloc ?_ _)); refine blk_put (cs := #[.int .i64 x938000_2, .slice Ao43 x938001_2.length co43]) ?_ 0 _ rfl; (with_reducible repeat (first | refine blk_drewN ?_ _ | refine blk_drew ?_ | refine blk_alloc ?_ _)); exact BK937.out⟩, ⟨by repeat (first | (with_reducible first | exact HB.out | apply below_alloc | apply pw_below_drewN | apply below_drew1 | refine below_set ?_ GE929.out | refine below_set ?_ GE930.out | refine below_set ?_ GE937.out) | exact HB.out)⟩⟩
            · rw [if_neg c36] at H
              have c36b0 : decide (0 < x1_2) = false := decide_eq_false c36
              clear c36
              simp only [Option.some.injEq, Prod.mk.injEq] at H
              obtain ⟨rfl, rfl, rfl⟩ := H
              have hnb47 := NB937_929.out
              have hnc47 := NB929_937.out
              have hnb48 := NB937_930.out
              have hnc48 := NB930_937.out
              have hcz49_0 : wr.cell? ⟨gb937, 0, none⟩ = some (.int .i64 x938000_2) := (blk_cell BK937.out 0).trans rfl
              have hcz49_1 : wr.cell? ⟨gb937, 1, none⟩ = some (u938001) := (blk_cell BK937.out 1).trans rfl
              have hfz49_0 := blk_frozen BK937.out 0
              have hfz49_1 := blk_frozen BK937.out 1
              have hnb50 := NB930_929.out
              have hnc50 := NB929_930.out
              have hcz51_0 : wr.cell? ⟨gb930, 0, none⟩ = some (.int .i64 0) := (blk_cell BK930.out 0).trans rfl
              have hcz51_1 : wr.cell? ⟨gb930, 1, none⟩ = some (.slice none 0 0) := (blk_cell BK930.out 1).trans rfl
              have hfz51_0 := blk_frozen BK930.out 0
              have hfz51_1 := blk_frozen BK930.out 1
              obtain ⟨Ao52, co52, eo52⟩ := Kd.S_slice HO_938001.out
              subst eo52
              go_wp2
              refine bodyPost_ret (results_ct rfl _ _ gb930 30 #[.int .i64 x938000_2, .slice Ao52 x938001_2.length co52] (0, 0) _ rfl (by (with_reducible repeat (first | refine blk_drewN ?_ _ | refine blk_drew ?_ | refine blk_alloc ?_ _)); refine blk_put (cs := #[.int .i64 x938000_2, .slice none 0 0]) ?_ 1 _ rfl; (with_reducible repeat (first | refine blk_drewN ?_ _ | refine blk_drew ?_ | refine blk_alloc ?_ _)); refine blk_put (cs := #[.int .i64 0, .slice none 0 0]) ?_ 0 _ rfl; (with_reducible repeat (first | refine blk_drewN ?_ _ | refine blk_drew ?_ | refine blk_alloc ?_ _)); exact BK930.out) Try.underlying30 rfl (by kernel_rfl)) rfl ?_
              exact ⟨_, by first | rfl | (simp [errW_none, errW_some] <;> rfl) | (simp [*, errW_none, errW_some] <;> rfl), by (with_reducible repeat (first | apply Kd.S_alloc | apply Kd.S_drewN | apply Kd.S_drew)); exact Kd.S_mono (Kd.S_far (p := ⟨gb930, 1, none⟩) (Kd.S_far (p := ⟨gb930, 0, none⟩) (Kd.S_types HO_938001.out BK930.out (by decide)) (fun _ hk => hk.2) (.int .i64 x938000_2)) (fun _ hk => hk.2) (.slice Ao52 x938001_2.length co52)) (fun _ hk => trivial), by repeat (first | (with_reducible first | exact HB.out | apply below_alloc | apply pw_below_drewN | apply below_drew1 | refine below_set ?_ GE929.out | refine below_set ?_ GE930.out | refine below_set ?_ GE937.out) | exact HB.out)⟩
end Go.Proofs.Ytijnfpfijgmopaa.Q

namespace Go.Proofs.Ytijnfpfijgmopaa.Q
open Go.RowKit Go.Proofs.YtijnfpfijgmopaaW.PrintWords Go.Proofs.YtijnfpfijgmopaaW.PrintLast Go.Proofs.YtijnfpfijgmopaaW.PrintMore
attribute [local go_sem] max2_int min2_int max_two min_two max_three min_three max_four min_four
set_option linter.unusedVariables false
set_option linter.unusedSimpArgs false
def laws_heldOpS.l0 : Nat → List (S87) → Int → Int → Option (Int)
  | 0, _, _, _ => none
  | k + 1, x0, x1, x5 => if x5 < (x0.length : Int) then (if 0 ≤ x5 then (if ((rd_T87 x0 x5).f0) = x1 then ((laws_heldIntS.f k ((rd_T87 x0 x5).f1) (wrap64 (x1 + 1))).bind fun t944 => (if t944 < 0 then (some (-1)) else (laws_heldOpS.l0 k x0 t944 (wrap64 (x5 + 1))))) else (some (-1))) else (none)) else (some x1)
def laws_heldOpS.f (k : Nat) (l0 : List (S87)) (a1 : Int) : Option (Int) := laws_heldOpS.l0 k l0 a1 0
theorem laws_heldOpS.mono_l : ∀ k, (∀ y0 y1 y2, LeO (laws_heldOpS.l0 k y0 y1 y2) (laws_heldOpS.l0 (k + 1) y0 y1 y2))
  | 0 => fun _ _ _ r h => by simp [laws_heldOpS.l0] at h
  | k + 1 => by
    have ih0 := laws_heldOpS.mono_l k
    · intro y0 y1 y2
      unfold laws_heldOpS.l0
      repeat' first
      | (with_reducible exact ih0 _ _ _)
      | (with_reducible exact laws_heldIntS.mono _ _ _)
      | (with_reducible exact LeO.refl _)
      | (with_reducible exact LeO.none _)
      | (with_reducible refine LeO.ite ?_ ?_)
      | (with_reducible refine LeO.bind ?_ (fun _ => ?_))
      | exact ih0 _ _ _
      | exact laws_heldIntS.mono _ _ _
      | exact LeO.none _
      | refine LeO.ite ?_ ?_
      | refine LeO.bind ?_ (fun _ => ?_)
theorem laws_heldOpS.mono : ∀ a0 a1 k, LeO (laws_heldOpS.f k a0 a1) (laws_heldOpS.f (k + 1) a0 a1) := by
  intro a0 a1 k
  have ih0 := laws_heldOpS.mono_l k
  unfold laws_heldOpS.f
  repeat' first
      | (with_reducible exact ih0 _ _ _)
      | (with_reducible exact laws_heldIntS.mono _ _ _)
      | (with_reducible exact LeO.refl _)
      | (with_reducible exact LeO.none _)
      | (with_reducible refine LeO.ite ?_ ?_)
      | (with_reducible refine LeO.bind ?_ (fun _ => ?_))
      | exact ih0 _ _ _
      | exact laws_heldIntS.mono _ _ _
      | exact LeO.none _
      | refine LeO.ite ?_ ?_
      | refine LeO.bind ?_ (fun _ => ?_)
set_option maxHeartbeats 8000000 in
set_option maxRecDepth 100000 in
theorem laws_heldOpS.calls (k : Nat) (A0 : Option Addr) (c0 : Nat) (l0 : List (S87)) (a1 : Int) (r : Int) (w : World) (hr0 : Kd.C k87 w A0 l0.length l0) (hc0 : l0.length ≤ c0) (h : laws_heldOpS.f k l0 a1 = some r) :
    Calls Try.prog 105 #[.slice A0 l0.length c0, .int .i64 a1] w fun e w' => e = .returned (.int .i64 r) ∧ Drawn0 w w' := by
  have HR0 := Aside0.mk hr0
  have HC0 := Aside0.mk hc0
  clear hr0 hc0
  have H : (laws_heldOpS.l0 k l0 a1 0) = some r := h
  clear h
  have H' := Aside0.mk H
  clear H
  go_enter Try.func105, Try.ntmps105
  go_wp2
  go_loopg [1, 5] k (fun kq v1 v5 w' => ∃ (x1_1 : Int) (x5_1 : Int), v1 = .int .i64 x1_1 ∧ v5 = .int .i64 x5_1 ∧ Aside0 (laws_heldOpS.l0 kq l0 x1_1 x5_1 = some r) ∧ Aside0 (kq ≤ k) ∧ Drawn0 w w')
  case atStart => exact ⟨(a1), (0), (by first | rfl | (simp; done) | (simp [*]; done)), (by first | rfl | (simp; done) | (simp [*]; done)), H', ⟨Nat.le_refl _⟩, by repeat (first | exact Drawn0.refl _ | apply Drawn0.step)⟩
  case round =>
    clear H'
    try clear c1
    try clear p2
    obtain ⟨x1_1, x5_1, rfl, rfl, HA, HK1, ⟨m1, rfl⟩⟩ := hrel
    cases gk with
    | zero => exact absurd HA.out (by simp [laws_heldOpS.l0])
    | succ k1 =>
      have H := HA.out
      clear HA
      simp only [laws_heldOpS.l0] at H
      by_cases c3 : x5_1 < (l0.length : Int)
      · rw [if_pos c3] at H
        have c3b0 : decide (x5_1 < (l0.length : Int)) = true := decide_eq_true c3
        clear c3
        by_cases c4 : 0 ≤ x5_1
        · rw [if_pos c4] at H
          have c4b0 : decide (0 ≤ x5_1) = true := decide_eq_true c4
          clear c4
          by_cases c5 : ((rd_T87 l0 x5_1).f0) = x1_1
          · rw [if_pos c5] at H
            have c5b0 : (((rd_T87 l0 x5_1).f0) == x1_1) = true := beq_iff_eq.mpr c5
            have c5b1 : (((rd_T87 l0 x5_1).f0) != x1_1) = false := bne_eq_false_iff_eq.mpr c5
            clear c5
            replace H := Option.bind_eq_some_iff.mp H
            obtain ⟨t944, A60, H⟩ := H
            replace H : (if t944 < 0 then (some (-1)) else (laws_heldOpS.l0 k1 l0 t944 (wrap64 (x5_1 + 1)))) = some r := H
            have A6 := Aside0.mk A60
            clear A60
            by_cases c7 : t944 < 0
            · rw [if_pos c7] at H
              have c7b0 : decide (t944 < 0) = true := decide_eq_true c7
              clear c7
              obtain rfl := Option.some.inj H
              have p942 : 0 ≤ (x5_1 : Int) := of_decide_eq_true (by first | (with_reducible assumption) | assumption)
              have q942 : x5_1 < (l0.length : Int) := of_decide_eq_true (by first | (with_reducible assumption) | assumption)
              obtain ⟨ad942, A942_1, c942_1, e942, hx942_0, hx942_1, hl942_1, hi942_1⟩ := at_T87 HR0.out x5_1 p942 q942
              cases e942
              have HR942_1 := Aside0.mk hi942_1
              have HC942_1 := Aside0.mk hl942_1
              clear hi942_1 hl942_1
              replace p942 := eq_true p942
              replace q942 := eq_true q942
              have p943 : 0 ≤ (x5_1 : Int) := of_decide_eq_true (by first | (with_reducible assumption) | assumption)
              have q943 : x5_1 < (l0.length : Int) := of_decide_eq_true (by first | (with_reducible assumption) | assumption)
              obtain ⟨ad943, A943_1, c943_1, e943, hx943_0, hx943_1, hl943_1, hi943_1⟩ := at_T87 HR0.out x5_1 p943 q943
              obtain rfl : ad942 = ad943 := (by injection e943)
              have HR943_1 := Aside0.mk hi943_1
              have HC943_1 := Aside0.mk hl943_1
              clear hi943_1 hl943_1
              replace p943 := eq_true p943
              replace q943 := eq_true q943
              have ea_ := Option.some.inj (hx942_1.symm.trans hx943_1)
              injection ea_ with ea_ en_ ec_
              subst ea_
              subst ec_
              clear en_
              go_wp2_with (first | ((with_reducible refine gate_callee (f := 32) rfl ?_); refine goesL_ (some 27) rfl rfl Try.func32 (by kernel_rfl) rfl #[.slice A942_1 ((rd_T87 l0 x5_1).f1).length c942_1, .int .i64 (wrap64 (x1_1 + 1))] rfl (by (try simp only [List.map_toArray, List.map_cons, List.map_nil]); first | done | rfl | (simp only [List.length_drop, List.length_take]; rfl)) ?_; (with_reducible refine (laws_heldIntS.calls k1 _ _ ((rd_T87 l0 x5_1).f1) (wrap64 (x1_1 + 1)) t944 _ ?side1 ?side2 A6.out).mono ?_); (case side1 => repeat (first | exact HR943_1.out | (with_reducible refine Kd.C_alloc ?_ _) | (with_reducible refine Kd.C_drewN ?_ _) | (with_reducible refine Kd.C_drew ?_))); (case side2 => exact HC943_1.out); rintro e w' ⟨rfl, ⟨nd, rfl⟩⟩; refine ⟨_, rfl, ?_⟩))
              go_ret
              exact ⟨by first | rfl | (simp; done) | (simp [*]; done), by repeat (first | exact Drawn0.refl _ | apply Drawn0.step)⟩
            · rw [if_neg c7] at H
              have c7b0 : decide (t944 < 0) = false := decide_eq_false c7
              clear c7
              have H' := Aside0.mk H
              clear H
              have p942 : 0 ≤ (x5_1 : Int) := of_decide_eq_true (by first | (with_reducible assumption) | assumption)
              have q942 : x5_1 < (l0.length : Int) := of_decide_eq_true (by first | (with_reducible assumption) | assumption)
              obtain ⟨ad942, A942_1, c942_1, e942, hx942_0, hx942_1, hl942_1, hi942_1⟩ := at_T87 HR0.out x5_1 p942 q942
              cases e942
              have HR942_1 := Aside0.mk hi942_1
              have HC942_1 := Aside0.mk hl942_1
              clear hi942_1 hl942_1
              replace p942 := eq_true p942
              replace q942 := eq_true q942
              have p943 : 0 ≤ (x5_1 : Int) := of_decide_eq_true (by first | (with_reducible assumption) | assumption)
              have q943 : x5_1 < (l0.length : Int) := of_decide_eq_true (by first | (with_reducible assumption) | assumption)
              obtain ⟨ad943, A943_1, c943_1, e943, hx943_0, hx943_1, hl943_1, hi943_1⟩ := at_T87 HR0.out x5_1 p943 q943
              obtain rfl : ad942 = ad943 := (by injection e943)
              have HR943_1 := Aside0.mk hi943_1
              have HC943_1 := Aside0.mk hl943_1
              clear hi943_1 hl943_1
              replace p943 := eq_true p943
              replace q943 := eq_true q943
              have ea_ := Option.some.inj (hx942_1.symm.trans hx943_1)
              injection ea_ with ea_ en_ ec_
              subst ea_
              subst ec_
              clear en_
              go_wp2_with (first | ((with_reducible refine gate_callee (f := 32) rfl ?_); refine goesL_ (some 27) rfl rfl Try.func32 (by kernel_rfl) rfl #[.slice A942_1 ((rd_T87 l0 x5_1).f1).length c942_1, .int .i64 (wrap64 (x1_1 + 1))] rfl (by (try simp only [List.map_toArray, List.map_cons, List.map_nil]); first | done | rfl | (simp only [List.length_drop, List.length_take]; rfl)) ?_; (with_reducible refine (laws_heldIntS.calls k1 _ _ ((rd_T87 l0 x5_1).f1) (wrap64 (x1_1 + 1)) t944 _ ?side1 ?side2 A6.out).mono ?_); (case side1 => repeat (first | exact HR943_1.out | (with_reducible refine Kd.C_alloc ?_ _) | (with_reducible refine Kd.C_drewN ?_ _) | (with_reducible refine Kd.C_drew ?_))); (case side2 => exact HC943_1.out); rintro e w' ⟨rfl, ⟨nd, rfl⟩⟩; refine ⟨_, rfl, ?_⟩))
              go_roundg k1
              case measure => have := HK1.out; omega
              case rel => exact ⟨(t944), (wrap64 (x5_1 + 1)), (by first | rfl | (simp; done) | (simp [*]; done)), (by first | rfl | (simp; done) | (simp [*]; done)), H', ⟨by have := HK1.out; omega⟩, by repeat (first | exact Drawn0.refl _ | apply Drawn0.step)⟩
          · rw [if_neg c5] at H
            have c5b0 : (((rd_T87 l0 x5_1).f0) == x1_1) = false := beq_eq_false_iff_ne.mpr c5
            have c5b1 : (((rd_T87 l0 x5_1).f0) != x1_1) = true := bne_iff_ne.mpr c5
            obtain rfl := Option.some.inj H
            have p942 : 0 ≤ (x5_1 : Int) := of_decide_eq_true (by first | (with_reducible assumption) | assumption)
            have q942 : x5_1 < (l0.length : Int) := of_decide_eq_true (by first | (with_reducible assumption) | assumption)
            obtain ⟨ad942, A942_1, c942_1, e942, hx942_0, hx942_1, hl942_1, hi942_1⟩ := at_T87 HR0.out x5_1 p942 q942
            cases e942
            have HR942_1 := Aside0.mk hi942_1
            have HC942_1 := Aside0.mk hl942_1
            clear hi942_1 hl942_1
            replace p942 := eq_true p942
            replace q942 := eq_true q942
            go_wp2
            go_ret
            exact ⟨by first | rfl | (simp; done) | (simp [*]; done), by repeat (first | exact Drawn0.refl _ | apply Drawn0.step)⟩
        · rw [if_neg c4] at H
          exact absurd H (by simp)
      · rw [if_neg c3] at H
        have c3b0 : decide (x5_1 < (l0.length : Int)) = false := decide_eq_false c3
        clear c3
        obtain rfl := Option.some.inj H
        go_wp2
        go_ret
        exact ⟨by first | rfl | (simp; done) | (simp [*]; done), by repeat (first | exact Drawn0.refl _ | apply Drawn0.step)⟩
end Go.Proofs.Ytijnfpfijgmopaa.Q

namespace Go.Proofs.Ytijnfpfijgmopaa.Q
open Go.RowKit Go.Proofs.YtijnfpfijgmopaaW.PrintWords Go.Proofs.YtijnfpfijgmopaaW.PrintLast Go.Proofs.YtijnfpfijgmopaaW.PrintMore
attribute [local go_sem] max2_int min2_int max_two min_two max_three min_three max_four min_four
set_option linter.unusedVariables false
set_option linter.unusedSimpArgs false
def laws_heldAlgebra.f (k : Nat) (a0_0 : Int) (l0_1 : List (S87)) (a1 : Int) : Option (Int) := (laws_heldOpS.f k l0_1 a1).bind fun t946 => (if t946 < 0 then (some (-1)) else (some t946))
theorem laws_heldAlgebra.mono : ∀ a0 a1 a2 k, LeO (laws_heldAlgebra.f k a0 a1 a2) (laws_heldAlgebra.f (k + 1) a0 a1 a2) := by
  intro a0 a1 a2 k
  unfold laws_heldAlgebra.f
  repeat' first
      | (with_reducible exact laws_heldOpS.mono _ _ _)
      | (with_reducible exact LeO.refl _)
      | (with_reducible exact LeO.none _)
      | (with_reducible refine LeO.ite ?_ ?_)
      | (with_reducible refine LeO.bind ?_ (fun _ => ?_))
      | exact laws_heldOpS.mono _ _ _
      | exact LeO.none _
      | refine LeO.ite ?_ ?_
      | refine LeO.bind ?_ (fun _ => ?_)
set_option maxHeartbeats 8000000 in
set_option maxRecDepth 100000 in
theorem laws_heldAlgebra.calls (k : Nat) (a0_0 : Int) (A0_1 : Option Addr) (c0_1 : Nat) (l0_1 : List (S87)) (a1 : Int) (r : Int) (w : World) (hr0_1 : Kd.C k87 w A0_1 l0_1.length l0_1) (hc0_1 : l0_1.length ≤ c0_1) (h : laws_heldAlgebra.f k a0_0 l0_1 a1 = some r) :
    Calls Try.prog 49 #[.agg #[.int .i64 a0_0, .slice A0_1 l0_1.length c0_1], .int .i64 a1] w fun e w' => e = .returned (.int .i64 r) ∧ Below w.heap.size w w' := by
  have hu30 := Try.underlying30
  have HR0_1 := Aside0.mk hr0_1
  have HC0_1 := Aside0.mk hc0_1
  clear hr0_1 hc0_1
  have HB := Aside0.mk (Below.refl w.heap.size w)
  have H : ((laws_heldOpS.f k l0_1 a1).bind fun t946 => (if t946 < 0 then (some (-1)) else (some t946))) = some r := h
  clear h
  replace H := Option.bind_eq_some_iff.mp H
  obtain ⟨t946, A30, H⟩ := H
  replace H : (if t946 < 0 then (some (-1)) else (some t946)) = some r := H
  have A3 := Aside0.mk A30
  clear A30
  by_cases c4 : t946 < 0
  · rw [if_pos c4] at H
    have c4b0 : decide (t946 < 0) = true := decide_eq_true c4
    clear c4
    obtain rfl := Option.some.inj H
    go_enter Try.func49, Try.ntmps49
    go_wp2_with (first | ((with_reducible refine gate_dst (N := 2) rfl ?_); refine box_event ?hg (N := 2) ?hd (cs := #[.int .i64 a0_0, .slice A0_1 l0_1.length c0_1]) (t := 30) ?hr ?_; (case hd => rfl); (case hg => rfl); (case hr => first | (go_simp; done) | (go_simp; rfl)); intro gb945 hg w5 hbox hb; have n0_ := Aside0.mk (below_step (by repeat (first | (with_reducible first | exact HB.out | apply below_alloc | apply pw_below_drewN | apply below_drew1) | exact HB.out)) hb); have n1_ := Aside0.mk (hbox); have n2_ := Aside0.mk ((by rw [hg]; exact (below_size (by repeat (first | (with_reducible first | exact HB.out | apply below_alloc | apply pw_below_drewN | apply below_drew1) | exact HB.out))) : w.heap.size ≤ gb945)); have n3_ := Aside0.mk ((by rw [hg]; exact (below_size (by repeat (first | (with_reducible first | exact HB.out | apply below_alloc | apply pw_below_drewN | apply below_drew1) | exact HB.out))) : w.heap.size ≤ gb945)); clear HB; have HB := n0_; have BK945 := n1_; have GW945 := n2_; have GE945 := n3_; clear n0_ n1_ n2_ n3_; clear hb hbox hg; have hcz6_0 : w5.cell? ⟨gb945, 0, none⟩ = some (.int .i64 a0_0) := (blk_cell BK945.out 0).trans rfl; have hcz6_1 : w5.cell? ⟨gb945, 1, none⟩ = some (.slice A0_1 l0_1.length c0_1) := (blk_cell BK945.out 1).trans rfl; have hfz6_0 := blk_frozen BK945.out 0; have hfz6_1 := blk_frozen BK945.out 1) | ((with_reducible refine gate_callee (f := 105) rfl ?_); refine goesL_ (some 8) rfl rfl Try.func105 (by kernel_rfl) rfl #[.slice A0_1 l0_1.length c0_1, .int .i64 a1] rfl (by (try simp only [List.map_toArray, List.map_cons, List.map_nil]); first | done | rfl | (simp only [List.length_drop, List.length_take]; rfl)) ?_; (with_reducible refine (laws_heldOpS.calls k _ _ l0_1 a1 t946 _ ?side1 ?side2 A3.out).mono ?_); (case side1 => repeat (first | exact (Kd.C_below HR0_1.out HB.out) | (with_reducible refine Kd.C_alloc ?_ _) | (with_reducible refine Kd.C_drewN ?_ _) | (with_reducible refine Kd.C_drew ?_))); (case side2 => exact HC0_1.out); rintro e w' ⟨rfl, ⟨nd, rfl⟩⟩; refine ⟨_, rfl, ?_⟩))
    go_ret
    exact ⟨by first | rfl | (simp [errW_none, errW_some] <;> rfl) | (simp [*, errW_none, errW_some] <;> rfl), by repeat (first | (with_reducible first | exact HB.out | apply below_alloc | apply pw_below_drewN | apply below_drew1 | refine below_set ?_ GE945.out) | exact HB.out)⟩
  · rw [if_neg c4] at H
    have c4b0 : decide (t946 < 0) = false := decide_eq_false c4
    clear c4
    obtain rfl := Option.some.inj H
    go_enter Try.func49, Try.ntmps49
    go_wp2_with (first | ((with_reducible refine gate_dst (N := 2) rfl ?_); refine box_event ?hg (N := 2) ?hd (cs := #[.int .i64 a0_0, .slice A0_1 l0_1.length c0_1]) (t := 30) ?hr ?_; (case hd => rfl); (case hg => rfl); (case hr => first | (go_simp; done) | (go_simp; rfl)); intro gb945 hg w7 hbox hb; have n0_ := Aside0.mk (below_step (by repeat (first | (with_reducible first | exact HB.out | apply below_alloc | apply pw_below_drewN | apply below_drew1) | exact HB.out)) hb); have n1_ := Aside0.mk (hbox); have n2_ := Aside0.mk ((by rw [hg]; exact (below_size (by repeat (first | (with_reducible first | exact HB.out | apply below_alloc | apply pw_below_drewN | apply below_drew1) | exact HB.out))) : w.heap.size ≤ gb945)); have n3_ := Aside0.mk ((by rw [hg]; exact (below_size (by repeat (first | (with_reducible first | exact HB.out | apply below_alloc | apply pw_below_drewN | apply below_drew1) | exact HB.out))) : w.heap.size ≤ gb945)); clear HB; have HB := n0_; have BK945 := n1_; have GW945 := n2_; have GE945 := n3_; clear n0_ n1_ n2_ n3_; clear hb hbox hg; have hcz8_0 : w7.cell? ⟨gb945, 0, none⟩ = some (.int .i64 a0_0) := (blk_cell BK945.out 0).trans rfl; have hcz8_1 : w7.cell? ⟨gb945, 1, none⟩ = some (.slice A0_1 l0_1.length c0_1) := (blk_cell BK945.out 1).trans rfl; have hfz8_0 := blk_frozen BK945.out 0; have hfz8_1 := blk_frozen BK945.out 1) | ((with_reducible refine gate_callee (f := 105) rfl ?_); refine goesL_ (some 8) rfl rfl Try.func105 (by kernel_rfl) rfl #[.slice A0_1 l0_1.length c0_1, .int .i64 a1] rfl (by (try simp only [List.map_toArray, List.map_cons, List.map_nil]); first | done | rfl | (simp only [List.length_drop, List.length_take]; rfl)) ?_; (with_reducible refine (laws_heldOpS.calls k _ _ l0_1 a1 t946 _ ?side1 ?side2 A3.out).mono ?_); (case side1 => repeat (first | exact (Kd.C_below HR0_1.out HB.out) | (with_reducible refine Kd.C_alloc ?_ _) | (with_reducible refine Kd.C_drewN ?_ _) | (with_reducible refine Kd.C_drew ?_))); (case side2 => exact HC0_1.out); rintro e w' ⟨rfl, ⟨nd, rfl⟩⟩; refine ⟨_, rfl, ?_⟩))
    go_ret
    exact ⟨by first | rfl | (simp [errW_none, errW_some] <;> rfl) | (simp [*, errW_none, errW_some] <;> rfl), by repeat (first | (with_reducible first | exact HB.out | apply below_alloc | apply pw_below_drewN | apply below_drew1 | refine below_set ?_ GE945.out) | exact HB.out)⟩
end Go.Proofs.Ytijnfpfijgmopaa.Q

namespace Go.Proofs.Ytijnfpfijgmopaa.Q
open Go.RowKit Go.Proofs.YtijnfpfijgmopaaW.PrintWords Go.Proofs.YtijnfpfijgmopaaW.PrintLast Go.Proofs.YtijnfpfijgmopaaW.PrintMore
attribute [local go_sem] max2_int min2_int max_two min_two max_three min_three max_four min_four
set_option linter.unusedVariables false
set_option linter.unusedSimpArgs false
def laws_toIntS.l0 : Nat → List Int → List Int → Int → Option (List Int)
  | 0, _, _, _ => none
  | k + 1, x0, x3, x4 => if x4 < (x0.length : Int) then (if 0 ≤ x4 then (if x4 < (x3.length : Int) then (laws_toIntS.l0 k x0 (x3.set (x4 : Int).toNat (rd x0 x4)) (wrap64 (x4 + 1))) else (none)) else (none)) else (some x3)
def laws_toIntS.f (k : Nat) (l0 : List Int) : Option (List Int) := if 0 ≤ (l0.length : Int) then (if ((l0.length : Int) : Int).toNat ≤ 35184372088832 then (laws_toIntS.l0 k l0 (List.replicate ((l0.length : Int) : Int).toNat 0) 0) else (none)) else (none)
theorem laws_toIntS.mono_l : ∀ k, (∀ y0 y1 y2, LeO (laws_toIntS.l0 k y0 y1 y2) (laws_toIntS.l0 (k + 1) y0 y1 y2))
  | 0 => fun _ _ _ r h => by simp [laws_toIntS.l0] at h
  | k + 1 => by
    have ih0 := laws_toIntS.mono_l k
    · intro y0 y1 y2
      unfold laws_toIntS.l0
      repeat' first
      | (with_reducible exact ih0 _ _ _)
      | (with_reducible exact LeO.refl _)
      | (with_reducible exact LeO.none _)
      | (with_reducible refine LeO.ite ?_ ?_)
      | (with_reducible refine LeO.bind ?_ (fun _ => ?_))
      | exact ih0 _ _ _
      | exact LeO.none _
      | refine LeO.ite ?_ ?_
      | refine LeO.bind ?_ (fun _ => ?_)
theorem laws_toIntS.mono : ∀ a0 k, LeO (laws_toIntS.f k a0) (laws_toIntS.f (k + 1) a0) := by
  intro a0 k
  have ih0 := laws_toIntS.mono_l k
  unfold laws_toIntS.f
  repeat' first
      | (with_reducible exact ih0 _ _ _)
      | (with_reducible exact LeO.refl _)
      | (with_reducible exact LeO.none _)
      | (with_reducible refine LeO.ite ?_ ?_)
      | (with_reducible refine LeO.bind ?_ (fun _ => ?_))
      | exact ih0 _ _ _
      | exact LeO.none _
      | refine LeO.ite ?_ ?_
      | refine LeO.bind ?_ (fun _ => ?_)
set_option maxHeartbeats 8000000 in
set_option maxRecDepth 100000 in
theorem laws_toIntS.calls (k : Nat) (A0 : Option Addr) (c0 : Nat) (l0 : List Int) (r : List Int) (w : World) (hr0 : Kd.C (Kd.int .i64) w A0 l0.length l0) (hc0 : l0.length ≤ c0) (h : laws_toIntS.f k l0 = some r) :
    Calls Try.prog 51 #[.slice A0 l0.length c0] w fun e w' => ∃ v0_ : Value, e = .returned (v0_) ∧ Kd.R (Kd.int .i64) 3 w' w.heap.size (fun _ => True) v0_ r ∧ Below w.heap.size w w' := by
  have HR0 := Aside0.mk hr0
  have HC0 := Aside0.mk hc0
  clear hr0 hc0
  have HB := Aside0.mk (Below.refl w.heap.size w)
  have H : (if 0 ≤ (l0.length : Int) then (if ((l0.length : Int) : Int).toNat ≤ 35184372088832 then (laws_toIntS.l0 k l0 (List.replicate ((l0.length : Int) : Int).toNat 0) 0) else (none)) else (none)) = some r := h
  clear h
  by_cases c2 : 0 ≤ (l0.length : Int)
  · rw [if_pos c2] at H
    have c2b0 := eq_true c2
    have c2b1 : decide (0 ≤ (l0.length : Int)) = true := decide_eq_true c2
    clear c2
    by_cases c3 : ((l0.length : Int) : Int).toNat ≤ 35184372088832
    · rw [if_pos c3] at H
      have c3b0 := eq_true c3
      have c3b1 : decide (((l0.length : Int) : Int).toNat ≤ 35184372088832) = true := decide_eq_true c3
      clear c3
      obtain ⟨y122, hy122⟩ : ∃ y_ : List Int, y_ = (List.replicate ((l0.length : Int) : Int).toNat 0) := ⟨_, rfl⟩
      replace H : (laws_toIntS.l0 k l0 y122 0) = some r := by first | (rw [hy122]; with_reducible exact H) | (have H2_ := (Option.bind_some _ _).symm.trans H; rw [hy122]; with_reducible exact H2_) | (have H2_ := (Option.bind_some _ _).symm.trans H; with_reducible exact H2_) | with_reducible exact H | (rw [hy122]; exact H) | exact H
      have Ny122 := Aside0.mk hy122
      clear hy122
      have H' := Aside0.mk H
      clear H
      go_enter Try.func51, Try.ntmps51
      go_wp2_with (first | ((with_reducible refine gate_dst (N := 7) rfl ?_); refine Kd.R_make (Kd.int .i64) _ 3 rfl (N := 7) rfl 41 _ _ rfl (l0.length : Int) rfl rfl Try.underlying41 (.int .i64 0) 8 info3 rfl (by decide) (by omega) 0 (ok := fun _ => True) (okp := fun _ => True) rfl (fun _ hk => hk) trivial (of_decide_eq_true (by first | (with_reducible assumption) | assumption)) (Nat.le_trans (Nat.mul_le_mul_right _ (of_decide_eq_true (by first | (with_reducible assumption) | assumption) : (l0.length : Int).toNat ≤ 35184372088832)) (by omega)) (Below.refl _ _) (Nat.le_refl _) ?_; intro v123 w4 ho5 hb hg_ hnew_; clear hg_ hnew_; (first | rw [← Ny122.out] at ho5 | (simp only [Int.reduceToNat] at ho5; rw [← Ny122.out] at ho5)); have n0_ := Aside0.mk (Kd.R_lower ho5 (below_size (by repeat (first | (with_reducible first | exact HB.out | apply below_alloc | apply pw_below_drewN | apply below_drew1) | exact HB.out)))); have n1_ := Aside0.mk (below_step (by repeat (first | (with_reducible first | exact HB.out | apply below_alloc | apply pw_below_drewN | apply below_drew1) | exact HB.out)) hb); clear HB; have HO124 := n0_; have HB := n1_; clear n0_ n1_; clear hb ho5))
      go_loopg [4] k (fun kq v4 w' => ∃ (x3_1 : List Int) (x4_1 : Int), v4 = .int .i64 x4_1 ∧ Aside0 (laws_toIntS.l0 kq l0 x3_1 x4_1 = some r) ∧ Aside0 (kq ≤ k) ∧ Aside0 (Kd.R (Kd.int .i64) 3 w' w.heap.size (fun _ => True) v123 x3_1) ∧ Aside0 (Below w.heap.size w w'))
      case atStart => exact ⟨(y122), (0), (by first | rfl | (simp; done) | (simp [*]; done)), H', ⟨Nat.le_refl _⟩, ⟨by (with_reducible repeat (first | apply Kd.R_alloc | apply Kd.R_drewN | apply Kd.R_drew)); exact HO124.out⟩, ⟨by repeat (first | (with_reducible first | exact HB.out | apply below_alloc | apply pw_below_drewN | apply below_drew1) | exact HB.out)⟩⟩
      case round =>
        clear H'
        try clear c2
        try clear c2b0
        try clear c2b1
        try clear p2
        try clear c3
        try clear c3b0
        try clear c3b1
        try clear c5
        obtain ⟨x3_1, x4_1, rfl, HA, HK1, HO_3, HB⟩ := hrel
        cases gk with
        | zero => exact absurd HA.out (by simp [laws_toIntS.l0])
        | succ k1 =>
          have H := HA.out
          clear HA
          simp only [laws_toIntS.l0] at H
          by_cases c6 : x4_1 < (l0.length : Int)
          · rw [if_pos c6] at H
            have c6b0 : decide (x4_1 < (l0.length : Int)) = true := decide_eq_true c6
            clear c6
            by_cases c7 : 0 ≤ x4_1
            · rw [if_pos c7] at H
              have c7b0 : decide (0 ≤ x4_1) = true := decide_eq_true c7
              clear c7
              by_cases c8 : x4_1 < (x3_1.length : Int)
              · rw [if_pos c8] at H
                have c8b0 : decide (x4_1 < (x3_1.length : Int)) = true := decide_eq_true c8
                clear c8
                obtain ⟨y126, hy126⟩ : ∃ y_ : List Int, y_ = (x3_1.set (x4_1 : Int).toNat (rd l0 x4_1)) := ⟨_, rfl⟩
                replace H : (laws_toIntS.l0 k1 l0 y126 (wrap64 (x4_1 + 1))) = some r := by first | (rw [hy126]; with_reducible exact H) | (have H2_ := (Option.bind_some _ _).symm.trans H; rw [hy126]; with_reducible exact H2_) | (have H2_ := (Option.bind_some _ _).symm.trans H; with_reducible exact H2_) | with_reducible exact H | (rw [hy126]; exact H) | exact H
                have Ny126 := Aside0.mk hy126
                clear hy126
                have H' := Aside0.mk H
                clear H
                have p125 : 0 ≤ (x4_1 : Int) := of_decide_eq_true (by first | (with_reducible assumption) | assumption)
                have q125 : x4_1 < (l0.length : Int) := of_decide_eq_true (by first | (with_reducible assumption) | assumption)
                obtain ⟨ad125, e125, hx125_0⟩ := Kd.at_int HR0.out x4_1 p125 q125
                cases e125
                replace hx125_0 := (HB.out.cell (World.block_lt_of_cell? w _ hx125_0)).trans hx125_0
                replace p125 := eq_true p125
                replace q125 := eq_true q125
                have p9 : 0 ≤ (x4_1 : Int) := of_decide_eq_true (by first | (with_reducible assumption) | assumption)
                have q9 : (x4_1 : Int) < ((x3_1.length : Int) : Int) := of_decide_eq_true (by first | (with_reducible assumption) | assumption)
                obtain ⟨go9, co9, eo9, gb9, gl9, cl9, HG9⟩ := Kd.R_form HO_3.out (by omega)
                (first | cases eo9 | (injection eo9 with ea_ en_ ec_; (first | subst ea_ | (injection ea_ with ea_; subst ea_)); subst ec_; clear en_))
                have GB9 := Aside0.mk gb9
                have GG9 := Aside0.mk HG9
                clear gb9 gl9 HG9
                obtain ⟨hx9_0, hf9_0⟩ := Kd.R_celln 0 HO_3.out (x4_1 : Int) p9 q9
                replace p9 := eq_true p9
                replace q9 := eq_true q9
                have HP10 := Kd.R_putg HO_3.out (x4_1 : Int) (rd l0 x4_1)
                go_wp2_with (first | ((with_reducible refine gate_store (t := 3) (p := 20) rfl ?_); refine store_event (t := 3) (p := 20) (v := ?vo_w11) (w1 := (wr.setCell ⟨go9, (x4_1 : Int).toNat, none⟩ (.int .i64 (rd l0 x4_1)))) ?hg ?ho ?hn ?hr ?_; (case ho => rfl); (case hg => rfl); (case hn => rfl); (case hr => first | (go_simp; done) | (go_simp; rfl)); intro w11 hw; have hg : wr.grownBy w11 (some go9) := (by rw [hw]; exact HP10.2); have hp_ : Kd.R (Kd.int .i64) 3 w11 w.heap.size (fun _ => True) (.slice (some ⟨go9, 0, none⟩) x3_1.length co9) y126 := (by rw [hw, Ny126.out]; exact HP10.1); clear HP10; have n0_ := Aside0.mk (hp_); have n1_ := Aside0.mk ((by rw [hw]; exact below_set (HB.out) GB9.out : Below w.heap.size w w11)); clear HO_3; clear HB; have HO_3 := n0_; have HB := n1_; clear n0_ n1_; clear hg hw hp_))
                go_roundg k1
                case measure => have := HK1.out; omega
                case rel => exact ⟨(y126), (wrap64 (x4_1 + 1)), (by first | rfl | (simp; done) | (simp [*]; done)), H', ⟨by have := HK1.out; omega⟩, ⟨by (with_reducible repeat (first | apply Kd.R_alloc | apply Kd.R_drewN | apply Kd.R_drew)); exact HO_3.out⟩, ⟨by repeat (first | (with_reducible first | exact HB.out | apply below_alloc | apply pw_below_drewN | apply below_drew1) | exact HB.out)⟩⟩
              · rw [if_neg c8] at H
                exact absurd H (by simp)
            · rw [if_neg c7] at H
              exact absurd H (by simp)
          · rw [if_neg c6] at H
            have c6b0 : decide (x4_1 < (l0.length : Int)) = false := decide_eq_false c6
            clear c6
            obtain rfl := Option.some.inj H
            go_wp2
            go_ret
            exact ⟨_, by first | rfl | (simp [errW_none, errW_some] <;> rfl) | (simp [*, errW_none, errW_some] <;> rfl), by (with_reducible repeat (first | apply Kd.R_alloc | apply Kd.R_drewN | apply Kd.R_drew)); exact HO_3.out, by repeat (first | (with_reducible first | exact HB.out | apply below_alloc | apply pw_below_drewN | apply below_drew1) | exact HB.out)⟩
    · rw [if_neg c3] at H
      exact absurd H (by simp)
  · rw [if_neg c2] at H
    exact absurd H (by simp)
end Go.Proofs.Ytijnfpfijgmopaa.Q
