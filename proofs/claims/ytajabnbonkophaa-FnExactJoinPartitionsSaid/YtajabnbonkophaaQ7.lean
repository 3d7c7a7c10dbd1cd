-- Written by programs of this repo (joint.sh, post.py) out of the kit's print of the functions; Lean checks it.
import Derived.Test.YtajabnbonkophaaQ0
namespace Go.Proofs.Ytajabnbonkophaa.Q
open Go.RowKit Go.Proofs.YtajabnbonkophaaW.PrintWords Go.Proofs.YtajabnbonkophaaW.PrintLast Go.Proofs.YtajabnbonkophaaW.PrintMore
attribute [local go_sem] max2_int min2_int max_two min_two max_three min_three max_four min_four   -- for this text's walks alone
set_option linter.unusedVariables false
set_option linter.unusedSimpArgs false

/-! ### impl_isPartition: function 60 -/
def impl_isPartition.l0 : Nat → List Int → List Int → Int → Int → Option (Bool)
  | 0, _, _, _, _ => none
  | k + 1, x1, x11, x12, x13 => if x13 < x12 then (if 0 ≤ x13 then (if x13 < (x11.length : Int) then (if (rd x11 x13) < 0 then (some false) else (if (rd x11 x13) > x13 then (some false) else (if 0 ≤ (rd x11 x13) then (if (rd x11 x13) < (x1.length : Int) then (if (rd x1 (rd x11 x13)) = (rd x11 x13) then (impl_isPartition.l0 k x1 x11 x12 (wrap64 (x13 + 1))) else (some false)) else (none)) else (none)))) else (none)) else (none)) else (some true)
def impl_isPartition.f (k : Nat) (a0 : Int) (l1 : List Int) : Option (Bool) := if (l1.length : Int) = a0 then (impl_isPartition.l0 k l1 l1 (l1.length : Int) 0) else (some false)
theorem impl_isPartition.mono_l : ∀ k, (∀ y0 y1 y2 y3, LeO (impl_isPartition.l0 k y0 y1 y2 y3) (impl_isPartition.l0 (k + 1) y0 y1 y2 y3))
  | 0 => fun _ _ _ _ r h => by simp [impl_isPartition.l0] at h
  | k + 1 => by
    have ih0 := impl_isPartition.mono_l k
    · intro y0 y1 y2 y3
      unfold impl_isPartition.l0
      repeat' first
      | (with_reducible exact ih0 _ _ _ _)
      | (with_reducible exact LeO.refl _)
      | (with_reducible exact LeO.none _)
      | (with_reducible refine LeO.ite ?_ ?_)
      | (with_reducible refine LeO.bind ?_ (fun _ => ?_))
      | exact ih0 _ _ _ _
      | exact LeO.none _
      | refine LeO.ite ?_ ?_
      | refine LeO.bind ?_ (fun _ => ?_)
theorem impl_isPartition.mono : ∀ a0 a1 k, LeO (impl_isPartition.f k a0 a1) (impl_isPartition.f (k + 1) a0 a1) := by
  intro a0 a1 k
  have ih0 := impl_isPartition.mono_l k
  unfold impl_isPartition.f
  repeat' first
      | (with_reducible exact ih0 _ _ _ _)
      | (with_reducible exact LeO.refl _)
      | (with_reducible exact LeO.none _)
      | (with_reducible refine LeO.ite ?_ ?_)
      | (with_reducible refine LeO.bind ?_ (fun _ => ?_))
      | exact ih0 _ _ _ _
      | exact LeO.none _
      | refine LeO.ite ?_ ?_
      | refine LeO.bind ?_ (fun _ => ?_)
set_option maxHeartbeats 8000000 in
set_option maxRecDepth 100000 in
theorem impl_isPartition.calls (k : Nat) (a0 : Int) (A1 : Option Addr) (c1 : Nat) (l1 : List Int) (r : Bool) (w : World) (hr1 : Kd.C (Kd.int .i64) w A1 l1.length l1) (hc1 : l1.length ≤ c1) (h : impl_isPartition.f k a0 l1 = some r) :
    Calls Try.prog 60 #[.int .i64 a0, .slice A1 l1.length c1] w fun e w' => e = .returned (.bool r) ∧ Drawn0 w w' := by
  have HR1 := Aside0.mk hr1
  have HC1 := Aside0.mk hc1
  clear hr1 hc1
  have H : (if (l1.length : Int) = a0 then (impl_isPartition.l0 k l1 l1 (l1.length : Int) 0) else (some false)) = some r := h
  clear h
  by_cases c3 : (l1.length : Int) = a0
  · rw [if_pos c3] at H
    have c3b0 : ((l1.length : Int) == a0) = true := beq_iff_eq.mpr c3
    have c3b1 : ((l1.length : Int) != a0) = false := bne_eq_false_iff_eq.mpr c3
    clear c3
    have H' := Aside0.mk H
    clear H
    go_enter Try.func60, Try.ntmps60
    go_wp2
    go_loopg [13] k (fun kq v13 w' => ∃ (x13_1 : Int), v13 = .int .i64 x13_1 ∧ Aside0 (impl_isPartition.l0 kq l1 l1 (l1.length : Int) x13_1 = some r) ∧ Aside0 (kq ≤ k) ∧ Drawn0 w w')
    case atStart => exact ⟨(0), (by first | rfl | (simp; done) | (simp [*]; done)), H', ⟨Nat.le_refl _⟩, by repeat (first | exact Drawn0.refl _ | apply Drawn0.step)⟩
    case round =>
      clear H'
      try clear c1
      try clear p2
      try clear c3
      try clear c3b0
      try clear c3b1
      obtain ⟨x13_1, rfl, HA, HK1, ⟨m1, rfl⟩⟩ := hrel
      cases gk with
      | zero => exact absurd HA.out (by simp [impl_isPartition.l0])
      | succ k1 =>
        have H := HA.out
        clear HA
        simp only [impl_isPartition.l0] at H
        by_cases c4 : x13_1 < (l1.length : Int)
        · rw [if_pos c4] at H
          have c4b0 : decide (x13_1 < (l1.length : Int)) = true := decide_eq_true c4
          clear c4
          by_cases c5 : 0 ≤ x13_1
          · rw [if_pos c5] at H
            have c5b0 : decide (0 ≤ x13_1) = true := decide_eq_true c5
            clear c5
            by_cases c6 : x13_1 < (l1.length : Int)
            · rw [if_pos c6] at H
              have c6b0 : decide (x13_1 < (l1.length : Int)) = true := decide_eq_true c6
              clear c6
              by_cases c7 : (rd l1 x13_1) < 0
              · rw [if_pos c7] at H
                have c7b0 : decide ((rd l1 x13_1) < 0) = true := decide_eq_true c7
                clear c7
                obtain rfl := Option.some.inj H
                have p114 : 0 ≤ (x13_1 : Int) := of_decide_eq_true (by first | (with_reducible assumption) | assumption)
                have q114 : x13_1 < (l1.length : Int) := of_decide_eq_true (by first | (with_reducible assumption) | assumption)
                obtain ⟨ad114, e114, hx114_0⟩ := Kd.at_int HR1.out x13_1 p114 q114
                cases e114
                replace p114 := eq_true p114
                replace q114 := eq_true q114
                go_wp2
                go_ret
                exact ⟨by first | rfl | (simp; done) | (simp [*]; done), by repeat (first | exact Drawn0.refl _ | apply Drawn0.step)⟩
              · rw [if_neg c7] at H
                have c7b0 : decide ((rd l1 x13_1) < 0) = false := decide_eq_false c7
                clear c7
                by_cases c8 : (rd l1 x13_1) > x13_1
                · rw [if_pos c8] at H
                  have c8b0 : decide (x13_1 < (rd l1 x13_1)) = true := decide_eq_true c8
                  clear c8
                  obtain rfl := Option.some.inj H
                  have p114 : 0 ≤ (x13_1 : Int) := of_decide_eq_true (by first | (with_reducible assumption) | assumption)
                  have q114 : x13_1 < (l1.length : Int) := of_decide_eq_true (by first | (with_reducible assumption) | assumption)
                  obtain ⟨ad114, e114, hx114_0⟩ := Kd.at_int HR1.out x13_1 p114 q114
                  cases e114
                  replace p114 := eq_true p114
                  replace q114 := eq_true q114
                  go_wp2
                  go_ret
                  exact ⟨by first | rfl | (simp; done) | (simp [*]; done), by repeat (first | exact Drawn0.refl _ | apply Drawn0.step)⟩
                · rw [if_neg c8] at H
                  have c8b0 : decide (x13_1 < (rd l1 x13_1)) = false := decide_eq_false c8
                  clear c8
                  by_cases c9 : 0 ≤ (rd l1 x13_1)
                  · rw [if_pos c9] at H
                    have c9b0 : decide (0 ≤ (rd l1 x13_1)) = true := decide_eq_true c9
                    clear c9
                    by_cases c10 : (rd l1 x13_1) < (l1.length : Int)
                    · rw [if_pos c10] at H
                      have c10b0 : decide ((rd l1 x13_1) < (l1.length : Int)) = true := decide_eq_true c10
                      clear c10
                      by_cases c11 : (rd l1 (rd l1 x13_1)) = (rd l1 x13_1)
                      · rw [if_pos c11] at H
                        have c11b0 : ((rd l1 (rd l1 x13_1)) == (rd l1 x13_1)) = true := beq_iff_eq.mpr c11
                        have c11b1 : ((rd l1 (rd l1 x13_1)) != (rd l1 x13_1)) = false := bne_eq_false_iff_eq.mpr c11
                        clear c11
                        have H' := Aside0.mk H
                        clear H
                        have p114 : 0 ≤ (x13_1 : Int) := of_decide_eq_true (by first | (with_reducible assumption) | assumption)
                        have q114 : x13_1 < (l1.length : Int) := of_decide_eq_true (by first | (with_reducible assumption) | assumption)
                        obtain ⟨ad114, e114, hx114_0⟩ := Kd.at_int HR1.out x13_1 p114 q114
                        cases e114
                        replace p114 := eq_true p114
                        replace q114 := eq_true q114
                        have p115 : 0 ≤ ((rd l1 x13_1) : Int) := of_decide_eq_true (by first | (with_reducible assumption) | assumption)
                        have q115 : (rd l1 x13_1) < (l1.length : Int) := of_decide_eq_true (by first | (with_reducible assumption) | assumption)
                        obtain ⟨ad115, e115, hx115_0⟩ := Kd.at_int HR1.out (rd l1 x13_1) p115 q115
                        obtain rfl : ad114 = ad115 := (by injection e115)
                        replace p115 := eq_true p115
                        replace q115 := eq_true q115
                        go_wp2
                        go_roundg k1
                        case measure => have := HK1.out; omega
                        case rel => exact ⟨(wrap64 (x13_1 + 1)), (by first | rfl | (simp; done) | (simp [*]; done)), H', ⟨by have := HK1.out; omega⟩, by repeat (first | exact Drawn0.refl _ | apply Drawn0.step)⟩
                      · rw [if_neg c11] at H
                        have c11b0 : ((rd l1 (rd l1 x13_1)) == (rd l1 x13_1)) = false := beq_eq_false_iff_ne.mpr c11
                        have c11b1 : ((rd l1 (rd l1 x13_1)) != (rd l1 x13_1)) = true := bne_iff_ne.mpr c11
                        obtain rfl := Option.some.inj H
                        have p114 : 0 ≤ (x13_1 : Int) := of_decide_eq_true (by first | (with_reducible assumption) | assumption)
                        have q114 : x13_1 < (l1.length : Int) := of_decide_eq_true (by first | (with_reducible assumption) | assumption)
                        obtain ⟨ad114, e114, hx114_0⟩ := Kd.at_int HR1.out x13_1 p114 q114
                        cases e114
                        replace p114 := eq_true p114
                        replace q114 := eq_true q114
                        have p115 : 0 ≤ ((rd l1 x13_1) : Int) := of_decide_eq_true (by first | (with_reducible assumption) | assumption)
                        have q115 : (rd l1 x13_1) < (l1.length : Int) := of_decide_eq_true (by first | (with_reducible assumption) | assumption)
                        obtain ⟨ad115, e115, hx115_0⟩ := Kd.at_int HR1.out (rd l1 x13_1) p115 q115
                        obtain rfl : ad114 = ad115 := (by injection e115)
                        replace p115 := eq_true p115
                        replace q115 := eq_true q115
                        go_wp2
                        go_ret
                        exact ⟨by first | rfl | (simp; done) | (simp [*]; done), by repeat (first | exact Drawn0.refl _ | apply Drawn0.step)⟩
                    · rw [if_neg c10] at H
                      exact absurd H (by simp)
                  · rw [if_neg c9] at H
                    exact absurd H (by simp)
            · rw [if_neg c6] at H
              exact absurd H (by simp)
          · rw [if_neg c5] at H
            exact absurd H (by simp)
        · rw [if_neg c4] at H
          have c4b0 : decide (x13_1 < (l1.length : Int)) = false := decide_eq_false c4
          clear c4
          obtain rfl := Option.some.inj H
          go_wp2
          go_ret
          exact ⟨by first | rfl | (simp; done) | (simp [*]; done), by repeat (first | exact Drawn0.refl _ | apply Drawn0.step)⟩
  · rw [if_neg c3] at H
    have c3b0 : ((l1.length : Int) == a0) = false := beq_eq_false_iff_ne.mpr c3
    have c3b1 : ((l1.length : Int) != a0) = true := bne_iff_ne.mpr c3
    obtain rfl := Option.some.inj H
    go_enter Try.func60, Try.ntmps60
    go_wp2
    go_ret
    exact ⟨by first | rfl | (simp; done) | (simp [*]; done), by repeat (first | exact Drawn0.refl _ | apply Drawn0.step)⟩

end Go.Proofs.Ytajabnbonkophaa.Q
