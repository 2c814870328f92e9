import Derived.Test.YtcefiblpnegepaaQByq
import Derived.Test.YtcefiblpnegepaaQPrK
import Derived.Test.YtcefiblpnegepaaQPrM
import Derived.Test.YtcefiblpnegepaaQWLog
namespace Go.Proofs.Ytcefiblpnegepaa.Pr
open Go.RowKit Go.Proofs.YtcefiblpnegepaaW.PrintWords Go.Proofs.YtcefiblpnegepaaW.PrintLast Go.Proofs.YtcefiblpnegepaaW.PrintMore
attribute [local go_sem] max2_int min2_int max_two min_two max_three min_three max_four min_four
set_option linter.unusedVariables false
set_option linter.unusedSimpArgs false
def spec_l3Last.l0 : Nat → List (S41) → Int → Int → Option (Int)
  | 0, _, _, _ => none
  | k + 1, x0, x1, x5 => if x5 ≥ 0 then (if 0 ≤ x5 then (if x5 < (x0.length : Int) then (if ((rd_T41 x0 x5).f1) = x1 then (if ((rd_T41 x0 x5).f0) = 4 then (some 0) else (if ((rd_T41 x0 x5).f0) = 5 then (some 0) else (some (wrap64 (x5 + 1))))) else (spec_l3Last.l0 k x0 x1 (wrap64 (x5 - 1)))) else (none)) else (none)) else (some 0)
def spec_l3Last.f (k : Nat) (l0 : List (S41)) (a1 : Int) : Option (Int) := spec_l3Last.l0 k l0 a1 (wrap64 ((l0.length : Int) - 1))
theorem spec_l3Last.mono_l : ∀ k, (∀ y0 y1 y2, LeO (spec_l3Last.l0 k y0 y1 y2) (spec_l3Last.l0 (k + 1) y0 y1 y2))
  | 0 => fun _ _ _ r h => by simp [spec_l3Last.l0] at h
  | k + 1 => by
    have ih0 := spec_l3Last.mono_l k
    · intro y0 y1 y2
      unfold spec_l3Last.l0
      repeat' first
      | (with_reducible exact ih0 _ _ _)
      | (with_reducible exact LeO.refl _)
      | (with_reducible exact LeO.none _)
      | (with_reducible refine LeO.ite ?_ ?_)
      | (with_reducible refine LeO.bind ?_ (fun _ => ?_))
      | exact ih0 _ _ _
      | exact LeO.none _
      | refine LeO.ite ?_ ?_
      | refine LeO.bind ?_ (fun _ => ?_)
theorem spec_l3Last.mono : ∀ a0 a1 k, LeO (spec_l3Last.f k a0 a1) (spec_l3Last.f (k + 1) a0 a1) := by
  intro a0 a1 k; have ih0 := spec_l3Last.mono_l k
  unfold spec_l3Last.f
  repeat' first
      | (with_reducible exact ih0 _ _ _)
      | (with_reducible exact LeO.refl _)
      | (with_reducible exact LeO.none _)
      | (with_reducible refine LeO.ite ?_ ?_)
      | (with_reducible refine LeO.bind ?_ (fun _ => ?_))
      | exact ih0 _ _ _
      | exact LeO.none _
      | refine LeO.ite ?_ ?_
      | refine LeO.bind ?_ (fun _ => ?_)
set_option maxHeartbeats 8000000 in
set_option maxRecDepth 100000 in
theorem spec_l3Last.calls (k : Nat) (A0 : Option Addr) (c0 : Nat) (l0 : List (S41)) (a1 : Int) (r : Int) (w : World) (hr0 : Kd.C k41 w A0 l0.length l0) (hc0 : l0.length ≤ c0) (h : spec_l3Last.f k l0 a1 = some r) :
    Calls Try.prog 84 #[.slice A0 l0.length c0, .int .i64 a1] w fun e w' => e = .returned (.int .i64 r) ∧ Drawn0 w w' := by
  have HR0 := Aside0.mk hr0; have HC0 := Aside0.mk hc0; clear hr0 hc0; have H : (spec_l3Last.l0 k l0 a1 (wrap64 ((l0.length : Int) - 1))) = some r := h; clear h; have H' := Aside0.mk H; clear H
  go_enter Try.func84, Try.ntmps84
  go_wp2
  go_loopg [5] k (fun kq v5 w' => ∃ (x5_1 : Int), v5 = .int .i64 x5_1 ∧ Aside0 (spec_l3Last.l0 kq l0 a1 x5_1 = some r) ∧ Aside0 (kq ≤ k) ∧ Drawn0 w w')
  case atStart => exact ⟨(wrap64 ((l0.length : Int) - 1)), zb15, H', ⟨Nat.le_refl _⟩, zb25⟩
  case round =>
    clear H'
    try clear p2
    obtain ⟨x5_1, rfl, HA, HK1, ⟨m1, rfl⟩⟩ := hrel
    cases gk with
    | zero => exact absurd HA.out (by simp [spec_l3Last.l0])
    | succ k1 =>
      have H := HA.out; clear HA; simp only [spec_l3Last.l0] at H
      by_cases c3 : x5_1 ≥ 0
      · rw [if_pos c3] at H
        have c3b0 : decide (0 ≤ x5_1) = true := decide_eq_true c3; clear c3
        by_cases c4 : 0 ≤ x5_1
        · rw [if_pos c4] at H
          have c4b0 : decide (0 ≤ x5_1) = true := decide_eq_true c4; clear c4
          by_cases c5 : x5_1 < (l0.length : Int)
          · rw [if_pos c5] at H
            have c5b0 : decide (x5_1 < (l0.length : Int)) = true := decide_eq_true c5; clear c5
            by_cases c6 : ((rd_T41 l0 x5_1).f1) = a1
            · rw [if_pos c6] at H
              have c6b0 : (((rd_T41 l0 x5_1).f1) == a1) = true := beq_iff_eq.mpr c6; have c6b1 : (((rd_T41 l0 x5_1).f1) != a1) = false := bne_eq_false_iff_eq.mpr c6; clear c6
              by_cases c7 : ((rd_T41 l0 x5_1).f0) = 4
              · rw [if_pos c7] at H
                have c7b0 : (((rd_T41 l0 x5_1).f0) == 4) = true := beq_iff_eq.mpr c7; have c7b1 : (((rd_T41 l0 x5_1).f0) != 4) = false := bne_eq_false_iff_eq.mpr c7; clear c7; obtain rfl := Option.some.inj H; have p264 : 0 ≤ (x5_1 : Int) := of_decide_eq_true zb10; have q264 : x5_1 < (l0.length : Int) := of_decide_eq_true zb10; obtain ⟨ad264, e264, hx264_0, hx264_1, hx264_2, hx264_3, hx264_4, hx264_5, hx264_6, hx264_7⟩ := at_T41 HR0.out x5_1 p264 q264
                cases e264
                replace p264 := eq_true p264; replace q264 := eq_true q264; have p265 : 0 ≤ (x5_1 : Int) := of_decide_eq_true zb10; have q265 : x5_1 < (l0.length : Int) := of_decide_eq_true zb10; obtain ⟨ad265, e265, hx265_0, hx265_1, hx265_2, hx265_3, hx265_4, hx265_5, hx265_6, hx265_7⟩ := at_T41 HR0.out x5_1 p265 q265
                obtain rfl : ad264 = ad265 := (by injection e265)
                replace p265 := eq_true p265; replace q265 := eq_true q265
                go_wp2
                go_ret
                exact ⟨zb15, zb25⟩
              · rw [if_neg c7] at H
                have c7b0 : (((rd_T41 l0 x5_1).f0) == 4) = false := beq_eq_false_iff_ne.mpr c7; have c7b1 : (((rd_T41 l0 x5_1).f0) != 4) = true := bne_iff_ne.mpr c7
                by_cases c8 : ((rd_T41 l0 x5_1).f0) = 5
                · rw [if_pos c8] at H
                  have c8b0 : (((rd_T41 l0 x5_1).f0) == 5) = true := beq_iff_eq.mpr c8; have c8b1 : (((rd_T41 l0 x5_1).f0) != 5) = false := bne_eq_false_iff_eq.mpr c8; clear c8; obtain rfl := Option.some.inj H; have p264 : 0 ≤ (x5_1 : Int) := of_decide_eq_true zb10; have q264 : x5_1 < (l0.length : Int) := of_decide_eq_true zb10; obtain ⟨ad264, e264, hx264_0, hx264_1, hx264_2, hx264_3, hx264_4, hx264_5, hx264_6, hx264_7⟩ := at_T41 HR0.out x5_1 p264 q264
                  cases e264
                  replace p264 := eq_true p264; replace q264 := eq_true q264; have p265 : 0 ≤ (x5_1 : Int) := of_decide_eq_true zb10; have q265 : x5_1 < (l0.length : Int) := of_decide_eq_true zb10; obtain ⟨ad265, e265, hx265_0, hx265_1, hx265_2, hx265_3, hx265_4, hx265_5, hx265_6, hx265_7⟩ := at_T41 HR0.out x5_1 p265 q265
                  obtain rfl : ad264 = ad265 := (by injection e265)
                  replace p265 := eq_true p265; replace q265 := eq_true q265; have p266 : 0 ≤ (x5_1 : Int) := of_decide_eq_true zb10; have q266 : x5_1 < (l0.length : Int) := of_decide_eq_true zb10; obtain ⟨ad266, e266, hx266_0, hx266_1, hx266_2, hx266_3, hx266_4, hx266_5, hx266_6, hx266_7⟩ := at_T41 HR0.out x5_1 p266 q266
                  obtain rfl : ad264 = ad266 := (by injection e266)
                  replace p266 := eq_true p266; replace q266 := eq_true q266
                  go_wp2
                  go_ret
                  exact ⟨zb15, zb25⟩
                · rw [if_neg c8] at H
                  have c8b0 : (((rd_T41 l0 x5_1).f0) == 5) = false := beq_eq_false_iff_ne.mpr c8; have c8b1 : (((rd_T41 l0 x5_1).f0) != 5) = true := bne_iff_ne.mpr c8; obtain rfl := Option.some.inj H; have p264 : 0 ≤ (x5_1 : Int) := of_decide_eq_true zb10; have q264 : x5_1 < (l0.length : Int) := of_decide_eq_true zb10; obtain ⟨ad264, e264, hx264_0, hx264_1, hx264_2, hx264_3, hx264_4, hx264_5, hx264_6, hx264_7⟩ := at_T41 HR0.out x5_1 p264 q264
                  cases e264
                  replace p264 := eq_true p264; replace q264 := eq_true q264; have p265 : 0 ≤ (x5_1 : Int) := of_decide_eq_true zb10; have q265 : x5_1 < (l0.length : Int) := of_decide_eq_true zb10; obtain ⟨ad265, e265, hx265_0, hx265_1, hx265_2, hx265_3, hx265_4, hx265_5, hx265_6, hx265_7⟩ := at_T41 HR0.out x5_1 p265 q265
                  obtain rfl : ad264 = ad265 := (by injection e265)
                  replace p265 := eq_true p265; replace q265 := eq_true q265; have p266 : 0 ≤ (x5_1 : Int) := of_decide_eq_true zb10; have q266 : x5_1 < (l0.length : Int) := of_decide_eq_true zb10; obtain ⟨ad266, e266, hx266_0, hx266_1, hx266_2, hx266_3, hx266_4, hx266_5, hx266_6, hx266_7⟩ := at_T41 HR0.out x5_1 p266 q266
                  obtain rfl : ad264 = ad266 := (by injection e266)
                  replace p266 := eq_true p266; replace q266 := eq_true q266
                  go_wp2
                  go_ret
                  exact ⟨zb15, zb25⟩
            · rw [if_neg c6] at H
              have c6b0 : (((rd_T41 l0 x5_1).f1) == a1) = false := beq_eq_false_iff_ne.mpr c6; have c6b1 : (((rd_T41 l0 x5_1).f1) != a1) = true := bne_iff_ne.mpr c6; have H' := Aside0.mk H; clear H; have p264 : 0 ≤ (x5_1 : Int) := of_decide_eq_true zb10; have q264 : x5_1 < (l0.length : Int) := of_decide_eq_true zb10; obtain ⟨ad264, e264, hx264_0, hx264_1, hx264_2, hx264_3, hx264_4, hx264_5, hx264_6, hx264_7⟩ := at_T41 HR0.out x5_1 p264 q264
              cases e264
              replace p264 := eq_true p264; replace q264 := eq_true q264
              go_wp2
              go_roundg k1
              case measure => have := HK1.out; omega
              case rel => exact ⟨(wrap64 (x5_1 - 1)), zb15, H', ⟨zb61⟩, zb25⟩
          · rw [if_neg c5] at H
            exact absurd H (by simp)
        · rw [if_neg c4] at H
          exact absurd H (by simp)
      · rw [if_neg c3] at H
        have c3b0 : decide (0 ≤ x5_1) = false := decide_eq_false c3; clear c3; obtain rfl := Option.some.inj H
        go_wp2
        go_ret
        exact ⟨zb15, zb25⟩
end Go.Proofs.Ytcefiblpnegepaa.Pr
