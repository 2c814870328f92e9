import Derived.Test.YtphnphmbfogmlaaGreatQFByq
import Derived.Test.YtphnphmbfogmlaaGreatQFPrK
import Derived.Test.YtphnphmbfogmlaaGreatQFPrInts
namespace Go.Proofs.YtphnphmbfogmlaaGreat.Pr
open Go.RowKit Go.PW Go.PL Go.PM
attribute [local go_sem] Y3 Y4 YN YO Ya Yb Y5 Y6
set_option linter.unusedVariables false
set_option linter.unusedSimpArgs false
def YS.l0 : Nat → List (S56) → Int → Int → Option (Int)
 | 0, _, _, _ => none
 | k + 1, x0, x1, x5 => if x5 < (x0.length : Int) then (if 0 ≤ x5 then (if ((Xb x0 x5).f0) = x1 then (if ((Xb x0 x5).f1) = (wrap64 (x1 + 1)) then ((YF.f k ((Xb x0 x5).f2) (wrap64 ((wrap64 (x1 + 1)) + 1))).bind fun Cu => (if Cu < 0 then (some (-1)) else (YS.l0 k x0 Cu (wrap64 (x5 + 1))))) else (some (-1))) else (some (-1))) else (none)) else (some x1)
def YS.f (k : Nat) (l0 : List (S56)) (a1 : Int) : Option (Int) := YS.l0 k l0 a1 0
set_option maxHeartbeats 8000000 in
set_option maxRecDepth 100000 in
theorem YS.calls (k : Nat) (A0 : Option Addr) (c0 : Nat) (l0 : List (S56)) (a1 : Int) (r : Int) (w : World) (hr0 : Kd.C k56 w A0 l0.length l0) (hc0 : l0.length ≤ c0) (h : YS.f k l0 a1 = some r) :
 Calls Tryz.prog 25 #[.slice A0 l0.length c0, .int .i64 a1] w fun e w' => e = .returned (.int .i64 r) ∧ ZE w w' := by
 have HR0 := zz hr0; have HC0 := zz hc0; clear hr0 hc0; have H : (YS.l0 k l0 a1 0) = some r := h; clear h; have H' := zz H; clear H
 go_enter Tryz.func25, Tryz.ntmps25
 go_wp2
 go_loopg [1, 5] k (fun kq v1 v5 w' => ∃ (ZB : Int) (Xh : Int), v1 = .int .i64 ZB ∧ v5 = .int .i64 Xh ∧ Aside0 (YS.l0 kq l0 ZB Xh = some r) ∧ Aside0 (kq ≤ k) ∧ ZE w w')
 case atStart => exact ⟨(a1), (0), zb5, zb5, H', ⟨Nat.le_refl _⟩, zb9⟩
 case round =>
  clear H'
  try clear c2
  try clear p2
  obtain ⟨ZB, Xh, rfl, rfl, HA, HK1, ⟨m1, rfl⟩⟩ := hrel
  cases gk with
  | zero => exact absurd HA.out (by simp [YS.l0])
  | succ k1 =>
   have H := HA.out; clear HA; simp only [YS.l0] at H
   by_cases c3 : Xh < (l0.length : Int)
   ·rw [if_pos c3] at H
    have c3b0 : decide (Xh < (l0.length : Int)) = true := decide_eq_true c3; clear c3
    by_cases c4 : 0 ≤ Xh
    ·rw [if_pos c4] at H
     have c4b0 : decide (0 ≤ Xh) = true := decide_eq_true c4; clear c4
     by_cases c5 : ((Xb l0 Xh).f0) = ZB
     ·rw [if_pos c5] at H
      have c5b0 : (((Xb l0 Xh).f0) == ZB) = true := beq_iff_eq.mpr c5; have c5b1 : (((Xb l0 Xh).f0) != ZB) = false := bne_eq_false_iff_eq.mpr c5; clear c5
      by_cases c6 : ((Xb l0 Xh).f1) = (wrap64 (ZB + 1))
      ·rw [if_pos c6] at H
       have c6b0 : (((Xb l0 Xh).f1) == (wrap64 (ZB + 1))) = true := beq_iff_eq.mpr c6; have c6b1 : (((Xb l0 Xh).f1) != (wrap64 (ZB + 1))) = false := bne_eq_false_iff_eq.mpr c6; clear c6; replace H := Option.bind_eq_some_iff.mp H; obtain ⟨Cu, A70, H⟩ := H; replace H : (if Cu < 0 then (some (-1)) else (YS.l0 k1 l0 Cu (wrap64 (Xh + 1)))) = some r := H; have A7 := zz A70; clear A70
       by_cases c8 : Cu < 0
       ·rw [if_pos c8] at H
        have c8b0 : decide (Cu < 0) = true := decide_eq_true c8; clear c8; obtain rfl := Option.some.inj H; have Wq : 0 ≤ (Xh : Int) := of_decide_eq_true zb3; have Ws : Xh < (l0.length : Int) := of_decide_eq_true zb3; obtain ⟨LV, Cv, Cw, Xeg, Xac, Xad, U7, hl605_2, hi605_2⟩ := Zl HR0.out Xh Wq Ws
        cases Xeg
        have Xae := zz hi605_2; have Xaf := zz hl605_2; clear hi605_2 hl605_2; replace Wq := eq_true Wq; replace Ws := eq_true Ws; have Cx : 0 ≤ (Xh : Int) := of_decide_eq_true zb3; have Cy : Xh < (l0.length : Int) := of_decide_eq_true zb3; obtain ⟨XbR, XlK, XlL, XlM, Xg5, Xg6, Pn, hl606_2, hi606_2⟩ := Zl HR0.out Xh Cx Cy
        obtain rfl : LV = XbR := (by injection XlM)
        have Xg7 := zz hi606_2; have Xg8 := zz hl606_2; clear hi606_2 hl606_2; replace Cx := eq_true Cx; replace Cy := eq_true Cy; have ea_ := Option.some.inj (U7.symm.trans Pn)
        injection ea_ with ea_ en_ ec_
        subst ea_; subst ec_; clear en_; have Xeh : 0 ≤ (Xh : Int) := of_decide_eq_true zb3; have Xei : Xh < (l0.length : Int) := of_decide_eq_true zb3; obtain ⟨XlN, XsE, XsF, XsG, XnQ, XnR, Xag, hl607_2, hi607_2⟩ := Zl HR0.out Xh Xeh Xei
        obtain rfl : LV = XlN := (by injection XsG)
        have Xga := zz hi607_2; have Xah := zz hl607_2; clear hi607_2 hl607_2; replace Xeh := eq_true Xeh; replace Xei := eq_true Xei; have ea_ := Option.some.inj (U7.symm.trans Xag)
        injection ea_ with ea_ en_ ec_
        subst ea_; subst ec_; clear en_
        go_wp2_with (first | ((with_reducible refine Xo (f := 20) rfl ?_); refine Yx (some 36) rfl rfl Tryz.func20 zb6 rfl #[.slice Cv ((Xb l0 Xh).f2).length Cw, .int .i64 (wrap64 ((wrap64 (ZB + 1)) + 1))] rfl zb2 ?_; (with_reducible refine (YF.calls k1 _ _ ((Xb l0 Xh).f2) (wrap64 ((wrap64 (ZB + 1)) + 1)) Cu _ ?side1 ?side2 A7.out).mono ?_); (case side1 => exact zb90); (case side2 => exact Xah.out); rintro e w' ⟨rfl, ⟨nd, rfl⟩⟩; refine ⟨_, rfl, ?_⟩))
        go_ret
        exact ⟨zb5, zb9⟩
       ·rw [if_neg c8] at H
        have c8b0 : decide (Cu < 0) = false := decide_eq_false c8; clear c8; have H' := zz H; clear H; have Wq : 0 ≤ (Xh : Int) := of_decide_eq_true zb3; have Ws : Xh < (l0.length : Int) := of_decide_eq_true zb3; obtain ⟨LV, Cv, Cw, Xeg, Xac, Xad, U7, hl605_2, hi605_2⟩ := Zl HR0.out Xh Wq Ws
        cases Xeg
        have Xae := zz hi605_2; have Xaf := zz hl605_2; clear hi605_2 hl605_2; replace Wq := eq_true Wq; replace Ws := eq_true Ws; have Cx : 0 ≤ (Xh : Int) := of_decide_eq_true zb3; have Cy : Xh < (l0.length : Int) := of_decide_eq_true zb3; obtain ⟨XbR, XlK, XlL, XlM, Xg5, Xg6, Pn, hl606_2, hi606_2⟩ := Zl HR0.out Xh Cx Cy
        obtain rfl : LV = XbR := (by injection XlM)
        have Xg7 := zz hi606_2; have Xg8 := zz hl606_2; clear hi606_2 hl606_2; replace Cx := eq_true Cx; replace Cy := eq_true Cy; have ea_ := Option.some.inj (U7.symm.trans Pn)
        injection ea_ with ea_ en_ ec_
        subst ea_; subst ec_; clear en_; have Xeh : 0 ≤ (Xh : Int) := of_decide_eq_true zb3; have Xei : Xh < (l0.length : Int) := of_decide_eq_true zb3; obtain ⟨XlN, XsE, XsF, XsG, XnQ, XnR, Xag, hl607_2, hi607_2⟩ := Zl HR0.out Xh Xeh Xei
        obtain rfl : LV = XlN := (by injection XsG)
        have Xga := zz hi607_2; have Xah := zz hl607_2; clear hi607_2 hl607_2; replace Xeh := eq_true Xeh; replace Xei := eq_true Xei; have ea_ := Option.some.inj (U7.symm.trans Xag)
        injection ea_ with ea_ en_ ec_
        subst ea_; subst ec_; clear en_
        go_wp2_with (first | ((with_reducible refine Xo (f := 20) rfl ?_); refine Yx (some 36) rfl rfl Tryz.func20 zb6 rfl #[.slice Cv ((Xb l0 Xh).f2).length Cw, .int .i64 (wrap64 ((wrap64 (ZB + 1)) + 1))] rfl zb2 ?_; (with_reducible refine (YF.calls k1 _ _ ((Xb l0 Xh).f2) (wrap64 ((wrap64 (ZB + 1)) + 1)) Cu _ ?side1 ?side2 A7.out).mono ?_); (case side1 => exact zb90); (case side2 => exact Xah.out); rintro e w' ⟨rfl, ⟨nd, rfl⟩⟩; refine ⟨_, rfl, ?_⟩))
        go_roundg k1
        case measure => have := HK1.out; omega
        case rel => exact ⟨(Cu), (wrap64 (Xh + 1)), zb5, zb5, H', ⟨zb33⟩, zb9⟩
      ·rw [if_neg c6] at H
       have c6b0 : (((Xb l0 Xh).f1) == (wrap64 (ZB + 1))) = false := beq_eq_false_iff_ne.mpr c6; have c6b1 : (((Xb l0 Xh).f1) != (wrap64 (ZB + 1))) = true := bne_iff_ne.mpr c6; obtain rfl := Option.some.inj H; have Wq : 0 ≤ (Xh : Int) := of_decide_eq_true zb3; have Ws : Xh < (l0.length : Int) := of_decide_eq_true zb3; obtain ⟨LV, Cv, Cw, Xeg, Xac, Xad, U7, hl605_2, hi605_2⟩ := Zl HR0.out Xh Wq Ws
       cases Xeg
       have Xae := zz hi605_2; have Xaf := zz hl605_2; clear hi605_2 hl605_2; replace Wq := eq_true Wq; replace Ws := eq_true Ws; have Cx : 0 ≤ (Xh : Int) := of_decide_eq_true zb3; have Cy : Xh < (l0.length : Int) := of_decide_eq_true zb3; obtain ⟨XbR, XlK, XlL, XlM, Xg5, Xg6, Pn, hl606_2, hi606_2⟩ := Zl HR0.out Xh Cx Cy
       obtain rfl : LV = XbR := (by injection XlM)
       have Xg7 := zz hi606_2; have Xg8 := zz hl606_2; clear hi606_2 hl606_2; replace Cx := eq_true Cx; replace Cy := eq_true Cy; have ea_ := Option.some.inj (U7.symm.trans Pn)
       injection ea_ with ea_ en_ ec_
       subst ea_; subst ec_; clear en_
       go_wp2
       go_ret
       exact ⟨zb5, zb9⟩
     ·rw [if_neg c5] at H
      have c5b0 : (((Xb l0 Xh).f0) == ZB) = false := beq_eq_false_iff_ne.mpr c5; have c5b1 : (((Xb l0 Xh).f0) != ZB) = true := bne_iff_ne.mpr c5; obtain rfl := Option.some.inj H; have Wq : 0 ≤ (Xh : Int) := of_decide_eq_true zb3; have Ws : Xh < (l0.length : Int) := of_decide_eq_true zb3; obtain ⟨LV, Cv, Cw, Xeg, Xac, Xad, U7, hl605_2, hi605_2⟩ := Zl HR0.out Xh Wq Ws
      cases Xeg
      have Xae := zz hi605_2; have Xaf := zz hl605_2; clear hi605_2 hl605_2; replace Wq := eq_true Wq; replace Ws := eq_true Ws
      go_wp2
      go_ret
      exact ⟨zb5, zb9⟩
    ·rw [if_neg c4] at H
     exact absurd H (by simp)
   ·rw [if_neg c3] at H
    have c3b0 : decide (Xh < (l0.length : Int)) = false := decide_eq_false c3; clear c3; obtain rfl := Option.some.inj H
    go_wp2
    go_ret
    exact ⟨zb5, zb9⟩
end Go.Proofs.YtphnphmbfogmlaaGreat.Pr
