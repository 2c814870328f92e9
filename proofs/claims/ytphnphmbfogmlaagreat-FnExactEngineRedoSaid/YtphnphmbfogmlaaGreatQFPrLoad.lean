import Derived.Test.YtphnphmbfogmlaaGreatQFByq
import Derived.Test.YtphnphmbfogmlaaGreatQFPrK
import Derived.Test.YtphnphmbfogmlaaGreatQFSx
import Derived.Test.YtphnphmbfogmlaaGreatQFPrLogA
namespace Go.Proofs.YtphnphmbfogmlaaGreat.Pr
open Go.RowKit Go.PW Go.PL Go.PM
attribute [local go_sem] Y3 Y4 YN YO Ya Yb Y5 Y6
set_option linter.unusedVariables false
set_option linter.unusedSimpArgs false
mutual
def Xv.l0 : Nat → List (S76) → Int → Int → Option (Bool)
 | 0, _, _, _ => none
 | k + 1, x0, x1, x5 => if x5 ≤ 3 then ((Yr.f k x0 x5).bind fun XlO => (Xv.l1 k x0 x1 x5 XlO)) else (some false)
def Xv.l1 : Nat → List (S76) → Int → Int → Int → Option (Bool)
 | 0, _, _, _, _ => none
 | k + 1, x0, x1, x5, x6 => if x6 > 0 then (if 0 ≤ (wrap64 (x6 - 1)) then (if (wrap64 (x6 - 1)) < (x0.length : Int) then (if ((Xa x0 (wrap64 (x6 - 1))).f0) = 3 then (if ((Xa x0 (wrap64 (x6 - 1))).f2) = x1 then (some true) else (Xv.l1 k x0 x1 x5 ((Xa x0 (wrap64 (x6 - 1))).f6))) else (Xv.l1 k x0 x1 x5 ((Xa x0 (wrap64 (x6 - 1))).f6))) else (none)) else (none)) else (Xv.l0 k x0 x1 (wrap64 (x5 + 1)))
end
def Xv.f (k : Nat) (l0 : List (S76)) (a1 : Int) : Option (Bool) := Xv.l0 k l0 a1 1
set_option maxHeartbeats 8000000 in
set_option maxRecDepth 100000 in
theorem Xv.calls (k : Nat) (A0 : Option Addr) (c0 : Nat) (l0 : List (S76)) (a1 : Int) (r : Bool) (w : World) (hr0 : Kd.C k76 w A0 l0.length l0) (hc0 : l0.length ≤ c0) (h : Xv.f k l0 a1 = some r) :
 Calls Tryz.prog 47 #[.slice A0 l0.length c0, .int .i64 a1] w fun e w' => e = .returned (.bool r) ∧ ZE w w' := by
 have HR0 := az hr0; have HC0 := az hc0; clear hr0 hc0; have H : (Xv.l0 k l0 a1 1) = some r := h; clear h; have H' := az H; clear H
 go_enter Tryz.func47, Tryz.ntmps47
 go_wp2
 go_loopg [5] k (fun kq v5 w' => ∃ (Xh : Int), v5 = .int .i64 Xh ∧ Aside0 (Xv.l0 kq l0 a1 Xh = some r) ∧ Aside0 (kq ≤ k) ∧ ZE w w')
 case atStart => exact ⟨(1), zb5, H', ⟨Nat.le_refl _⟩, zb9⟩
 case round =>
  clear H';(try clear p2)
  obtain ⟨Xh, rfl, HA, HK1, ⟨m1, rfl⟩⟩ := hrel
  cases gk with
  | zero => exact absurd HA.out (by simp [Xv.l0])
  | succ k1 =>
   have H := HA.out; clear HA; simp only [Xv.l0] at H
   by_cases c3 : Xh ≤ 3
   ·rw [if_pos c3] at H
    have c3b0 : decide (Xh ≤ 3) = true := decide_eq_true c3; clear c3; replace H := Option.bind_eq_some_iff.mp H; obtain ⟨XlO, A40, H⟩ := H; replace H : (Xv.l1 k1 l0 a1 Xh XlO) = some r := H; have A4 := az A40; clear A40; have H' := az H; clear H
    go_wp2_with (first | ((with_reducible refine Xo (f := 72) rfl ?_); refine Yx (some 13) rfl rfl Tryz.func72 zb6 rfl #[.slice A0 l0.length c0, .int .i64 Xh] rfl zb2 ?_; (with_reducible refine (Yr.calls k1 _ _ l0 Xh XlO _ ?side1 ?side2 A4.out).mono ?_); (case side1 => exact zb16); (case side2 => exact HC0.out); rintro e w' ⟨rfl, ⟨nd, rfl⟩⟩; refine ⟨_, rfl, ?_⟩))
    go_loopg [6] k1 (fun kq v6 w' => ∃ (XbS : Int), v6 = .int .i64 XbS ∧ Aside0 (Xv.l1 kq l0 a1 Xh XbS = some r) ∧ Aside0 (kq ≤ k1) ∧ ZE w w')
    case atStart => exact ⟨(XlO), zb5, H', ⟨Nat.le_refl _⟩, zb9⟩
    case round =>
     clear H';(try clear p2);(try clear c3);(try clear c3b0);(try clear c4);(try clear p2)
     obtain ⟨XbS, rfl, HA, HK2, ⟨m2, rfl⟩⟩ := hrel
     cases gk with
     | zero => exact absurd HA.out (by simp [Xv.l1])
     | succ k2 =>
      have H := HA.out; clear HA; simp only [Xv.l1] at H
      by_cases c5 : XbS > 0
      ·rw [if_pos c5] at H
       have c5b0 : decide (0 < XbS) = true := decide_eq_true c5; clear c5
       obtain ⟨ji6, hji6⟩ : ∃ j_ : Int, (wrap64 (XbS - 1)) = j_ := ⟨_, rfl⟩
       replace H : (if 0 ≤ (ji6) then (if (ji6) < (l0.length : Int) then (if ((Xa l0 (ji6)).f0) = 3 then (if ((Xa l0 (ji6)).f2) = a1 then (some true) else (Xv.l1 k2 l0 a1 Xh ((Xa l0 (ji6)).f6))) else (Xv.l1 k2 l0 a1 Xh ((Xa l0 (ji6)).f6))) else (none)) else (none)) = some r := by first | (rw [hji6] at H; exact H) | (simp only [hji6] at H ⊢; exact H)
       have hji6w : (IntKind.i64.wrap (XbS - 1)) = ji6 := (Xz _).trans hji6
       by_cases c7 : 0 ≤ (ji6)
       ·rw [if_pos c7] at H
        have c7b0 : decide (0 ≤ (ji6)) = true := decide_eq_true c7; clear c7
        by_cases c8 : (ji6) < (l0.length : Int)
        ·rw [if_pos c8] at H
         have c8b0 : decide ((ji6) < (l0.length : Int)) = true := decide_eq_true c8; clear c8
         by_cases c9 : ((Xa l0 (ji6)).f0) = 3
         ·rw [if_pos c9] at H
          have c9b0 : (((Xa l0 (ji6)).f0) == 3) = true := beq_iff_eq.mpr c9; have c9b1 : (((Xa l0 (ji6)).f0) != 3) = false := bne_eq_false_iff_eq.mpr c9; clear c9
          by_cases c10 : ((Xa l0 (ji6)).f2) = a1
          ·rw [if_pos c10] at H
           have Vh : (((Xa l0 (ji6)).f2) == a1) = true := beq_iff_eq.mpr c10; have U8 : (((Xa l0 (ji6)).f2) != a1) = false := bne_eq_false_iff_eq.mpr c10; clear c10; obtain rfl := Option.some.inj H; have C8 : 0 ≤ ((ji6) : Int) := of_decide_eq_true zb3; have C9 : (ji6) < (l0.length : Int) := of_decide_eq_true zb3; obtain ⟨OH, XlP, Xg9, XgA, XgB, XgC, XgD, XgE, XgF, XgG⟩ := Ym HR0.out (ji6) C8 C9
           cases XlP
           replace C8 := eq_true C8; replace C9 := eq_true C9; have Xeq : 0 ≤ ((ji6) : Int) := of_decide_eq_true zb3; have Xer : (ji6) < (l0.length : Int) := of_decide_eq_true zb3; obtain ⟨XlQ, XsR, XnV, XnW, XnX, XnY, XnZ, Xoa, Xob, Xoc⟩ := Ym HR0.out (ji6) Xeq Xer
           obtain rfl : OH = XlQ := (by injection XsR)
           replace Xeq := eq_true Xeq; replace Xer := eq_true Xer
           go_wp2
           go_ret
           exact ⟨zb54, zb9⟩
          ·rw [if_neg c10] at H
           have Vh : (((Xa l0 (ji6)).f2) == a1) = false := beq_eq_false_iff_ne.mpr c10; have U8 : (((Xa l0 (ji6)).f2) != a1) = true := bne_iff_ne.mpr c10; have H' := az H; clear H; have C8 : 0 ≤ ((ji6) : Int) := of_decide_eq_true zb3; have C9 : (ji6) < (l0.length : Int) := of_decide_eq_true zb3; obtain ⟨OH, XlP, Xg9, XgA, XgB, XgC, XgD, XgE, XgF, XgG⟩ := Ym HR0.out (ji6) C8 C9
           cases XlP
           replace C8 := eq_true C8; replace C9 := eq_true C9; have Xeq : 0 ≤ ((ji6) : Int) := of_decide_eq_true zb3; have Xer : (ji6) < (l0.length : Int) := of_decide_eq_true zb3; obtain ⟨XlQ, XsR, XnV, XnW, XnX, XnY, XnZ, Xoa, Xob, Xoc⟩ := Ym HR0.out (ji6) Xeq Xer
           obtain rfl : OH = XlQ := (by injection XsR)
           replace Xeq := eq_true Xeq; replace Xer := eq_true Xer; have XsS : 0 ≤ ((ji6) : Int) := of_decide_eq_true zb3; have XsT : (ji6) < (l0.length : Int) := of_decide_eq_true zb3; obtain ⟨Xvq, e222, Xwv, Xww, Xwx, Xwy, Xwz, Xw0, Xw1, Xw2⟩ := Ym HR0.out (ji6) XsS XsT
           obtain rfl : OH = Xvq := (by injection e222)
           replace XsS := eq_true XsS; replace XsT := eq_true XsT
           go_wp2
           go_roundg k2
           case measure => have := HK1.out; have := HK2.out; omega
           case rel => exact ⟨((Xa l0 (ji6)).f6), zb54, H', ⟨zb65⟩, zb9⟩
         ·rw [if_neg c9] at H
          have c9b0 : (((Xa l0 (ji6)).f0) == 3) = false := beq_eq_false_iff_ne.mpr c9; have c9b1 : (((Xa l0 (ji6)).f0) != 3) = true := bne_iff_ne.mpr c9; have H' := az H; clear H; have C8 : 0 ≤ ((ji6) : Int) := of_decide_eq_true zb3; have C9 : (ji6) < (l0.length : Int) := of_decide_eq_true zb3; obtain ⟨OH, XlP, Xg9, XgA, XgB, XgC, XgD, XgE, XgF, XgG⟩ := Ym HR0.out (ji6) C8 C9
          cases XlP
          replace C8 := eq_true C8; replace C9 := eq_true C9; have XsU : 0 ≤ ((ji6) : Int) := of_decide_eq_true zb3; have XsV : (ji6) < (l0.length : Int) := of_decide_eq_true zb3; obtain ⟨Xvr, e223, Xw3, Xw4, Xw5, Xw6, Xw7, Xw8, Xw9, XwA⟩ := Ym HR0.out (ji6) XsU XsV
          obtain rfl : OH = Xvr := (by injection e223)
          replace XsU := eq_true XsU; replace XsV := eq_true XsV
          go_wp2
          go_roundg k2
          case measure => have := HK1.out; have := HK2.out; omega
          case rel => exact ⟨((Xa l0 (ji6)).f6), zb54, H', ⟨zb65⟩, zb9⟩
        ·rw [if_neg c8] at H
         exact absurd H (by simp)
       ·rw [if_neg c7] at H
        exact absurd H (by simp)
      ·rw [if_neg c5] at H
       have c5b0 : decide (0 < XbS) = false := decide_eq_false c5; clear c5; have H' := az H; clear H
       go_wp2
       go_roundg k2
       case measure => have := HK1.out; have := HK2.out; omega
       case rel => exact ⟨(wrap64 (Xh + 1)), zb5, H', ⟨zb65⟩, zb9⟩
   ·rw [if_neg c3] at H
    have c3b0 : decide (Xh ≤ 3) = false := decide_eq_false c3; clear c3; obtain rfl := Option.some.inj H
    go_wp2
    go_ret
    exact ⟨zb5, zb9⟩
def YK.l0 : Nat → List (S76) → Int → Int → Option (Int)
 | 0, _, _, _ => none
 | k + 1, x0, x1, x5 => if x5 ≥ 0 then (if 0 ≤ x5 then (if x5 < (x0.length : Int) then (if ((Xa x0 x5).f2) = x1 then ((ZP.f ((Xa x0 x5).f0)).bind fun Xod => (if Xod = true then (some (wrap64 (x5 + 1))) else (if ((Xa x0 x5).f0) = 3 then (some (wrap64 (x5 + 1))) else (YK.l0 k x0 x1 (wrap64 (x5 - 1)))))) else (YK.l0 k x0 x1 (wrap64 (x5 - 1)))) else (none)) else (none)) else (some 0)
def YK.f (k : Nat) (l0 : List (S76)) (a1 : Int) : Option (Int) := YK.l0 k l0 a1 (wrap64 ((l0.length : Int) - 1))
set_option maxHeartbeats 8000000 in
set_option maxRecDepth 100000 in
theorem YK.calls (k : Nat) (A0 : Option Addr) (c0 : Nat) (l0 : List (S76)) (a1 : Int) (r : Int) (w : World) (hr0 : Kd.C k76 w A0 l0.length l0) (hc0 : l0.length ≤ c0) (h : YK.f k l0 a1 = some r) :
 Calls Tryz.prog 76 #[.slice A0 l0.length c0, .int .i64 a1] w fun e w' => e = .returned (.int .i64 r) ∧ ZE w w' := by
 have HR0 := az hr0; have HC0 := az hc0; clear hr0 hc0; have H : (YK.l0 k l0 a1 (wrap64 ((l0.length : Int) - 1))) = some r := h; clear h; have H' := az H; clear H
 go_enter Tryz.func76, Tryz.ntmps76
 go_wp2
 go_loopg [5] k (fun kq v5 w' => ∃ (Xh : Int), v5 = .int .i64 Xh ∧ Aside0 (YK.l0 kq l0 a1 Xh = some r) ∧ Aside0 (kq ≤ k) ∧ ZE w w')
 case atStart => exact ⟨(wrap64 ((l0.length : Int) - 1)), zb5, H', ⟨Nat.le_refl _⟩, zb9⟩
 case round =>
  clear H';(try clear p2)
  obtain ⟨Xh, rfl, HA, HK1, ⟨m1, rfl⟩⟩ := hrel
  cases gk with
  | zero => exact absurd HA.out (by simp [YK.l0])
  | succ k1 =>
   have H := HA.out; clear HA; simp only [YK.l0] at H
   by_cases c3 : Xh ≥ 0
   ·rw [if_pos c3] at H
    have c3b0 : decide (0 ≤ Xh) = true := decide_eq_true c3; clear c3
    by_cases c4 : 0 ≤ Xh
    ·rw [if_pos c4] at H
     have c4b0 : decide (0 ≤ Xh) = true := decide_eq_true c4; clear c4
     by_cases c5 : Xh < (l0.length : Int)
     ·rw [if_pos c5] at H
      have c5b0 : decide (Xh < (l0.length : Int)) = true := decide_eq_true c5; clear c5
      by_cases c6 : ((Xa l0 Xh).f2) = a1
      ·rw [if_pos c6] at H
       have c6b0 : (((Xa l0 Xh).f2) == a1) = true := beq_iff_eq.mpr c6; have c6b1 : (((Xa l0 Xh).f2) != a1) = false := bne_eq_false_iff_eq.mpr c6; clear c6; replace H := Option.bind_eq_some_iff.mp H; obtain ⟨Xod, A70, H⟩ := H; replace H : (if Xod = true then (some (wrap64 (Xh + 1))) else (if ((Xa l0 Xh).f0) = 3 then (some (wrap64 (Xh + 1))) else (YK.l0 k1 l0 a1 (wrap64 (Xh - 1))))) = some r := H; have A7 := az A70; clear A70
       by_cases c8 : Xod = true
       ·subst c8
        have H1 : (some (wrap64 (Xh + 1))) = some r := by rw [if_pos rfl] at H; exact H
        clear H; have H := H1; clear H1; obtain rfl := Option.some.inj H; have Wt : 0 ≤ (Xh : Int) := of_decide_eq_true zb3; have Wu : Xh < (l0.length : Int) := of_decide_eq_true zb3; obtain ⟨LZ, Xes, Xas, Xat, Xau, Xav, Xaw, Xax, Xay, Xaz⟩ := Ym HR0.out Xh Wt Wu
        cases Xes
        replace Wt := eq_true Wt; replace Wu := eq_true Wu; have CB : 0 ≤ (Xh : Int) := of_decide_eq_true zb3; have CF : Xh < (l0.length : Int) := of_decide_eq_true zb3; obtain ⟨XbT, XlR, XgH, XgI, XgJ, XgK, XgL, XgM, XgN, XgO⟩ := Ym HR0.out Xh CB CF
        obtain rfl : LZ = XbT := (by injection XlR)
        replace CB := eq_true CB; replace CF := eq_true CF
        go_wp2_with (first | (go_at_call 65; (with_reducible refine (ZP.calls ((Xa l0 Xh).f0) true _ A7.out).mono ?_); rintro e w' ⟨rfl, ⟨nd, rfl⟩⟩))
        go_ret
        exact ⟨zb5, zb9⟩
       ·replace c8 := Bool.eq_false_iff.mpr c8
        subst c8
        have H1 : (if ((Xa l0 Xh).f0) = 3 then (some (wrap64 (Xh + 1))) else (YK.l0 k1 l0 a1 (wrap64 (Xh - 1)))) = some r := by rw [if_neg (show ¬ (false = true) by decide)] at H; exact H
        clear H; have H := H1; clear H1
        by_cases c9 : ((Xa l0 Xh).f0) = 3
        ·rw [if_pos c9] at H
         have c9b0 : (((Xa l0 Xh).f0) == 3) = true := beq_iff_eq.mpr c9; have c9b1 : (((Xa l0 Xh).f0) != 3) = false := bne_eq_false_iff_eq.mpr c9; clear c9; obtain rfl := Option.some.inj H; have Wt : 0 ≤ (Xh : Int) := of_decide_eq_true zb3; have Wu : Xh < (l0.length : Int) := of_decide_eq_true zb3; obtain ⟨LZ, Xes, Xas, Xat, Xau, Xav, Xaw, Xax, Xay, Xaz⟩ := Ym HR0.out Xh Wt Wu
         cases Xes
         replace Wt := eq_true Wt; replace Wu := eq_true Wu; have CB : 0 ≤ (Xh : Int) := of_decide_eq_true zb3; have CF : Xh < (l0.length : Int) := of_decide_eq_true zb3; obtain ⟨XbT, XlR, XgH, XgI, XgJ, XgK, XgL, XgM, XgN, XgO⟩ := Ym HR0.out Xh CB CF
         obtain rfl : LZ = XbT := (by injection XlR)
         replace CB := eq_true CB; replace CF := eq_true CF
         go_wp2_with (first | (go_at_call 65; (with_reducible refine (ZP.calls ((Xa l0 Xh).f0) false _ A7.out).mono ?_); rintro e w' ⟨rfl, ⟨nd, rfl⟩⟩; have Xet : 0 ≤ (Xh : Int) := of_decide_eq_true zb3; have Xeu : Xh < (l0.length : Int) := of_decide_eq_true zb3; obtain ⟨XlS, XsW, Xoe, Xof, Xog, Xoh, Xoi, Xoj, Xok, Xol⟩ := Ym HR0.out Xh Xet Xeu; obtain rfl : LZ = XlS := (by injection XsW); replace Xet := eq_true Xet; replace Xeu := eq_true Xeu))
         go_ret
         exact ⟨zb5, zb9⟩
        ·rw [if_neg c9] at H
         have c9b0 : (((Xa l0 Xh).f0) == 3) = false := beq_eq_false_iff_ne.mpr c9; have c9b1 : (((Xa l0 Xh).f0) != 3) = true := bne_iff_ne.mpr c9; have H' := az H; clear H; have Wt : 0 ≤ (Xh : Int) := of_decide_eq_true zb3; have Wu : Xh < (l0.length : Int) := of_decide_eq_true zb3; obtain ⟨LZ, Xes, Xas, Xat, Xau, Xav, Xaw, Xax, Xay, Xaz⟩ := Ym HR0.out Xh Wt Wu
         cases Xes
         replace Wt := eq_true Wt; replace Wu := eq_true Wu; have CB : 0 ≤ (Xh : Int) := of_decide_eq_true zb3; have CF : Xh < (l0.length : Int) := of_decide_eq_true zb3; obtain ⟨XbT, XlR, XgH, XgI, XgJ, XgK, XgL, XgM, XgN, XgO⟩ := Ym HR0.out Xh CB CF
         obtain rfl : LZ = XbT := (by injection XlR)
         replace CB := eq_true CB; replace CF := eq_true CF
         go_wp2_with (first | (go_at_call 65; (with_reducible refine (ZP.calls ((Xa l0 Xh).f0) false _ A7.out).mono ?_); rintro e w' ⟨rfl, ⟨nd, rfl⟩⟩; have Xet : 0 ≤ (Xh : Int) := of_decide_eq_true zb3; have Xeu : Xh < (l0.length : Int) := of_decide_eq_true zb3; obtain ⟨XlS, XsW, Xoe, Xof, Xog, Xoh, Xoi, Xoj, Xok, Xol⟩ := Ym HR0.out Xh Xet Xeu; obtain rfl : LZ = XlS := (by injection XsW); replace Xet := eq_true Xet; replace Xeu := eq_true Xeu))
         go_roundg k1
         case measure => have := HK1.out; omega
         case rel => exact ⟨(wrap64 (Xh - 1)), zb5, H', ⟨zb33⟩, zb9⟩
      ·rw [if_neg c6] at H
       have c6b0 : (((Xa l0 Xh).f2) == a1) = false := beq_eq_false_iff_ne.mpr c6; have c6b1 : (((Xa l0 Xh).f2) != a1) = true := bne_iff_ne.mpr c6; have H' := az H; clear H; have Wt : 0 ≤ (Xh : Int) := of_decide_eq_true zb3; have Wu : Xh < (l0.length : Int) := of_decide_eq_true zb3; obtain ⟨LZ, Xes, Xas, Xat, Xau, Xav, Xaw, Xax, Xay, Xaz⟩ := Ym HR0.out Xh Wt Wu
       cases Xes
       replace Wt := eq_true Wt; replace Wu := eq_true Wu
       go_wp2
       go_roundg k1
       case measure => have := HK1.out; omega
       case rel => exact ⟨(wrap64 (Xh - 1)), zb5, H', ⟨zb33⟩, zb9⟩
     ·rw [if_neg c5] at H
      exact absurd H (by simp)
    ·rw [if_neg c4] at H
     exact absurd H (by simp)
   ·rw [if_neg c3] at H
    have c3b0 : decide (0 ≤ Xh) = false := decide_eq_false c3; clear c3; obtain rfl := Option.some.inj H
    go_wp2
    go_ret
    exact ⟨zb5, zb9⟩
end Go.Proofs.YtphnphmbfogmlaaGreat.Pr
