import Derived.Test.YtphnphmbfogmlaaGreatQEByq
import Derived.Test.YtphnphmbfogmlaaGreatQEPrK
import Derived.Test.YtphnphmbfogmlaaGreatQESx
import Derived.Test.YtphnphmbfogmlaaGreatQEPrLogA
namespace Go.Proofs.YtphnphmbfogmlaaGreat.Pr
open Go.RowKit Go.PW Go.PL Go.PM
attribute [local go_sem] YO YP Zm Zn Yv Yw YQ YS
set_option linter.unusedVariables false
set_option linter.unusedSimpArgs false
mutual
def X5.l0 : Nat → List (S76) → Int → Int → Option (Bool)
 | 0, _, _, _ => none
 | k + 1, x0, x1, x5 => if x5 ≤ 3 then ((Y2.f k x0 x5).bind fun XpY => (X5.l1 k x0 x1 x5 XpY)) else (some false)
def X5.l1 : Nat → List (S76) → Int → Int → Int → Option (Bool)
 | 0, _, _, _, _ => none
 | k + 1, x0, x1, x5, x6 => if x6 > 0 then (if 0 ≤ (wrap64 (x6 - 1)) then (if (wrap64 (x6 - 1)) < (x0.length : Int) then (if ((Xa x0 (wrap64 (x6 - 1))).f0) = 3 then (if ((Xa x0 (wrap64 (x6 - 1))).f2) = x1 then (some true) else (X5.l1 k x0 x1 x5 ((Xa x0 (wrap64 (x6 - 1))).f6))) else (X5.l1 k x0 x1 x5 ((Xa x0 (wrap64 (x6 - 1))).f6))) else (none)) else (none)) else (X5.l0 k x0 x1 (wrap64 (x5 + 1)))
end
def X5.f (k : Nat) (l0 : List (S76)) (a1 : Int) : Option (Bool) := X5.l0 k l0 a1 1
set_option maxHeartbeats 8000000 in
set_option maxRecDepth 100000 in
theorem X5.calls (k : Nat) (A0 : Option Addr) (c0 : Nat) (l0 : List (S76)) (a1 : Int) (r : Bool) (w : World) (hr0 : Kd.C k76 w A0 l0.length l0) (hc0 : l0.length ≤ c0) (h : X5.f k l0 a1 = some r) :
 Calls Tryz.prog 47 #[.slice A0 l0.length c0, .int .i64 a1] w fun e w' => e = .returned (.bool r) ∧ Jc w w' := by
 have HR0 := az hr0; have HC0 := az hc0; clear hr0 hc0; have H : (X5.l0 k l0 a1 1) = some r := h; clear h; have H' := az H; clear H
 go_enter Tryz.func47, Tryz.ntmps47
 go_wp2
 go_loopg [5] k (fun kq v5 w' => ∃ (Xk : Int), v5 = .int .i64 Xk ∧ Aside0 (X5.l0 kq l0 a1 Xk = some r) ∧ Aside0 (kq ≤ k) ∧ Jc w w')
 case atStart => exact ⟨(1), zb6, H', ⟨Nat.le_refl _⟩, zb11⟩
 case round =>
  clear H';(try clear p2)
  obtain ⟨Xk, rfl, HA, HK1, ⟨m1, rfl⟩⟩ := hrel
  cases gk with
  | zero => exact absurd HA.out (by simp [X5.l0])
  | succ k1 =>
   have H := HA.out; clear HA; simp only [X5.l0] at H
   by_cases c3 : Xk ≤ 3
   ·rw [if_pos c3] at H
    have c3b0 : decide (Xk ≤ 3) = true := decide_eq_true c3; clear c3; replace H := Option.bind_eq_some_iff.mp H; obtain ⟨XpY, A40, H⟩ := H; replace H : (X5.l1 k1 l0 a1 Xk XpY) = some r := H; have A4 := az A40; clear A40; have H' := az H; clear H
    go_wp2_with (first | ((with_reducible refine Xi (f := 72) rfl ?_); refine XI (some 13) rfl rfl Tryz.func72 zb9 rfl #[.slice A0 l0.length c0, .int .i64 Xk] rfl zb2 ?_; (with_reducible refine (Y2.calls k1 _ _ l0 Xk XpY _ ?side1 ?side2 A4.out).mono ?_); (case side1 => exact zb16); (case side2 => exact HC0.out); rintro e w' ⟨rfl, ⟨nd, rfl⟩⟩; refine ⟨_, rfl, ?_⟩))
    go_loopg [6] k1 (fun kq v6 w' => ∃ (Wz : Int), v6 = .int .i64 Wz ∧ Aside0 (X5.l1 kq l0 a1 Xk Wz = some r) ∧ Aside0 (kq ≤ k1) ∧ Jc w w')
    case atStart => exact ⟨(XpY), zb6, H', ⟨Nat.le_refl _⟩, zb11⟩
    case round =>
     clear H';(try clear p2);(try clear c3);(try clear c3b0);(try clear c4);(try clear p2)
     obtain ⟨Wz, rfl, HA, HK2, ⟨m2, rfl⟩⟩ := hrel
     cases gk with
     | zero => exact absurd HA.out (by simp [X5.l1])
     | succ k2 =>
      have H := HA.out; clear HA; simp only [X5.l1] at H
      by_cases c5 : Wz > 0
      ·rw [if_pos c5] at H
       have c5b0 : decide (0 < Wz) = true := decide_eq_true c5; clear c5
       obtain ⟨ji6, hji6⟩ : ∃ j_ : Int, (wrap64 (Wz - 1)) = j_ := ⟨_, rfl⟩
       replace H : (if 0 ≤ (ji6) then (if (ji6) < (l0.length : Int) then (if ((Xa l0 (ji6)).f0) = 3 then (if ((Xa l0 (ji6)).f2) = a1 then (some true) else (X5.l1 k2 l0 a1 Xk ((Xa l0 (ji6)).f6))) else (X5.l1 k2 l0 a1 Xk ((Xa l0 (ji6)).f6))) else (none)) else (none)) = some r := by first | (rw [hji6] at H; exact H) | (simp only [hji6] at H ⊢; exact H)
       have hji6w : (IntKind.i64.wrap (Wz - 1)) = ji6 := (X9 _).trans hji6
       by_cases c7 : 0 ≤ (ji6)
       ·rw [if_pos c7] at H
        have c7b0 : decide (0 ≤ (ji6)) = true := decide_eq_true c7; clear c7
        by_cases c8 : (ji6) < (l0.length : Int)
        ·rw [if_pos c8] at H
         have c8b0 : decide ((ji6) < (l0.length : Int)) = true := decide_eq_true c8; clear c8
         by_cases c9 : ((Xa l0 (ji6)).f0) = 3
         ·rw [if_pos c9] at H
          have c9b0 : (((Xa l0 (ji6)).f0) == 3) = true := beq_iff_eq.mpr c9; have c9b1 : (((Xa l0 (ji6)).f0) != 3) = false := bne_eq_false_iff_eq.mpr c9; clear c9
          by_cases c10 : ((Xa l0 (ji6)).f2) = a1
          ·rw [if_pos c10] at H
           have Vu : (((Xa l0 (ji6)).f2) == a1) = true := beq_iff_eq.mpr c10; have Nn : (((Xa l0 (ji6)).f2) != a1) = false := bne_eq_false_iff_eq.mpr c10; clear c10; obtain rfl := Option.some.inj H; have Ip : 0 ≤ ((ji6) : Int) := of_decide_eq_true zb3; have Iq : (ji6) < (l0.length : Int) := of_decide_eq_true zb3; obtain ⟨XaP, XpZ, Xk6, Xk7, Xk8, Xk9, XkA, XkB, XkC, XkD⟩ := Yt HR0.out (ji6) Ip Iq
           cases XpZ
           replace Ip := eq_true Ip; replace Iq := eq_true Iq; have XhG : 0 ≤ ((ji6) : Int) := of_decide_eq_true zb3; have XhH : (ji6) < (l0.length : Int) := of_decide_eq_true zb3; obtain ⟨Xqa, XxE, Xtm, Xtn, Xto, Xtp, Xtq, Xtr, Xts, Xtt⟩ := Yt HR0.out (ji6) XhG XhH
           obtain rfl : XaP = Xqa := (by injection XxE)
           replace XhG := eq_true XhG; replace XhH := eq_true XhH
           go_wp2
           go_ret
           exact ⟨zb70, zb11⟩
          ·rw [if_neg c10] at H
           have Vu : (((Xa l0 (ji6)).f2) == a1) = false := beq_eq_false_iff_ne.mpr c10; have Nn : (((Xa l0 (ji6)).f2) != a1) = true := bne_iff_ne.mpr c10; have H' := az H; clear H; have Ip : 0 ≤ ((ji6) : Int) := of_decide_eq_true zb3; have Iq : (ji6) < (l0.length : Int) := of_decide_eq_true zb3; obtain ⟨XaP, XpZ, Xk6, Xk7, Xk8, Xk9, XkA, XkB, XkC, XkD⟩ := Yt HR0.out (ji6) Ip Iq
           cases XpZ
           replace Ip := eq_true Ip; replace Iq := eq_true Iq; have XhG : 0 ≤ ((ji6) : Int) := of_decide_eq_true zb3; have XhH : (ji6) < (l0.length : Int) := of_decide_eq_true zb3; obtain ⟨Xqa, XxE, Xtm, Xtn, Xto, Xtp, Xtq, Xtr, Xts, Xtt⟩ := Yt HR0.out (ji6) XhG XhH
           obtain rfl : XaP = Xqa := (by injection XxE)
           replace XhG := eq_true XhG; replace XhH := eq_true XhH; have XxF : 0 ≤ ((ji6) : Int) := of_decide_eq_true zb3; have XxG : (ji6) < (l0.length : Int) := of_decide_eq_true zb3; obtain ⟨X0t, e222, X1H, X1I, X1J, X1K, X1L, X1M, X1N, X1O⟩ := Yt HR0.out (ji6) XxF XxG
           obtain rfl : XaP = X0t := (by injection e222)
           replace XxF := eq_true XxF; replace XxG := eq_true XxG
           go_wp2
           go_roundg k2
           case measure => have := HK1.out; have := HK2.out; omega
           case rel => exact ⟨((Xa l0 (ji6)).f6), zb70, H', ⟨zb87⟩, zb11⟩
         ·rw [if_neg c9] at H
          have c9b0 : (((Xa l0 (ji6)).f0) == 3) = false := beq_eq_false_iff_ne.mpr c9; have c9b1 : (((Xa l0 (ji6)).f0) != 3) = true := bne_iff_ne.mpr c9; have H' := az H; clear H; have Ip : 0 ≤ ((ji6) : Int) := of_decide_eq_true zb3; have Iq : (ji6) < (l0.length : Int) := of_decide_eq_true zb3; obtain ⟨XaP, XpZ, Xk6, Xk7, Xk8, Xk9, XkA, XkB, XkC, XkD⟩ := Yt HR0.out (ji6) Ip Iq
          cases XpZ
          replace Ip := eq_true Ip; replace Iq := eq_true Iq; have XxH : 0 ≤ ((ji6) : Int) := of_decide_eq_true zb3; have XxI : (ji6) < (l0.length : Int) := of_decide_eq_true zb3; obtain ⟨X0u, e223, X1P, X1Q, X1R, X1S, X1T, X1U, X1V, X1W⟩ := Yt HR0.out (ji6) XxH XxI
          obtain rfl : XaP = X0u := (by injection e223)
          replace XxH := eq_true XxH; replace XxI := eq_true XxI
          go_wp2
          go_roundg k2
          case measure => have := HK1.out; have := HK2.out; omega
          case rel => exact ⟨((Xa l0 (ji6)).f6), zb70, H', ⟨zb87⟩, zb11⟩
        ·rw [if_neg c8] at H
         exact absurd H (by simp)
       ·rw [if_neg c7] at H
        exact absurd H (by simp)
      ·rw [if_neg c5] at H
       have c5b0 : decide (0 < Wz) = false := decide_eq_false c5; clear c5; have H' := az H; clear H
       go_wp2
       go_roundg k2
       case measure => have := HK1.out; have := HK2.out; omega
       case rel => exact ⟨(wrap64 (Xk + 1)), zb6, H', ⟨zb87⟩, zb11⟩
   ·rw [if_neg c3] at H
    have c3b0 : decide (Xk ≤ 3) = false := decide_eq_false c3; clear c3; obtain rfl := Option.some.inj H
    go_wp2
    go_ret
    exact ⟨zb6, zb11⟩
def Zd.l0 : Nat → List (S76) → Int → Int → Option (Int)
 | 0, _, _, _ => none
 | k + 1, x0, x1, x5 => if x5 ≥ 0 then (if 0 ≤ x5 then (if x5 < (x0.length : Int) then (if ((Xa x0 x5).f2) = x1 then ((Jg.f ((Xa x0 x5).f0)).bind fun Xtu => (if Xtu = true then (some (wrap64 (x5 + 1))) else (if ((Xa x0 x5).f0) = 3 then (some (wrap64 (x5 + 1))) else (Zd.l0 k x0 x1 (wrap64 (x5 - 1)))))) else (Zd.l0 k x0 x1 (wrap64 (x5 - 1)))) else (none)) else (none)) else (some 0)
def Zd.f (k : Nat) (l0 : List (S76)) (a1 : Int) : Option (Int) := Zd.l0 k l0 a1 (wrap64 ((l0.length : Int) - 1))
set_option maxHeartbeats 8000000 in
set_option maxRecDepth 100000 in
theorem Zd.calls (k : Nat) (A0 : Option Addr) (c0 : Nat) (l0 : List (S76)) (a1 : Int) (r : Int) (w : World) (hr0 : Kd.C k76 w A0 l0.length l0) (hc0 : l0.length ≤ c0) (h : Zd.f k l0 a1 = some r) :
 Calls Tryz.prog 76 #[.slice A0 l0.length c0, .int .i64 a1] w fun e w' => e = .returned (.int .i64 r) ∧ Jc w w' := by
 have HR0 := az hr0; have HC0 := az hc0; clear hr0 hc0; have H : (Zd.l0 k l0 a1 (wrap64 ((l0.length : Int) - 1))) = some r := h; clear h; have H' := az H; clear H
 go_enter Tryz.func76, Tryz.ntmps76
 go_wp2
 go_loopg [5] k (fun kq v5 w' => ∃ (Xk : Int), v5 = .int .i64 Xk ∧ Aside0 (Zd.l0 kq l0 a1 Xk = some r) ∧ Aside0 (kq ≤ k) ∧ Jc w w')
 case atStart => exact ⟨(wrap64 ((l0.length : Int) - 1)), zb6, H', ⟨Nat.le_refl _⟩, zb11⟩
 case round =>
  clear H';(try clear p2)
  obtain ⟨Xk, rfl, HA, HK1, ⟨m1, rfl⟩⟩ := hrel
  cases gk with
  | zero => exact absurd HA.out (by simp [Zd.l0])
  | succ k1 =>
   have H := HA.out; clear HA; simp only [Zd.l0] at H
   by_cases c3 : Xk ≥ 0
   ·rw [if_pos c3] at H
    have c3b0 : decide (0 ≤ Xk) = true := decide_eq_true c3; clear c3
    by_cases c4 : 0 ≤ Xk
    ·rw [if_pos c4] at H
     have c4b0 : decide (0 ≤ Xk) = true := decide_eq_true c4; clear c4
     by_cases c5 : Xk < (l0.length : Int)
     ·rw [if_pos c5] at H
      have c5b0 : decide (Xk < (l0.length : Int)) = true := decide_eq_true c5; clear c5
      by_cases c6 : ((Xa l0 Xk).f2) = a1
      ·rw [if_pos c6] at H
       have c6b0 : (((Xa l0 Xk).f2) == a1) = true := beq_iff_eq.mpr c6; have c6b1 : (((Xa l0 Xk).f2) != a1) = false := bne_eq_false_iff_eq.mpr c6; clear c6; replace H := Option.bind_eq_some_iff.mp H; obtain ⟨Xtu, A70, H⟩ := H; replace H : (if Xtu = true then (some (wrap64 (Xk + 1))) else (if ((Xa l0 Xk).f0) = 3 then (some (wrap64 (Xk + 1))) else (Zd.l0 k1 l0 a1 (wrap64 (Xk - 1))))) = some r := H; have A7 := az A70; clear A70
       by_cases c8 : Xtu = true
       ·subst c8
        have H1 : (some (wrap64 (Xk + 1))) = some r := by rw [if_pos rfl] at H; exact H
        clear H; have H := H1; clear H1; obtain rfl := Option.some.inj H; have LH : 0 ≤ (Xk : Int) := of_decide_eq_true zb3; have LJ : Xk < (l0.length : Int) := of_decide_eq_true zb3; obtain ⟨Ei, XhI, Xd2, Xd3, Xd4, Xd5, Xd6, Xd7, Xd8, Xd9⟩ := Yt HR0.out Xk LH LJ
        cases XhI
        replace LH := eq_true LH; replace LJ := eq_true LJ; have Ir : 0 ≤ (Xk : Int) := of_decide_eq_true zb3; have Iu : Xk < (l0.length : Int) := of_decide_eq_true zb3; obtain ⟨Xf5, Xqb, XkE, XkF, XkG, XkH, XkI, XkJ, XkK, XkL⟩ := Yt HR0.out Xk Ir Iu
        obtain rfl : Ei = Xf5 := (by injection Xqb)
        replace Ir := eq_true Ir; replace Iu := eq_true Iu
        go_wp2_with (first | (go_at_call 65; (with_reducible refine (Jg.calls ((Xa l0 Xk).f0) true _ A7.out).mono ?_); rintro e w' ⟨rfl, ⟨nd, rfl⟩⟩))
        go_ret
        exact ⟨zb6, zb11⟩
       ·replace c8 := Bool.eq_false_iff.mpr c8
        subst c8
        have H1 : (if ((Xa l0 Xk).f0) = 3 then (some (wrap64 (Xk + 1))) else (Zd.l0 k1 l0 a1 (wrap64 (Xk - 1)))) = some r := by rw [if_neg (show ¬ (false = true) by decide)] at H; exact H
        clear H; have H := H1; clear H1
        by_cases c9 : ((Xa l0 Xk).f0) = 3
        ·rw [if_pos c9] at H
         have c9b0 : (((Xa l0 Xk).f0) == 3) = true := beq_iff_eq.mpr c9; have c9b1 : (((Xa l0 Xk).f0) != 3) = false := bne_eq_false_iff_eq.mpr c9; clear c9; obtain rfl := Option.some.inj H; have LH : 0 ≤ (Xk : Int) := of_decide_eq_true zb3; have LJ : Xk < (l0.length : Int) := of_decide_eq_true zb3; obtain ⟨Ei, XhI, Xd2, Xd3, Xd4, Xd5, Xd6, Xd7, Xd8, Xd9⟩ := Yt HR0.out Xk LH LJ
         cases XhI
         replace LH := eq_true LH; replace LJ := eq_true LJ; have Ir : 0 ≤ (Xk : Int) := of_decide_eq_true zb3; have Iu : Xk < (l0.length : Int) := of_decide_eq_true zb3; obtain ⟨Xf5, Xqb, XkE, XkF, XkG, XkH, XkI, XkJ, XkK, XkL⟩ := Yt HR0.out Xk Ir Iu
         obtain rfl : Ei = Xf5 := (by injection Xqb)
         replace Ir := eq_true Ir; replace Iu := eq_true Iu
         go_wp2_with (first | (go_at_call 65; (with_reducible refine (Jg.calls ((Xa l0 Xk).f0) false _ A7.out).mono ?_); rintro e w' ⟨rfl, ⟨nd, rfl⟩⟩; have XhJ : 0 ≤ (Xk : Int) := of_decide_eq_true zb3; have XhK : Xk < (l0.length : Int) := of_decide_eq_true zb3; obtain ⟨Xqc, XxJ, Xtv, Xtw, Xtx, Xty, Xtz, Xt0, Xt1, Xt2⟩ := Yt HR0.out Xk XhJ XhK; obtain rfl : Ei = Xqc := (by injection XxJ); replace XhJ := eq_true XhJ; replace XhK := eq_true XhK))
         go_ret
         exact ⟨zb6, zb11⟩
        ·rw [if_neg c9] at H
         have c9b0 : (((Xa l0 Xk).f0) == 3) = false := beq_eq_false_iff_ne.mpr c9; have c9b1 : (((Xa l0 Xk).f0) != 3) = true := bne_iff_ne.mpr c9; have H' := az H; clear H; have LH : 0 ≤ (Xk : Int) := of_decide_eq_true zb3; have LJ : Xk < (l0.length : Int) := of_decide_eq_true zb3; obtain ⟨Ei, XhI, Xd2, Xd3, Xd4, Xd5, Xd6, Xd7, Xd8, Xd9⟩ := Yt HR0.out Xk LH LJ
         cases XhI
         replace LH := eq_true LH; replace LJ := eq_true LJ; have Ir : 0 ≤ (Xk : Int) := of_decide_eq_true zb3; have Iu : Xk < (l0.length : Int) := of_decide_eq_true zb3; obtain ⟨Xf5, Xqb, XkE, XkF, XkG, XkH, XkI, XkJ, XkK, XkL⟩ := Yt HR0.out Xk Ir Iu
         obtain rfl : Ei = Xf5 := (by injection Xqb)
         replace Ir := eq_true Ir; replace Iu := eq_true Iu
         go_wp2_with (first | (go_at_call 65; (with_reducible refine (Jg.calls ((Xa l0 Xk).f0) false _ A7.out).mono ?_); rintro e w' ⟨rfl, ⟨nd, rfl⟩⟩; have XhJ : 0 ≤ (Xk : Int) := of_decide_eq_true zb3; have XhK : Xk < (l0.length : Int) := of_decide_eq_true zb3; obtain ⟨Xqc, XxJ, Xtv, Xtw, Xtx, Xty, Xtz, Xt0, Xt1, Xt2⟩ := Yt HR0.out Xk XhJ XhK; obtain rfl : Ei = Xqc := (by injection XxJ); replace XhJ := eq_true XhJ; replace XhK := eq_true XhK))
         go_roundg k1
         case measure => have := HK1.out; omega
         case rel => exact ⟨(wrap64 (Xk - 1)), zb6, H', ⟨zb37⟩, zb11⟩
      ·rw [if_neg c6] at H
       have c6b0 : (((Xa l0 Xk).f2) == a1) = false := beq_eq_false_iff_ne.mpr c6; have c6b1 : (((Xa l0 Xk).f2) != a1) = true := bne_iff_ne.mpr c6; have H' := az H; clear H; have LH : 0 ≤ (Xk : Int) := of_decide_eq_true zb3; have LJ : Xk < (l0.length : Int) := of_decide_eq_true zb3; obtain ⟨Ei, XhI, Xd2, Xd3, Xd4, Xd5, Xd6, Xd7, Xd8, Xd9⟩ := Yt HR0.out Xk LH LJ
       cases XhI
       replace LH := eq_true LH; replace LJ := eq_true LJ
       go_wp2
       go_roundg k1
       case measure => have := HK1.out; omega
       case rel => exact ⟨(wrap64 (Xk - 1)), zb6, H', ⟨zb37⟩, zb11⟩
     ·rw [if_neg c5] at H
      exact absurd H (by simp)
    ·rw [if_neg c4] at H
     exact absurd H (by simp)
   ·rw [if_neg c3] at H
    have c3b0 : decide (0 ≤ Xk) = false := decide_eq_false c3; clear c3; obtain rfl := Option.some.inj H
    go_wp2
    go_ret
    exact ⟨zb6, zb11⟩
end Go.Proofs.YtphnphmbfogmlaaGreat.Pr
