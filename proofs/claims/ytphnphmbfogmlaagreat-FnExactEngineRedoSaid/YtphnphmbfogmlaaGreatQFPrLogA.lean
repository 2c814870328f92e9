import Derived.Test.YtphnphmbfogmlaaGreatQFByq
import Derived.Test.YtphnphmbfogmlaaGreatQFWMore
import Derived.Test.YtphnphmbfogmlaaGreatQFPrK
import Derived.Test.YtphnphmbfogmlaaGreatQFSx
import Derived.Test.YtphnphmbfogmlaaGreatQFPrM
import Derived.Test.YtphnphmbfogmlaaGreatQFPrWith
namespace Go.Proofs.YtphnphmbfogmlaaGreat.Pr
open Go.RowKit Go.PW Go.PL Go.PM
attribute [local go_sem] Y3 Y4 YN YO Ya Yb Y5 Y6
set_option linter.unusedVariables false
set_option linter.unusedSimpArgs false
abbrev Xdy : Array Bool := #[nn,nn,nn,nn,nn,nn,nn,nn,nn,nn]
abbrev Xdz : Array Bool := #[yy,nn,nn,nn,nn,nn,nn,nn,nn,nn]
abbrev Xd0 : Array Bool := #[yy,yy,nn,nn,nn,nn,nn,nn,nn,nn]
abbrev Xd1 : Array Bool := #[yy,yy,yy,nn,nn,nn,nn,nn,nn,nn]
abbrev Xd2 : Array Bool := #[yy,yy,yy,nn,yy,nn,nn,nn,nn,nn]
abbrev Xd3 : Array Bool := #[yy,yy,yy,nn,yy,yy,nn,nn,nn,nn]
abbrev Xd4 : Array Bool := #[yy,yy,yy,nn,yy,yy,yy,nn,nn,nn]
abbrev Xd5 : Array Bool := #[yy,yy,yy,yy,yy,yy,yy,nn,nn,nn]
abbrev Xd6 : Array Bool := #[yy,yy,yy,yy,yy,yy,yy,yy,nn,nn]
abbrev Xd7 : Array Bool := #[yy,yy,yy,yy,yy,yy,yy,yy,yy,nn]
abbrev Qz : Array Bool := #[yy,yy,yy,yy,yy,yy,yy,yy,yy,yy]
def JE.f (l0 : List (S78)) (a1 : Int) : Option (Int) := if (wrap64 (a1 - (l0.length : Int))) < 0 then (some (-1)) else (some (wrap64 (a1 - (l0.length : Int))))
set_option maxHeartbeats 8000000 in
set_option maxRecDepth 100000 in
theorem JE.calls (A0 : Option Addr) (c0 : Nat) (l0 : List (S78)) (a1 : Int) (r : Int) (w : World) (hr0 : Kd.C k78 w A0 l0.length l0) (hc0 : l0.length ≤ c0) (h : JE.f l0 a1 = some r) :
 Calls Tryz.prog 29 #[.slice A0 l0.length c0, .int .i64 a1] w fun e w' => e = .returned (.int .i64 r) ∧ ZE w w' := by
 have HR0 := az hr0; have HC0 := az hc0; clear hr0 hc0; have H : (if (wrap64 (a1 - (l0.length : Int))) < 0 then (some (-1)) else (some (wrap64 (a1 - (l0.length : Int))))) = some r := h; clear h
 by_cases c3 : (wrap64 (a1 - (l0.length : Int))) < 0
 ·rw [if_pos c3] at H
  have c3b0 : decide ((wrap64 (a1 - (l0.length : Int))) < 0) = true := decide_eq_true c3; clear c3; obtain rfl := Option.some.inj H
  go_enter Tryz.func29, Tryz.ntmps29
  go_wp2
  go_ret
  exact ⟨zb5, zb9⟩
 ·rw [if_neg c3] at H
  have c3b0 : decide ((wrap64 (a1 - (l0.length : Int))) < 0) = false := decide_eq_false c3; clear c3; obtain rfl := Option.some.inj H
  go_enter Tryz.func29, Tryz.ntmps29
  go_wp2
  go_ret
  exact ⟨zb5, zb9⟩
def Yr.l0 : Nat → List (S76) → Int → Int → Option (Int)
 | 0, _, _, _ => none
 | k + 1, x0, x1, x5 => if x5 ≥ 0 then (if 0 ≤ x5 then (if x5 < (x0.length : Int) then (if ((Xa x0 x5).f1) = x1 then (if ((Xa x0 x5).f0) = 4 then (some 0) else (if ((Xa x0 x5).f0) = 5 then (some 0) else (some (wrap64 (x5 + 1))))) else (Yr.l0 k x0 x1 (wrap64 (x5 - 1)))) else (none)) else (none)) else (some 0)
def Yr.f (k : Nat) (l0 : List (S76)) (a1 : Int) : Option (Int) := Yr.l0 k l0 a1 (wrap64 ((l0.length : Int) - 1))
set_option maxHeartbeats 8000000 in
set_option maxRecDepth 100000 in
theorem Yr.calls (k : Nat) (A0 : Option Addr) (c0 : Nat) (l0 : List (S76)) (a1 : Int) (r : Int) (w : World) (hr0 : Kd.C k76 w A0 l0.length l0) (hc0 : l0.length ≤ c0) (h : Yr.f k l0 a1 = some r) :
 Calls Tryz.prog 72 #[.slice A0 l0.length c0, .int .i64 a1] w fun e w' => e = .returned (.int .i64 r) ∧ ZE w w' := by
 have HR0 := az hr0; have HC0 := az hc0; clear hr0 hc0; have H : (Yr.l0 k l0 a1 (wrap64 ((l0.length : Int) - 1))) = some r := h; clear h; have H' := az H; clear H
 go_enter Tryz.func72, Tryz.ntmps72
 go_wp2
 go_loopg [5] k (fun kq v5 w' => ∃ (Xh : Int), v5 = .int .i64 Xh ∧ Aside0 (Yr.l0 kq l0 a1 Xh = some r) ∧ Aside0 (kq ≤ k) ∧ ZE w w')
 case atStart => exact ⟨(wrap64 ((l0.length : Int) - 1)), zb5, H', ⟨Nat.le_refl _⟩, zb9⟩
 case round =>
  clear H';(try clear p2)
  obtain ⟨Xh, rfl, HA, HK1, ⟨m1, rfl⟩⟩ := hrel
  cases gk with
  | zero => exact absurd HA.out (by simp [Yr.l0])
  | succ k1 =>
   have H := HA.out; clear HA; simp only [Yr.l0] at H
   by_cases c3 : Xh ≥ 0
   ·rw [if_pos c3] at H
    have c3b0 : decide (0 ≤ Xh) = true := decide_eq_true c3; clear c3
    by_cases c4 : 0 ≤ Xh
    ·rw [if_pos c4] at H
     have c4b0 : decide (0 ≤ Xh) = true := decide_eq_true c4; clear c4
     by_cases c5 : Xh < (l0.length : Int)
     ·rw [if_pos c5] at H
      have c5b0 : decide (Xh < (l0.length : Int)) = true := decide_eq_true c5; clear c5
      by_cases c6 : ((Xa l0 Xh).f1) = a1
      ·rw [if_pos c6] at H
       have c6b0 : (((Xa l0 Xh).f1) == a1) = true := beq_iff_eq.mpr c6; have c6b1 : (((Xa l0 Xh).f1) != a1) = false := bne_eq_false_iff_eq.mpr c6; clear c6
       by_cases c7 : ((Xa l0 Xh).f0) = 4
       ·rw [if_pos c7] at H
        have c7b0 : (((Xa l0 Xh).f0) == 4) = true := beq_iff_eq.mpr c7; have c7b1 : (((Xa l0 Xh).f0) != 4) = false := bne_eq_false_iff_eq.mpr c7; clear c7; obtain rfl := Option.some.inj H; have Wv : 0 ≤ (Xh : Int) := of_decide_eq_true zb3; have Ww : Xh < (l0.length : Int) := of_decide_eq_true zb3; obtain ⟨Ta, Xev, Xa0, Xa1, Xa2, Xa3, Xa4, Xa5, Xa6, Xa7⟩ := Ym HR0.out Xh Wv Ww
        cases Xev
        replace Wv := eq_true Wv; replace Ww := eq_true Ww; have CG : 0 ≤ (Xh : Int) := of_decide_eq_true zb3; have CJ : Xh < (l0.length : Int) := of_decide_eq_true zb3; obtain ⟨XbU, XlT, XgP, XgQ, XgR, XgS, XgT, XgU, XgV, XgW⟩ := Ym HR0.out Xh CG CJ
        obtain rfl : Ta = XbU := (by injection XlT)
        replace CG := eq_true CG; replace CJ := eq_true CJ
        go_wp2
        go_ret
        exact ⟨zb5, zb9⟩
       ·rw [if_neg c7] at H
        have c7b0 : (((Xa l0 Xh).f0) == 4) = false := beq_eq_false_iff_ne.mpr c7; have c7b1 : (((Xa l0 Xh).f0) != 4) = true := bne_iff_ne.mpr c7
        by_cases c8 : ((Xa l0 Xh).f0) = 5
        ·rw [if_pos c8] at H
         have c8b0 : (((Xa l0 Xh).f0) == 5) = true := beq_iff_eq.mpr c8; have c8b1 : (((Xa l0 Xh).f0) != 5) = false := bne_eq_false_iff_eq.mpr c8; clear c8; obtain rfl := Option.some.inj H; have Wv : 0 ≤ (Xh : Int) := of_decide_eq_true zb3; have Ww : Xh < (l0.length : Int) := of_decide_eq_true zb3; obtain ⟨Ta, Xev, Xa0, Xa1, Xa2, Xa3, Xa4, Xa5, Xa6, Xa7⟩ := Ym HR0.out Xh Wv Ww
         cases Xev
         replace Wv := eq_true Wv; replace Ww := eq_true Ww; have CG : 0 ≤ (Xh : Int) := of_decide_eq_true zb3; have CJ : Xh < (l0.length : Int) := of_decide_eq_true zb3; obtain ⟨XbU, XlT, XgP, XgQ, XgR, XgS, XgT, XgU, XgV, XgW⟩ := Ym HR0.out Xh CG CJ
         obtain rfl : Ta = XbU := (by injection XlT)
         replace CG := eq_true CG; replace CJ := eq_true CJ; have Xew : 0 ≤ (Xh : Int) := of_decide_eq_true zb3; have Xex : Xh < (l0.length : Int) := of_decide_eq_true zb3; obtain ⟨XlU, XsX, Xom, Xon, Xoo, Xop, Xoq, Xor, Xos, Xot⟩ := Ym HR0.out Xh Xew Xex
         obtain rfl : Ta = XlU := (by injection XsX)
         replace Xew := eq_true Xew; replace Xex := eq_true Xex
         go_wp2
         go_ret
         exact ⟨zb5, zb9⟩
        ·rw [if_neg c8] at H
         have c8b0 : (((Xa l0 Xh).f0) == 5) = false := beq_eq_false_iff_ne.mpr c8; have c8b1 : (((Xa l0 Xh).f0) != 5) = true := bne_iff_ne.mpr c8; obtain rfl := Option.some.inj H; have Wv : 0 ≤ (Xh : Int) := of_decide_eq_true zb3; have Ww : Xh < (l0.length : Int) := of_decide_eq_true zb3; obtain ⟨Ta, Xev, Xa0, Xa1, Xa2, Xa3, Xa4, Xa5, Xa6, Xa7⟩ := Ym HR0.out Xh Wv Ww
         cases Xev
         replace Wv := eq_true Wv; replace Ww := eq_true Ww; have CG : 0 ≤ (Xh : Int) := of_decide_eq_true zb3; have CJ : Xh < (l0.length : Int) := of_decide_eq_true zb3; obtain ⟨XbU, XlT, XgP, XgQ, XgR, XgS, XgT, XgU, XgV, XgW⟩ := Ym HR0.out Xh CG CJ
         obtain rfl : Ta = XbU := (by injection XlT)
         replace CG := eq_true CG; replace CJ := eq_true CJ; have Xew : 0 ≤ (Xh : Int) := of_decide_eq_true zb3; have Xex : Xh < (l0.length : Int) := of_decide_eq_true zb3; obtain ⟨XlU, XsX, Xom, Xon, Xoo, Xop, Xoq, Xor, Xos, Xot⟩ := Ym HR0.out Xh Xew Xex
         obtain rfl : Ta = XlU := (by injection XsX)
         replace Xew := eq_true Xew; replace Xex := eq_true Xex
         go_wp2
         go_ret
         exact ⟨zb5, zb9⟩
      ·rw [if_neg c6] at H
       have c6b0 : (((Xa l0 Xh).f1) == a1) = false := beq_eq_false_iff_ne.mpr c6; have c6b1 : (((Xa l0 Xh).f1) != a1) = true := bne_iff_ne.mpr c6; have H' := az H; clear H; have Wv : 0 ≤ (Xh : Int) := of_decide_eq_true zb3; have Ww : Xh < (l0.length : Int) := of_decide_eq_true zb3; obtain ⟨Ta, Xev, Xa0, Xa1, Xa2, Xa3, Xa4, Xa5, Xa6, Xa7⟩ := Ym HR0.out Xh Wv Ww
       cases Xev
       replace Wv := eq_true Wv; replace Ww := eq_true Ww
       go_wp2
       go_roundg k1
       case measure => have := HK1.out; omega
       case rel => exact ⟨(wrap64 (Xh - 1)), zb5, H', ⟨zb33⟩, zb9⟩
     ·rw [if_neg c5] at H
      exact absurd H (by simp)
    ·rw [if_neg c4] at H
     exact absurd H (by simp)
   ·rw [if_neg c3] at H
    have c3b0 : decide (0 ≤ Xh) = false := decide_eq_false c3; clear c3; obtain rfl := Option.some.inj H
    go_wp2
    go_ret
    exact ⟨zb5, zb9⟩
def U1.f (Xu : Int) (Xy : Int) (ZM : Int) (Yu : Int) (Yt : Int) (Jk : Int) (ZU : Int) (Js : Int) : Option (Int × Int × Int × Int × Int × Int × Int × Int) := some (Xu, Xy, ZM, Yu, Yt, Jk, ZU, Js)
set_option maxHeartbeats 8000000 in
set_option maxRecDepth 100000 in
theorem U1.calls (Xu : Int) (Xy : Int) (ZM : Int) (Yu : Int) (Yt : Int) (Jk : Int) (ZU : Int) (Js : Int) (r1 : Int) (r2 : Int) (r3 : Int) (r4 : Int) (r5 : Int) (r6 : Int) (r7 : Int) (r8 : Int) (w : World) (h : U1.f Xu Xy ZM Yu Yt Jk ZU Js = some (r1, r2, r3, r4, r5, r6, r7, r8)) :
 Calls Tryz.prog 58 #[.agg #[.int .i64 Xu, .int .i64 Xy, .int .i64 ZM, .int .i64 Yu, .int .i64 Yt, .int .i64 Jk, .int .i64 ZU, .int .i64 Js]] w fun e w' => e = .returned (.agg #[.int .i64 r1, .int .i64 r2, .int .i64 r3, .int .i64 r4, .int .i64 r5, .int .i64 r6, .int .i64 r7, .int .i64 r8]) ∧ Below w.heap.size w w' := by
 have hu78 := Tryz.underlying78; have hu76 := Tryz.underlying76; have HB := az (Below.refl w.heap.size w); have H : (some (Xu, Xy, ZM, Yu, Yt, Jk, ZU, Js)) = some (r1, r2, r3, r4, r5, r6, r7, r8) := h; clear h; simp only [Option.some.injEq, Prod.mk.injEq] at H; obtain ⟨rfl, rfl, rfl, rfl, rfl, rfl, rfl, rfl⟩ := H
 go_enter Tryz.func58, Tryz.ntmps58
 go_wp2_with (first | ((with_reducible refine Xp (N := 1) rfl ?_); refine Xn ?hg (N := 1) ?hd (cs := #[.int .i64 Xu, .int .i64 Xy, .int .i64 ZM, .int .i64 Yu, .int .i64 Yt, .int .i64 Jk, .int .i64 ZU, .int .i64 Js]) (t := 78) ?hr ?_; (case hd => rfl); (case hg => rfl); (case hr => exact zb7); intro Xvs hg w2 hbox hb; have Tc := az (hbox); have Xvt := az ((zb95 : w.heap.size ≤ Xvs)); have GE312 := Xvt; replace HB := az (Xc zb0 hb); clear hb hbox hg) | ((with_reducible refine Xp (N := 2) rfl ?_); refine Xn ?hg (N := 2) ?hd (cs := #[.int .i64 0, .int .i64 0, .int .i64 0, .int .i64 0, .int .i64 0, .int .i64 0, .int .i64 0, .int .i64 0]) (t := 76) ?hr ?_; (case hd => rfl); (case hg => rfl); (case hr => exact zb7); intro XrX hg w3 hbox hb; have CK := az (hbox); have Xvu := az ((zb97 : w.heap.size ≤ XrX)); have GE313 := Xvu; replace HB := az (Xc zb1 hb); obtain ⟨Xkj, Xkk⟩ := nb Tc hg (fun h => by (with_reducible repeat (first | apply bn | apply bd | apply ba)); exact h); replace Tc := bb Tc (fun h => by (with_reducible repeat (first | apply bn | apply bd | apply ba)); exact h) hb; clear hb hbox hg) | ((with_reducible refine Xp (N := 3) rfl ?_); refine Xn ?hg (N := 3) ?hd (cs := #[.int .i64 0, .int .i64 0, .int .i64 0, .int .i64 0, .int .i64 0, .int .i64 0, .int .i64 0, .int .i64 0]) (t := 76) ?hr ?_; (case hd => rfl); (case hg => rfl); (case hr => exact zb7); intro Xvv hg w4 hbox hb; have XrY := az (hbox); have Xvw := az ((zb97 : w.heap.size ≤ Xvv)); have GE314 := Xvw; replace HB := az (Xc zb1 hb); obtain ⟨Xkl, Xkm⟩ := nb Tc hg (fun h => by (with_reducible repeat (first | apply bn | apply bd | apply ba)); exact h); replace Tc := bb Tc (fun h => by (with_reducible repeat (first | apply bn | apply bd | apply ba)); exact h) hb; obtain ⟨OI, Xkn⟩ := nb CK hg (fun h => by (with_reducible repeat (first | apply bn | apply bd | apply ba)); exact h); replace CK := bb CK (fun h => by (with_reducible repeat (first | apply bn | apply bd | apply ba)); exact h) hb; clear hb hbox hg; have hnb5 := Xkj.out; have hnc5 := Xkk.out; have hnb6 := Xkl.out; have hnc6 := Xkm.out; obtain ⟨XdH, XdI, XdJ, XdK, XdL, XdM, XdN, XdO⟩ := cz8 Tc; obtain ⟨XdP, XdQ, XdR, XdS, XdT, XdU, XdV, XdW⟩ := fz8 Tc; have hnb8 := Xkn.out; have hnc8 := OI.out; obtain ⟨Ko, Kq, Kr, CO, CP, CR, CS, CU⟩ := cz8 XrY; obtain ⟨Kt, Ku, Kv, CV, CW, CX, CZ, Ba⟩ := fz8 XrY; obtain ⟨Xa8, Xa9, XaA, XwB, XwC, XwD, XwE, XwF⟩ := cz8 CK; obtain ⟨XaB, XaC, XaD, XwG, XwH, XwI, XwJ⟩ := fz7 CK; have XwK := Xe CK.out 7))
 refine bodyPost_ret (results_cell_row rfl _ _ XrX 76 #[.int .i64 Xu, .int .i64 Xy, .int .i64 ZM, .int .i64 Yu, .int .i64 Yt, .int .i64 Jk, .int .i64 ZU, .int .i64 Js] (0, 0) _ rfl (by (with_reducible repeat (first | apply bn | apply bd | apply ba)); refine XX (cs := #[.int .i64 Xu, .int .i64 Xy, .int .i64 ZM, .int .i64 Yu, .int .i64 Yt, .int .i64 Jk, .int .i64 ZU, .int .i64 0]) ?_ 7 _ rfl; (with_reducible repeat (first | apply bn | apply bd | apply ba)); refine XX (cs := #[.int .i64 Xu, .int .i64 Xy, .int .i64 ZM, .int .i64 Yu, .int .i64 Yt, .int .i64 Jk, .int .i64 0, .int .i64 0]) ?_ 6 _ rfl; (with_reducible repeat (first | apply bn | apply bd | apply ba)); refine XX (cs := #[.int .i64 Xu, .int .i64 Xy, .int .i64 ZM, .int .i64 Yu, .int .i64 Yt, .int .i64 0, .int .i64 0, .int .i64 0]) ?_ 5 _ rfl; (with_reducible repeat (first | apply bn | apply bd | apply ba)); refine XX (cs := #[.int .i64 Xu, .int .i64 Xy, .int .i64 ZM, .int .i64 Yu, .int .i64 0, .int .i64 0, .int .i64 0, .int .i64 0]) ?_ 4 _ rfl; (with_reducible repeat (first | apply bn | apply bd | apply ba)); refine XX (cs := #[.int .i64 Xu, .int .i64 Xy, .int .i64 ZM, .int .i64 0, .int .i64 0, .int .i64 0, .int .i64 0, .int .i64 0]) ?_ 3 _ rfl; (with_reducible repeat (first | apply bn | apply bd | apply ba)); refine XX (cs := #[.int .i64 Xu, .int .i64 Xy, .int .i64 0, .int .i64 0, .int .i64 0, .int .i64 0, .int .i64 0, .int .i64 0]) ?_ 2 _ rfl; (with_reducible repeat (first | apply bn | apply bd | apply ba)); refine XX (cs := #[.int .i64 Xu, .int .i64 0, .int .i64 0, .int .i64 0, .int .i64 0, .int .i64 0, .int .i64 0, .int .i64 0]) ?_ 1 _ rfl; (with_reducible repeat (first | apply bn | apply bd | apply ba)); refine XX (cs := #[.int .i64 0, .int .i64 0, .int .i64 0, .int .i64 0, .int .i64 0, .int .i64 0, .int .i64 0, .int .i64 0]) ?_ 0 _ rfl; (repeat (first | (with_reducible first | apply bn | apply bd | apply ba) | apply bf OI)); exact CK.out) Tryz.underlying76 rfl zb6) rfl ?_
 exact ⟨zb4, zb1⟩
def YW.l0 : Nat → List (S78) → List (S76) → Int → Option ((List (S76)))
 | 0, _, _, _ => none
 | k + 1, x0, x3, x4 => if x4 < (x0.length : Int) then (if 0 ≤ x4 then ((U1.f ((ZF x0 x4).f0) ((ZF x0 x4).f1) ((ZF x0 x4).f2) ((ZF x0 x4).f3) ((ZF x0 x4).f4) ((ZF x0 x4).f5) ((ZF x0 x4).f6) ((ZF x0 x4).f7)).bind fun Td => (if x4 < (x3.length : Int) then (YW.l0 k x0 (x3.set (x4 : Int).toNat (⟨Td.1, Td.2.1, Td.2.2.1, Td.2.2.2.1, Td.2.2.2.2.1, Td.2.2.2.2.2.1, Td.2.2.2.2.2.2.1, Td.2.2.2.2.2.2.2⟩ : S76)) (wrap64 (x4 + 1))) else (none))) else (none)) else (some x3)
def YW.f (k : Nat) (l0 : List (S78)) : Option ((List (S76))) := if 0 ≤ (l0.length : Int) then (if ((l0.length : Int) : Int).toNat ≤ 4398046511104 then (YW.l0 k l0 (List.replicate ((l0.length : Int) : Int).toNat z76) 0) else (none)) else (none)
set_option maxHeartbeats 8000000 in
set_option maxRecDepth 100000 in
theorem YW.calls (k : Nat) (A0 : Option Addr) (c0 : Nat) (l0 : List (S78)) (r : List (S76)) (w : World) (hr0 : Kd.C k78 w A0 l0.length l0) (hc0 : l0.length ≤ c0) (h : YW.f k l0 = some r) :
 Calls Tryz.prog 33 #[.slice A0 l0.length c0] w fun e w' => ∃ v0_ : Value, e = .returned (v0_) ∧ Kd.R k76 76 w' w.heap.size (fun _ => True) v0_ r ∧ Below w.heap.size w w' := by
 have hu78 := Tryz.underlying78; have hu76 := Tryz.underlying76; have HR0 := az hr0; have HC0 := az hc0; clear hr0 hc0; have HB := az (Below.refl w.heap.size w); have H : (if 0 ≤ (l0.length : Int) then (if ((l0.length : Int) : Int).toNat ≤ 4398046511104 then (YW.l0 k l0 (List.replicate ((l0.length : Int) : Int).toNat z76) 0) else (none)) else (none)) = some r := h; clear h
 by_cases c2 : 0 ≤ (l0.length : Int)
 ·rw [if_pos c2] at H
  have c2b0 := eq_true c2; have c2b1 : decide (0 ≤ (l0.length : Int)) = true := decide_eq_true c2; clear c2
  by_cases c3 : ((l0.length : Int) : Int).toNat ≤ 4398046511104
  ·rw [if_pos c3] at H
   have c3b0 := eq_true c3; have c3b1 : decide (((l0.length : Int) : Int).toNat ≤ 4398046511104) = true := decide_eq_true c3; clear c3
   obtain ⟨y315, hy315⟩ : ∃ y_ : List (S76), y_ = (List.replicate ((l0.length : Int) : Int).toNat z76) := ⟨_, rfl⟩
   replace H : (YW.l0 k l0 y315 0) = some r := by first | (rw [hy315]; with_reducible exact H) | (have H2_ := (Option.bind_some _ _).symm.trans H; rw [hy315]; with_reducible exact H2_) | (have H2_ := (Option.bind_some _ _).symm.trans H; with_reducible exact H2_) | with_reducible exact H | (rw [hy315]; exact H) | exact H
   have Ny315 := az hy315; clear hy315; have H' := az H; clear H
   go_enter Tryz.func33, Tryz.ntmps33
   go_wp2_with (first | ((with_reducible refine Xp (N := 7) rfl ?_); refine Kd.Xb9 k76 _ 76 rfl (N := 7) rfl 29 _ _ rfl (l0.length : Int) rfl rfl Tryz.underlying29 (.agg #[(.int .i64 0), (.int .i64 0), (.int .i64 0), (.int .i64 0), (.int .i64 0), (.int .i64 0), (.int .i64 0), (.int .i64 0)]) 64 Em rfl (by decide) (by omega) z76 (ok := fun _ => True) (okp := fun _ => True) (F9 _ _ _ z76 ) (fun _ hk => hk) trivial (of_decide_eq_true zb3) (Nat.le_trans (Nat.mul_le_mul_right _ (of_decide_eq_true zb3 : (l0.length : Int).toNat ≤ 4398046511104)) (by omega)) (Below.refl _ _) (Nat.le_refl _) ?_; intro v316 w4 ho5 hb hg_ hnew_; clear hg_ hnew_; (first | rw [← Ny315.out] at ho5 | (simp only [Int.reduceToNat] at ho5; rw [← Ny315.out] at ho5)); have Xvx := az (Kd.YY ho5 (XA zb0)); replace HB := az (Xc zb0 hb); clear hb ho5))
   go_loopg [4] k (fun kq v4 w' => ∃ (Xl : List (S76)) (X4 : Int), v4 = .int .i64 X4 ∧ Aside0 (YW.l0 kq l0 Xl X4 = some r) ∧ Aside0 (kq ≤ k) ∧ Aside0 (Kd.R k76 76 w' w.heap.size (fun _ => True) v316 Xl) ∧ Aside0 (Below w.heap.size w w'))
   case atStart => exact ⟨(y315), (0), zb5, H', ⟨Nat.le_refl _⟩, ⟨by (with_reducible repeat (first | apply Kd.Yp | apply Kd.Y0 | apply Kd.YC)); exact Xvx.out⟩, ⟨zb0⟩⟩
   case round =>
    clear H';(try clear c2);(try clear c2b0);(try clear c2b1);(try clear p2);(try clear c3);(try clear c3b0);(try clear c3b1)
    obtain ⟨Xl, X4, rfl, HA, HK1, HO_3, HB⟩ := hrel
    cases gk with
    | zero => exact absurd HA.out (by simp [YW.l0])
    | succ k1 =>
     have H := HA.out; clear HA; simp only [YW.l0] at H
     by_cases c6 : X4 < (l0.length : Int)
     ·rw [if_pos c6] at H
      have c6b0 : decide (X4 < (l0.length : Int)) = true := decide_eq_true c6; clear c6
      by_cases c7 : 0 ≤ X4
      ·rw [if_pos c7] at H
       have c7b0 : decide (0 ≤ X4) = true := decide_eq_true c7; clear c7; replace H := Option.bind_eq_some_iff.mp H; obtain ⟨⟨Xey, Xez, Xe0, Xe1, Xe2, Xe3, Xe4, Xe5⟩, A80, H⟩ := H; replace H : (if X4 < (Xl.length : Int) then (YW.l0 k1 l0 (Xl.set (X4 : Int).toNat (⟨Xey, Xez, Xe0, Xe1, Xe2, Xe3, Xe4, Xe5⟩ : S76)) (wrap64 (X4 + 1))) else (none)) = some r := H; have A8 := az A80; clear A80
       by_cases c9 : X4 < (Xl.length : Int)
       ·rw [if_pos c9] at H
        have c9b0 : decide (X4 < (Xl.length : Int)) = true := decide_eq_true c9; clear c9
        obtain ⟨XsY, hy327⟩ : ∃ y_ : List (S76), y_ = (Xl.set (X4 : Int).toNat (⟨Xey, Xez, Xe0, Xe1, Xe2, Xe3, Xe4, Xe5⟩ : S76)) := ⟨_, rfl⟩
        replace H : (YW.l0 k1 l0 XsY (wrap64 (X4 + 1))) = some r := by first | (rw [hy327]; with_reducible exact H) | (have H2_ := (Option.bind_some _ _).symm.trans H; rw [hy327]; with_reducible exact H2_) | (have H2_ := (Option.bind_some _ _).symm.trans H; with_reducible exact H2_) | with_reducible exact H | (rw [hy327]; exact H) | exact H
        have Ny327 := az hy327; clear hy327; have H' := az H; clear H; have XsZ : 0 ≤ (X4 : Int) := of_decide_eq_true zb3; have Xta : X4 < (l0.length : Int) := of_decide_eq_true zb3; obtain ⟨ad318, e318, XgX, XgY, XgZ, Xha, Xhb, Xhc, Xhd, Xhe⟩ := Xu0 HR0.out X4 XsZ Xta
        cases e318
        replace XgX := cb HB XgX; replace XgY := cb HB XgY; replace XgZ := cb HB XgZ; replace Xha := cb HB Xha; replace Xhb := cb HB Xhb; replace Xhc := cb HB Xhc; replace Xhd := cb HB Xhd; replace Xhe := cb HB Xhe; replace XsZ := eq_true XsZ; replace Xta := eq_true Xta
        go_wp2_with (first | ((with_reducible refine Xo (f := 58) rfl ?_); refine Yx (some 20) rfl rfl Tryz.func58 zb6 rfl #[.agg #[.int .i64 ((ZF l0 X4).f0), .int .i64 ((ZF l0 X4).f1), .int .i64 ((ZF l0 X4).f2), .int .i64 ((ZF l0 X4).f3), .int .i64 ((ZF l0 X4).f4), .int .i64 ((ZF l0 X4).f5), .int .i64 ((ZF l0 X4).f6), .int .i64 ((ZF l0 X4).f7)]] rfl zb2 ?_; (with_reducible refine (U1.calls ((ZF l0 X4).f0) ((ZF l0 X4).f1) ((ZF l0 X4).f2) ((ZF l0 X4).f3) ((ZF l0 X4).f4) ((ZF l0 X4).f5) ((ZF l0 X4).f6) ((ZF l0 X4).f7) Xey Xez Xe0 Xe1 Xe2 Xe3 Xe4 Xe5 _ A8.out).mono ?_); rintro e w11 ⟨rfl, hb⟩; refine ⟨_, rfl, ?_⟩; replace HO_3 := az (Kd.Xr zb22 hb); replace HB := az (Xc zb0 hb); (try clear hb); (try clear hb2); (try clear hk); (try clear hi); have p10 : 0 ≤ (X4 : Int) := of_decide_eq_true zb3; have q10 : (X4 : Int) < ((Xl.length : Int) : Int) := of_decide_eq_true zb3; obtain ⟨go10, Kw, eo10, XlV, gl10, cl10, HG10⟩ := Kd.NB HO_3.out (by omega); (first | cases eo10 | (injection eo10 with ea_ en_ ec_; (first | subst ea_ | (injection ea_ with ea_; subst ea_)); subst ec_; clear en_)); have GB10 := az XlV; have GG10 := az HG10; clear XlV gl10 HG10; obtain ⟨ce10, hcl10, hM10, hcc10, hfr10⟩ := Kd.DW HO_3.out z76 (X4 : Int) p10 q10; obtain rfl := Sr hM10; have Xtb : w11.cell? ⟨go10, (X4 : Int).toNat * 8, none⟩ = some (.int .i64 ((Xa Xl X4).f0)) := hcc10 0 _ rfl; have Xtc : w11.cell? ⟨go10, (X4 : Int).toNat * 8 + 1, none⟩ = some (.int .i64 ((Xa Xl X4).f1)) := hcc10 1 _ rfl; have Xtd : w11.cell? ⟨go10, (X4 : Int).toNat * 8 + 2, none⟩ = some (.int .i64 ((Xa Xl X4).f2)) := hcc10 2 _ rfl; have hx10_3 : w11.cell? ⟨go10, (X4 : Int).toNat * 8 + 3, none⟩ = some (.int .i64 ((Xa Xl X4).f3)) := hcc10 3 _ rfl; have hx10_4 : w11.cell? ⟨go10, (X4 : Int).toNat * 8 + 4, none⟩ = some (.int .i64 ((Xa Xl X4).f4)) := hcc10 4 _ rfl; have hx10_5 : w11.cell? ⟨go10, (X4 : Int).toNat * 8 + 5, none⟩ = some (.int .i64 ((Xa Xl X4).f5)) := hcc10 5 _ rfl; have hx10_6 : w11.cell? ⟨go10, (X4 : Int).toNat * 8 + 6, none⟩ = some (.int .i64 ((Xa Xl X4).f6)) := hcc10 6 _ rfl; have hx10_7 : w11.cell? ⟨go10, (X4 : Int).toNat * 8 + 7, none⟩ = some (.int .i64 ((Xa Xl X4).f7)) := hcc10 7 _ rfl; have hf10_0 : w11.frozen? ⟨go10, (X4 : Int).toNat * 8, none⟩ = false := hfr10 0; have hf10_1 : w11.frozen? ⟨go10, (X4 : Int).toNat * 8 + 1, none⟩ = false := hfr10 1; have hf10_2 : w11.frozen? ⟨go10, (X4 : Int).toNat * 8 + 2, none⟩ = false := hfr10 2; have hf10_3 : w11.frozen? ⟨go10, (X4 : Int).toNat * 8 + 3, none⟩ = false := hfr10 3; have hf10_4 : w11.frozen? ⟨go10, (X4 : Int).toNat * 8 + 4, none⟩ = false := hfr10 4; have hf10_5 : w11.frozen? ⟨go10, (X4 : Int).toNat * 8 + 5, none⟩ = false := hfr10 5; have hf10_6 : w11.frozen? ⟨go10, (X4 : Int).toNat * 8 + 6, none⟩ = false := hfr10 6; have hf10_7 : w11.frozen? ⟨go10, (X4 : Int).toNat * 8 + 7, none⟩ = false := hfr10 7; clear hcl10 hcc10 hfr10 hM10; replace p10 := eq_true p10; replace q10 := eq_true q10; have HX12 := az (show Kd.R k76 76 w11 w.heap.size (fun _ => True) (.slice (some ⟨go10, 0, none⟩) Xl.length Kw) Xl from zb22); obtain ⟨ce12, hcl12, hM12, hcc12, hfr12⟩ := Kd.DW HX12.out z76 (X4 : Int) (of_decide_eq_true zb3) (by have h_ : (X4 : Int) < ((Xl.length : Int) : Int) := of_decide_eq_true zb3; first | exact h_ | (have e_ := (Kd.X6 HO_3.out).1; omega) | simpa using h_); obtain rfl := Sr hM12; have HP12 := Kd.Qq HX12.out (X4 : Int) (of_decide_eq_true zb3) (by have h_ : (X4 : Int) < ((Xl.length : Int) : Int) := of_decide_eq_true zb3; first | exact h_ | (have e_ := (Kd.X6 HO_3.out).1; omega) | simpa using h_) (seg := [.int .i64 Xey, .int .i64 Xez, .int .i64 Xe0, .int .i64 Xe1, .int .i64 Xe2, .int .i64 Xe3, .int .i64 Xe4, .int .i64 Xe5]) (j := 0) hcl12 hcc12 (show 8 ≤ 8 from by decide) (x' := (⟨Xey, Xez, Xe0, Xe1, Xe2, Xe3, Xe4, Xe5⟩ : S76)) (F9 _ _ _ (⟨Xey, Xez, Xe0, Xe1, Xe2, Xe3, Xe4, Xe5⟩ : S76) ) (fun _ hk => hk); have Xe6 := hcc12 0 _ rfl; (try simp only [show (k76).sz = 8 from rfl, Nat.mul_one, Nat.add_zero] at Xe6); have hf12_0 := hfr12 0; (try simp only [show (k76).sz = 8 from rfl, Nat.mul_one, Nat.add_zero] at hf12_0); have Xe7 := hcc12 1 _ rfl; (try simp only [show (k76).sz = 8 from rfl, Nat.mul_one, Nat.add_zero] at Xe7); have hf12_1 := hfr12 1; (try simp only [show (k76).sz = 8 from rfl, Nat.mul_one, Nat.add_zero] at hf12_1); have Xe8 := hcc12 2 _ rfl; (try simp only [show (k76).sz = 8 from rfl, Nat.mul_one, Nat.add_zero] at Xe8); have hf12_2 := hfr12 2; (try simp only [show (k76).sz = 8 from rfl, Nat.mul_one, Nat.add_zero] at hf12_2); have Xte := hcc12 3 _ rfl; (try simp only [show (k76).sz = 8 from rfl, Nat.mul_one, Nat.add_zero] at Xte); have hf12_3 := hfr12 3; (try simp only [show (k76).sz = 8 from rfl, Nat.mul_one, Nat.add_zero] at hf12_3); have Xtf := hcc12 4 _ rfl; (try simp only [show (k76).sz = 8 from rfl, Nat.mul_one, Nat.add_zero] at Xtf); have hf12_4 := hfr12 4; (try simp only [show (k76).sz = 8 from rfl, Nat.mul_one, Nat.add_zero] at hf12_4); have Xtg := hcc12 5 _ rfl; (try simp only [show (k76).sz = 8 from rfl, Nat.mul_one, Nat.add_zero] at Xtg); have hf12_5 := hfr12 5; (try simp only [show (k76).sz = 8 from rfl, Nat.mul_one, Nat.add_zero] at hf12_5); have Xth := hcc12 6 _ rfl; (try simp only [show (k76).sz = 8 from rfl, Nat.mul_one, Nat.add_zero] at Xth); have hf12_6 := hfr12 6; (try simp only [show (k76).sz = 8 from rfl, Nat.mul_one, Nat.add_zero] at hf12_6); have Xti := hcc12 7 _ rfl; (try simp only [show (k76).sz = 8 from rfl, Nat.mul_one, Nat.add_zero] at Xti); have hf12_7 := hfr12 7; (try simp only [show (k76).sz = 8 from rfl, Nat.mul_one, Nat.add_zero] at hf12_7); clear hcl12 hcc12 hfr12 hM12) | ((with_reducible refine Fg (t := 76) (p := 21) rfl ?_); refine D5 (t := 76) (p := 21) (v := ?vo_w13) (w1 := ((((((((w11.setCell ⟨go10, (X4 : Int).toNat * 8, none⟩ (.int .i64 Xey)).setCell ⟨go10, (X4 : Int).toNat * 8 + 1, none⟩ (.int .i64 Xez)).setCell ⟨go10, (X4 : Int).toNat * 8 + 2, none⟩ (.int .i64 Xe0)).setCell ⟨go10, (X4 : Int).toNat * 8 + 3, none⟩ (.int .i64 Xe1)).setCell ⟨go10, (X4 : Int).toNat * 8 + 4, none⟩ (.int .i64 Xe2)).setCell ⟨go10, (X4 : Int).toNat * 8 + 5, none⟩ (.int .i64 Xe3)).setCell ⟨go10, (X4 : Int).toNat * 8 + 6, none⟩ (.int .i64 Xe4)).setCell ⟨go10, (X4 : Int).toNat * 8 + 7, none⟩ (.int .i64 Xe5))) ?hg ?ho ?hn ?hr ?_; (case ho => rfl); (case hg => rfl); (case hn => rfl); (case hr => exact zb7); intro w13 hw; have hg : w11.grownBy w13 (some go10) := (by rw [hw]; exact HP12.2); have hp_ : Kd.R k76 76 w13 w.heap.size (fun _ => True) (.slice (some ⟨go10, 0, none⟩) Xl.length Kw) XsY := (by rw [hw, Ny327.out]; exact HP12.1); clear HP12; replace HO_3 := az (hp_); replace HB := az ((by rw [hw]; exact Xq (Xq (Xq (Xq (Xq (Xq (Xq (Xq (HB.out) GB10.out) GB10.out) GB10.out) GB10.out) GB10.out) GB10.out) GB10.out) GB10.out : Below w.heap.size w w13)); clear hg hw hp_))
        go_roundg k1
        case measure => have := HK1.out; omega
        case rel => exact ⟨(XsY), (wrap64 (X4 + 1)), zb5, H', ⟨zb33⟩, ⟨zb22⟩, ⟨zb0⟩⟩
       ·rw [if_neg c9] at H
        exact absurd H (by simp)
      ·rw [if_neg c7] at H
       exact absurd H (by simp)
     ·rw [if_neg c6] at H
      have c6b0 : decide (X4 < (l0.length : Int)) = false := decide_eq_false c6; clear c6; obtain rfl := Option.some.inj H
      go_wp2
      go_ret
      exact ⟨_, zb4, zb22, zb0⟩
  ·rw [if_neg c3] at H
   exact absurd H (by simp)
 ·rw [if_neg c2] at H
  exact absurd H (by simp)
def Ff.f (Xu : Int) (Xy : Int) (ZM : Int) (Yu : Int) (Yt : Int) (Jk : Int) (ZU : Int) (Js : Int) (Zd : Int) (Zk : Int) (Vd : Int) (YU : Int) (ZI : Int) (ZA : Int) (Ve : Int) (Vf : Int) : Option (Bool) := if Xu = Zd then (if Xy = Zk then (if ZM = Vd then (if Yu = YU then (if Yt = ZI then (if Jk = ZA then (if ZU = Ve then (if Js = Vf then (some true) else (some false)) else (some false)) else (some false)) else (some false)) else (some false)) else (some false)) else (some false)) else (some false)
set_option maxHeartbeats 8000000 in
set_option maxRecDepth 100000 in
theorem Ff.calls (Xu : Int) (Xy : Int) (ZM : Int) (Yu : Int) (Yt : Int) (Jk : Int) (ZU : Int) (Js : Int) (Zd : Int) (Zk : Int) (Vd : Int) (YU : Int) (ZI : Int) (ZA : Int) (Ve : Int) (Vf : Int) (r : Bool) (w : World) (h : Ff.f Xu Xy ZM Yu Yt Jk ZU Js Zd Zk Vd YU ZI ZA Ve Vf = some r) :
 Calls Tryz.prog 63 #[.agg #[.int .i64 Xu, .int .i64 Xy, .int .i64 ZM, .int .i64 Yu, .int .i64 Yt, .int .i64 Jk, .int .i64 ZU, .int .i64 Js], .agg #[.int .i64 Zd, .int .i64 Zk, .int .i64 Vd, .int .i64 YU, .int .i64 ZI, .int .i64 ZA, .int .i64 Ve, .int .i64 Vf]] w fun e w' => e = .returned (.bool r) ∧ Below w.heap.size w w' := by
 have hu76 := Tryz.underlying76; have HB := az (Below.refl w.heap.size w); have H : (if Xu = Zd then (if Xy = Zk then (if ZM = Vd then (if Yu = YU then (if Yt = ZI then (if Jk = ZA then (if ZU = Ve then (if Js = Vf then (some true) else (some false)) else (some false)) else (some false)) else (some false)) else (some false)) else (some false)) else (some false)) else (some false)) = some r := h; clear h
 by_cases c3 : Xu = Zd
 ·rw [if_pos c3] at H
  have c3b0 : (Xu == Zd) = true := beq_iff_eq.mpr c3; have c3b1 : (Xu != Zd) = false := bne_eq_false_iff_eq.mpr c3; clear c3
  by_cases c4 : Xy = Zk
  ·rw [if_pos c4] at H
   have c4b0 : (Xy == Zk) = true := beq_iff_eq.mpr c4; have c4b1 : (Xy != Zk) = false := bne_eq_false_iff_eq.mpr c4; clear c4
   by_cases c5 : ZM = Vd
   ·rw [if_pos c5] at H
    have c5b0 : (ZM == Vd) = true := beq_iff_eq.mpr c5; have c5b1 : (ZM != Vd) = false := bne_eq_false_iff_eq.mpr c5; clear c5
    by_cases c6 : Yu = YU
    ·rw [if_pos c6] at H
     have c6b0 : (Yu == YU) = true := beq_iff_eq.mpr c6; have c6b1 : (Yu != YU) = false := bne_eq_false_iff_eq.mpr c6; clear c6
     by_cases c7 : Yt = ZI
     ·rw [if_pos c7] at H
      have c7b0 : (Yt == ZI) = true := beq_iff_eq.mpr c7; have c7b1 : (Yt != ZI) = false := bne_eq_false_iff_eq.mpr c7; clear c7
      by_cases c8 : Jk = ZA
      ·rw [if_pos c8] at H
       have c8b0 : (Jk == ZA) = true := beq_iff_eq.mpr c8; have c8b1 : (Jk != ZA) = false := bne_eq_false_iff_eq.mpr c8; clear c8
       by_cases c9 : ZU = Ve
       ·rw [if_pos c9] at H
        have c9b0 : (ZU == Ve) = true := beq_iff_eq.mpr c9; have c9b1 : (ZU != Ve) = false := bne_eq_false_iff_eq.mpr c9; clear c9
        by_cases c10 : Js = Vf
        ·rw [if_pos c10] at H
         have Vh : (Js == Vf) = true := beq_iff_eq.mpr c10; have U8 : (Js != Vf) = false := bne_eq_false_iff_eq.mpr c10; clear c10; obtain rfl := Option.some.inj H
         go_enter Tryz.func63, Tryz.ntmps63
         go_wp2_with (first | ((with_reducible refine Xp (N := 2) rfl ?_); refine Xn ?hg (N := 2) ?hd (cs := #[.int .i64 Xu, .int .i64 Xy, .int .i64 ZM, .int .i64 Yu, .int .i64 Yt, .int .i64 Jk, .int .i64 ZU, .int .i64 Js]) (t := 76) ?hr ?_; (case hd => rfl); (case hg => rfl); (case hr => exact zb7); intro FC hg w11 hbox hb; have Zp := az (hbox); have FD := az ((zb95 : w.heap.size ≤ FC)); have Te := FD; replace HB := az (Xc zb0 hb); clear hb hbox hg) | ((with_reducible refine Xp (N := 3) rfl ?_); refine Xn ?hg (N := 3) ?hd (cs := #[.int .i64 Zd, .int .i64 Zk, .int .i64 Vd, .int .i64 YU, .int .i64 ZI, .int .i64 ZA, .int .i64 Ve, .int .i64 Vf]) (t := 76) ?hr ?_; (case hd => rfl); (case hg => rfl); (case hr => exact zb7); intro FE hg w12 hbox hb; have Jz := az (hbox); have FH := az ((zb97 : w.heap.size ≤ FE)); have Tf := FH; replace HB := az (Xc zb1 hb); obtain ⟨ZV, ZW⟩ := nb Zp hg (fun h => by (with_reducible repeat (first | apply bn | apply bd | apply ba)); exact h); replace Zp := bb Zp (fun h => by (with_reducible repeat (first | apply bn | apply bd | apply ba)); exact h) hb; clear hb hbox hg; have XrZ := ZV.out; have Xsa := ZW.out; obtain ⟨NV, NW, NY, Rb, Re, XaE, XaF, XaG⟩ := cz8 Zp; obtain ⟨NZ, Sa, Sb, Rf, Rh, XaH, XaI, XaJ⟩ := fz8 Zp; obtain ⟨Ri, Rj, Rk, Xou, Xov, XwL, XwM, XwN⟩ := cz8 Jz; obtain ⟨Rl, Rm, Rn, Xow, Xox, XwO, XwP⟩ := fz7 Jz; have XwQ := Xe Jz.out 7))
         go_ret
         exact ⟨zb4, zb1⟩
        ·rw [if_neg c10] at H
         have Vh : (Js == Vf) = false := beq_eq_false_iff_ne.mpr c10; have U8 : (Js != Vf) = true := bne_iff_ne.mpr c10; obtain rfl := Option.some.inj H
         go_enter Tryz.func63, Tryz.ntmps63
         go_wp2_with (first | ((with_reducible refine Xp (N := 2) rfl ?_); refine Xn ?hg (N := 2) ?hd (cs := #[.int .i64 Xu, .int .i64 Xy, .int .i64 ZM, .int .i64 Yu, .int .i64 Yt, .int .i64 Jk, .int .i64 ZU, .int .i64 Js]) (t := 76) ?hr ?_; (case hd => rfl); (case hg => rfl); (case hr => exact zb7); intro FC hg w16 hbox hb; have Zp := az (hbox); have FD := az ((zb95 : w.heap.size ≤ FC)); have Te := FD; replace HB := az (Xc zb0 hb); clear hb hbox hg) | ((with_reducible refine Xp (N := 3) rfl ?_); refine Xn ?hg (N := 3) ?hd (cs := #[.int .i64 Zd, .int .i64 Zk, .int .i64 Vd, .int .i64 YU, .int .i64 ZI, .int .i64 ZA, .int .i64 Ve, .int .i64 Vf]) (t := 76) ?hr ?_; (case hd => rfl); (case hg => rfl); (case hr => exact zb7); intro FE hg w17 hbox hb; have Jz := az (hbox); have FH := az ((zb97 : w.heap.size ≤ FE)); have Tf := FH; replace HB := az (Xc zb1 hb); obtain ⟨ZV, ZW⟩ := nb Zp hg (fun h => by (with_reducible repeat (first | apply bn | apply bd | apply ba)); exact h); replace Zp := bb Zp (fun h => by (with_reducible repeat (first | apply bn | apply bd | apply ba)); exact h) hb; clear hb hbox hg; have Xvy := ZV.out; have Xvz := ZW.out; obtain ⟨TQ, TR, TS, Xgg, Xgh, Xgi, Xgj, Xgk⟩ := cz8 Zp; obtain ⟨TT, TU, TV, Xgl, Xgm, Xgn, Xgo, Xgp⟩ := fz8 Zp; obtain ⟨Ro, Rp, Rq, Xhf, Xhg, XwR, XwS, XwT⟩ := cz8 Jz; obtain ⟨Rs, Rt, Ru, Xhh, Xhi, XwU, XwV⟩ := fz7 Jz; have XwW := Xe Jz.out 7))
         go_ret
         exact ⟨zb4, zb1⟩
       ·rw [if_neg c9] at H
        have c9b0 : (ZU == Ve) = false := beq_eq_false_iff_ne.mpr c9; have c9b1 : (ZU != Ve) = true := bne_iff_ne.mpr c9; obtain rfl := Option.some.inj H
        go_enter Tryz.func63, Tryz.ntmps63
        go_wp2_with (first | ((with_reducible refine Xp (N := 2) rfl ?_); refine Xn ?hg (N := 2) ?hd (cs := #[.int .i64 Xu, .int .i64 Xy, .int .i64 ZM, .int .i64 Yu, .int .i64 Yt, .int .i64 Jk, .int .i64 ZU, .int .i64 Js]) (t := 76) ?hr ?_; (case hd => rfl); (case hg => rfl); (case hr => exact zb7); intro FC hg w21 hbox hb; have Zp := az (hbox); have FD := az ((zb95 : w.heap.size ≤ FC)); have Te := FD; replace HB := az (Xc zb0 hb); clear hb hbox hg) | ((with_reducible refine Xp (N := 3) rfl ?_); refine Xn ?hg (N := 3) ?hd (cs := #[.int .i64 Zd, .int .i64 Zk, .int .i64 Vd, .int .i64 YU, .int .i64 ZI, .int .i64 ZA, .int .i64 Ve, .int .i64 Vf]) (t := 76) ?hr ?_; (case hd => rfl); (case hg => rfl); (case hr => exact zb7); intro FE hg w22 hbox hb; have Jz := az (hbox); have FH := az ((zb97 : w.heap.size ≤ FE)); have Tf := FH; replace HB := az (Xc zb1 hb); obtain ⟨ZV, ZW⟩ := nb Zp hg (fun h => by (with_reducible repeat (first | apply bn | apply bd | apply ba)); exact h); replace Zp := bb Zp (fun h => by (with_reducible repeat (first | apply bn | apply bd | apply ba)); exact h) hb; clear hb hbox hg; have hnb23 := ZV.out; have hnc23 := ZW.out; obtain ⟨Xhj, Xhk, Xhl, Xhm, Xhn, XwX, XwY, XwZ⟩ := cz8 Zp; obtain ⟨Xho, Xhp, Xhq, Xhr, Xhs, Xxa, Xxb, Xxc⟩ := fz8 Zp; obtain ⟨Xoy, Xoz, Xo0, Xxd, Xxe, Xxf, Xxg, Xxh⟩ := cz8 Jz; obtain ⟨Xo1, Xo2, Xo3, Xxi, Xxj, Xxk, Xxl⟩ := fz7 Jz; have Xxm := Xe Jz.out 7))
        go_ret
        exact ⟨zb4, zb1⟩
      ·rw [if_neg c8] at H
       have c8b0 : (Jk == ZA) = false := beq_eq_false_iff_ne.mpr c8; have c8b1 : (Jk != ZA) = true := bne_iff_ne.mpr c8; obtain rfl := Option.some.inj H
       go_enter Tryz.func63, Tryz.ntmps63
       go_wp2_with (first | ((with_reducible refine Xp (N := 2) rfl ?_); refine Xn ?hg (N := 2) ?hd (cs := #[.int .i64 Xu, .int .i64 Xy, .int .i64 ZM, .int .i64 Yu, .int .i64 Yt, .int .i64 Jk, .int .i64 ZU, .int .i64 Js]) (t := 76) ?hr ?_; (case hd => rfl); (case hg => rfl); (case hr => exact zb7); intro FC hg w26 hbox hb; have Zp := az (hbox); have FD := az ((zb95 : w.heap.size ≤ FC)); have Te := FD; replace HB := az (Xc zb0 hb); clear hb hbox hg) | ((with_reducible refine Xp (N := 3) rfl ?_); refine Xn ?hg (N := 3) ?hd (cs := #[.int .i64 Zd, .int .i64 Zk, .int .i64 Vd, .int .i64 YU, .int .i64 ZI, .int .i64 ZA, .int .i64 Ve, .int .i64 Vf]) (t := 76) ?hr ?_; (case hd => rfl); (case hg => rfl); (case hr => exact zb7); intro FE hg w27 hbox hb; have Jz := az (hbox); have FH := az ((zb97 : w.heap.size ≤ FE)); have Tf := FH; replace HB := az (Xc zb1 hb); obtain ⟨ZV, ZW⟩ := nb Zp hg (fun h => by (with_reducible repeat (first | apply bn | apply bd | apply ba)); exact h); replace Zp := bb Zp (fun h => by (with_reducible repeat (first | apply bn | apply bd | apply ba)); exact h) hb; clear hb hbox hg; have hnb28 := ZV.out; have hnc28 := ZW.out; obtain ⟨Xo4, Xo5, Xo6, Xo7, Xo8, Xxn, Xxo, Xxp⟩ := cz8 Zp; obtain ⟨Xo9, XoA, XoB, XoC, XoD, Xxq, Xxr, Xxs⟩ := fz8 Zp; obtain ⟨Xxt, Xxu, Xxv, Xxw, Xxx, Xxy, Xxz, Xx0⟩ := cz8 Jz; obtain ⟨Xx1, Xx2, Xx3, Xx4, Xx5, Xx6, Xx7⟩ := fz7 Jz; have Xx8 := Xe Jz.out 7))
       go_ret
       exact ⟨zb4, zb1⟩
     ·rw [if_neg c7] at H
      have c7b0 : (Yt == ZI) = false := beq_eq_false_iff_ne.mpr c7; have c7b1 : (Yt != ZI) = true := bne_iff_ne.mpr c7; obtain rfl := Option.some.inj H
      go_enter Tryz.func63, Tryz.ntmps63
      go_wp2_with (first | ((with_reducible refine Xp (N := 2) rfl ?_); refine Xn ?hg (N := 2) ?hd (cs := #[.int .i64 Xu, .int .i64 Xy, .int .i64 ZM, .int .i64 Yu, .int .i64 Yt, .int .i64 Jk, .int .i64 ZU, .int .i64 Js]) (t := 76) ?hr ?_; (case hd => rfl); (case hg => rfl); (case hr => exact zb7); intro FC hg w31 hbox hb; have Zp := az (hbox); have FD := az ((zb95 : w.heap.size ≤ FC)); have Te := FD; replace HB := az (Xc zb0 hb); clear hb hbox hg) | ((with_reducible refine Xp (N := 3) rfl ?_); refine Xn ?hg (N := 3) ?hd (cs := #[.int .i64 Zd, .int .i64 Zk, .int .i64 Vd, .int .i64 YU, .int .i64 ZI, .int .i64 ZA, .int .i64 Ve, .int .i64 Vf]) (t := 76) ?hr ?_; (case hd => rfl); (case hg => rfl); (case hr => exact zb7); intro FE hg w32 hbox hb; have Jz := az (hbox); have FH := az ((zb97 : w.heap.size ≤ FE)); have Tf := FH; replace HB := az (Xc zb1 hb); obtain ⟨ZV, ZW⟩ := nb Zp hg (fun h => by (with_reducible repeat (first | apply bn | apply bd | apply ba)); exact h); replace Zp := bb Zp (fun h => by (with_reducible repeat (first | apply bn | apply bd | apply ba)); exact h) hb; clear hb hbox hg; have hnb33 := ZV.out; have hnc33 := ZW.out; obtain ⟨XoE, XoF, XoG, XoH, XoI, Xx9, XxA, XxB⟩ := cz8 Zp; obtain ⟨XoJ, XoK, XoL, XoM, XoN, XxC, XxD, XxE⟩ := fz8 Zp; obtain ⟨Xht, Xhu, Xhv, XoO, XoP, XxF, XxG, XxH⟩ := cz8 Jz; obtain ⟨Xhw, Xhx, Xhy, XoQ, XoR, XxI, XxJ⟩ := fz7 Jz; have XxK := Xe Jz.out 7))
      go_ret
      exact ⟨zb4, zb1⟩
    ·rw [if_neg c6] at H
     have c6b0 : (Yu == YU) = false := beq_eq_false_iff_ne.mpr c6; have c6b1 : (Yu != YU) = true := bne_iff_ne.mpr c6; obtain rfl := Option.some.inj H
     go_enter Tryz.func63, Tryz.ntmps63
     go_wp2_with (first | ((with_reducible refine Xp (N := 2) rfl ?_); refine Xn ?hg (N := 2) ?hd (cs := #[.int .i64 Xu, .int .i64 Xy, .int .i64 ZM, .int .i64 Yu, .int .i64 Yt, .int .i64 Jk, .int .i64 ZU, .int .i64 Js]) (t := 76) ?hr ?_; (case hd => rfl); (case hg => rfl); (case hr => exact zb7); intro FC hg w36 hbox hb; have Zp := az (hbox); have FD := az ((zb95 : w.heap.size ≤ FC)); have Te := FD; replace HB := az (Xc zb0 hb); clear hb hbox hg) | ((with_reducible refine Xp (N := 3) rfl ?_); refine Xn ?hg (N := 3) ?hd (cs := #[.int .i64 Zd, .int .i64 Zk, .int .i64 Vd, .int .i64 YU, .int .i64 ZI, .int .i64 ZA, .int .i64 Ve, .int .i64 Vf]) (t := 76) ?hr ?_; (case hd => rfl); (case hg => rfl); (case hr => exact zb7); intro FE hg w37 hbox hb; have Jz := az (hbox); have FH := az ((zb97 : w.heap.size ≤ FE)); have Tf := FH; replace HB := az (Xc zb1 hb); obtain ⟨ZV, ZW⟩ := nb Zp hg (fun h => by (with_reducible repeat (first | apply bn | apply bd | apply ba)); exact h); replace Zp := bb Zp (fun h => by (with_reducible repeat (first | apply bn | apply bd | apply ba)); exact h) hb; clear hb hbox hg; have hnb38 := ZV.out; have hnc38 := ZW.out; obtain ⟨XxL, XxM, XxN, XxO, XxP, XxQ, XxR, XxS⟩ := cz8 Zp; obtain ⟨XxT, XxU, XxV, XxW, XxX, XxY, XxZ, Xya⟩ := fz8 Zp; obtain ⟨Xyb, Xyc, Xyd, Xye, Xyf, Xyg, Xyh, Xyi⟩ := cz8 Jz; obtain ⟨Xyj, Xyk, Xyl, Xym, Xyn, Xyo, Xyp⟩ := fz7 Jz; have Xyq := Xe Jz.out 7))
     go_ret
     exact ⟨zb4, zb1⟩
   ·rw [if_neg c5] at H
    have c5b0 : (ZM == Vd) = false := beq_eq_false_iff_ne.mpr c5; have c5b1 : (ZM != Vd) = true := bne_iff_ne.mpr c5; obtain rfl := Option.some.inj H
    go_enter Tryz.func63, Tryz.ntmps63
    go_wp2_with (first | ((with_reducible refine Xp (N := 2) rfl ?_); refine Xn ?hg (N := 2) ?hd (cs := #[.int .i64 Xu, .int .i64 Xy, .int .i64 ZM, .int .i64 Yu, .int .i64 Yt, .int .i64 Jk, .int .i64 ZU, .int .i64 Js]) (t := 76) ?hr ?_; (case hd => rfl); (case hg => rfl); (case hr => exact zb7); intro FC hg w41 hbox hb; have Zp := az (hbox); have FD := az ((zb95 : w.heap.size ≤ FC)); have Te := FD; replace HB := az (Xc zb0 hb); clear hb hbox hg) | ((with_reducible refine Xp (N := 3) rfl ?_); refine Xn ?hg (N := 3) ?hd (cs := #[.int .i64 Zd, .int .i64 Zk, .int .i64 Vd, .int .i64 YU, .int .i64 ZI, .int .i64 ZA, .int .i64 Ve, .int .i64 Vf]) (t := 76) ?hr ?_; (case hd => rfl); (case hg => rfl); (case hr => exact zb7); intro FE hg w42 hbox hb; have Jz := az (hbox); have FH := az ((zb97 : w.heap.size ≤ FE)); have Tf := FH; replace HB := az (Xc zb1 hb); obtain ⟨ZV, ZW⟩ := nb Zp hg (fun h => by (with_reducible repeat (first | apply bn | apply bd | apply ba)); exact h); replace Zp := bb Zp (fun h => by (with_reducible repeat (first | apply bn | apply bd | apply ba)); exact h) hb; clear hb hbox hg; have hnb43 := ZV.out; have hnc43 := ZW.out; obtain ⟨Xyr, Xys, Xyt, Xyu, Xyv, Xyw, Xyx, Xyy⟩ := cz8 Zp; obtain ⟨Xyz, Xy0, Xy1, Xy2, Xy3, Xy4, Xy5, Xy6⟩ := fz8 Zp; obtain ⟨Xhz, Xh0, Xh1, Xh2, Xh3, XoS, XoT, XoU⟩ := cz8 Jz; obtain ⟨Xh4, Xh5, Xh6, Xh7, Xh8, XoV, XoW⟩ := fz7 Jz; have XoX := Xe Jz.out 7))
    go_ret
    exact ⟨zb4, zb1⟩
  ·rw [if_neg c4] at H
   have c4b0 : (Xy == Zk) = false := beq_eq_false_iff_ne.mpr c4; have c4b1 : (Xy != Zk) = true := bne_iff_ne.mpr c4; obtain rfl := Option.some.inj H
   go_enter Tryz.func63, Tryz.ntmps63
   go_wp2_with (first | ((with_reducible refine Xp (N := 2) rfl ?_); refine Xn ?hg (N := 2) ?hd (cs := #[.int .i64 Xu, .int .i64 Xy, .int .i64 ZM, .int .i64 Yu, .int .i64 Yt, .int .i64 Jk, .int .i64 ZU, .int .i64 Js]) (t := 76) ?hr ?_; (case hd => rfl); (case hg => rfl); (case hr => exact zb7); intro FC hg w46 hbox hb; have Zp := az (hbox); have FD := az ((zb95 : w.heap.size ≤ FC)); have Te := FD; replace HB := az (Xc zb0 hb); clear hb hbox hg) | ((with_reducible refine Xp (N := 3) rfl ?_); refine Xn ?hg (N := 3) ?hd (cs := #[.int .i64 Zd, .int .i64 Zk, .int .i64 Vd, .int .i64 YU, .int .i64 ZI, .int .i64 ZA, .int .i64 Ve, .int .i64 Vf]) (t := 76) ?hr ?_; (case hd => rfl); (case hg => rfl); (case hr => exact zb7); intro FE hg w47 hbox hb; have Jz := az (hbox); have FH := az ((zb97 : w.heap.size ≤ FE)); have Tf := FH; replace HB := az (Xc zb1 hb); obtain ⟨ZV, ZW⟩ := nb Zp hg (fun h => by (with_reducible repeat (first | apply bn | apply bd | apply ba)); exact h); replace Zp := bb Zp (fun h => by (with_reducible repeat (first | apply bn | apply bd | apply ba)); exact h) hb; clear hb hbox hg; have hnb48 := ZV.out; have hnc48 := ZW.out; obtain ⟨XoY, XoZ, Xpa, Xpb, Xpc, Xy7, Xy8, Xy9⟩ := cz8 Zp; obtain ⟨Xpd, Xpe, Xpf, Xpg, Xph, XyA, XyB, XyC⟩ := fz8 Zp; obtain ⟨XyD, XyE, XyF, XyG, XyH, XyI, XyJ, XyK⟩ := cz8 Jz; obtain ⟨XyL, XyM, XyN, XyO, XyP, XyQ, XyR⟩ := fz7 Jz; have XyS := Xe Jz.out 7))
   go_ret
   exact ⟨zb4, zb1⟩
 ·rw [if_neg c3] at H
  have c3b0 : (Xu == Zd) = false := beq_eq_false_iff_ne.mpr c3; have c3b1 : (Xu != Zd) = true := bne_iff_ne.mpr c3; obtain rfl := Option.some.inj H
  go_enter Tryz.func63, Tryz.ntmps63
  go_wp2_with (first | ((with_reducible refine Xp (N := 2) rfl ?_); refine Xn ?hg (N := 2) ?hd (cs := #[.int .i64 Xu, .int .i64 Xy, .int .i64 ZM, .int .i64 Yu, .int .i64 Yt, .int .i64 Jk, .int .i64 ZU, .int .i64 Js]) (t := 76) ?hr ?_; (case hd => rfl); (case hg => rfl); (case hr => exact zb7); intro FC hg w51 hbox hb; have Zp := az (hbox); have FD := az ((zb95 : w.heap.size ≤ FC)); have Te := FD; replace HB := az (Xc zb0 hb); clear hb hbox hg) | ((with_reducible refine Xp (N := 3) rfl ?_); refine Xn ?hg (N := 3) ?hd (cs := #[.int .i64 Zd, .int .i64 Zk, .int .i64 Vd, .int .i64 YU, .int .i64 ZI, .int .i64 ZA, .int .i64 Ve, .int .i64 Vf]) (t := 76) ?hr ?_; (case hd => rfl); (case hg => rfl); (case hr => exact zb7); intro FE hg w52 hbox hb; have Jz := az (hbox); have FH := az ((zb97 : w.heap.size ≤ FE)); have Tf := FH; replace HB := az (Xc zb1 hb); obtain ⟨ZV, ZW⟩ := nb Zp hg (fun h => by (with_reducible repeat (first | apply bn | apply bd | apply ba)); exact h); replace Zp := bb Zp (fun h => by (with_reducible repeat (first | apply bn | apply bd | apply ba)); exact h) hb; clear hb hbox hg; have hnb53 := ZV.out; have hnc53 := ZW.out; obtain ⟨Xpi, Xpj, Xpk, XyT, XyU, XyV, XyW, XyX⟩ := cz8 Zp; obtain ⟨Xpl, Xpm, Xpn, XyY, XyZ, Xza, Xzb, Xzc⟩ := fz8 Zp; obtain ⟨Xpo, Xpp, Xpq, Xzd, Xze, Xzf, Xzg, Xzh⟩ := cz8 Jz; obtain ⟨Xpr, Xps, Xpt, Xzi, Xzj, Xzk, Xzl⟩ := fz7 Jz; have Xzm := Xe Jz.out 7))
  go_ret
  exact ⟨zb4, zb1⟩
def XJ.l0 : Nat → List (S76) → List (S76) → Int → Option (Bool)
 | 0, _, _, _ => none
 | k + 1, x0, x1, x5 => if x5 < (x0.length : Int) then (if 0 ≤ x5 then (if x5 < (x1.length : Int) then ((Ff.f ((Xa x0 x5).f0) ((Xa x0 x5).f1) ((Xa x0 x5).f2) ((Xa x0 x5).f3) ((Xa x0 x5).f4) ((Xa x0 x5).f5) ((Xa x0 x5).f6) ((Xa x0 x5).f7) ((Xa x1 x5).f0) ((Xa x1 x5).f1) ((Xa x1 x5).f2) ((Xa x1 x5).f3) ((Xa x1 x5).f4) ((Xa x1 x5).f5) ((Xa x1 x5).f6) ((Xa x1 x5).f7)).bind fun Xpu => (if Xpu = true then (XJ.l0 k x0 x1 (wrap64 (x5 + 1))) else (some false))) else (none)) else (none)) else (some true)
def XJ.f (k : Nat) (l0 : List (S76)) (l1 : List (S76)) : Option (Bool) := if (l0.length : Int) = (l1.length : Int) then (XJ.l0 k l0 l1 0) else (some false)
def XJ.T6 : Bool × List (List Nat × List Nat) := (true, [([], []), ([], []), ([0, 1], [0, 1]), ([2], [2]), ([], []), ([], []), ([4, 5], [4, 5]), ([6], [6]), ([3, 7], [3, 7]), ([8], [8])])
def XJ.B6 : List Nat := [0, 0, 3, 7, 0, 0, 48, 112, 255, 511]
theorem XJ.Ob : JH .any (opsOf Tryz.f36 6) = XJ.T6 := by kernel_rfl
theorem XJ.NS : Z4 XJ.T6.2 XJ.B6 = true := by kernel_rfl
set_option maxHeartbeats 8000000 in
set_option maxRecDepth 100000 in
theorem XJ.calls (k : Nat) (A0 : Option Addr) (c0 : Nat) (l0 : List (S76)) (A1 : Option Addr) (c1 : Nat) (l1 : List (S76)) (r : Bool) (w : World) (hr0 : Kd.C k76 w A0 l0.length l0) (hc0 : l0.length ≤ c0) (hr1 : Kd.C k76 w A1 l1.length l1) (hc1 : l1.length ≤ c1) (h : XJ.f k l0 l1 = some r) :
 Calls Tryz.prog 36 #[.slice A0 l0.length c0, .slice A1 l1.length c1] w fun e w' => e = .returned (.bool r) ∧ Below w.heap.size w w' := by
 have hu76 := Tryz.underlying76; have HR0 := az hr0; have HC0 := az hc0; clear hr0 hc0; have HR1 := az hr1; have HC1 := az hc1; clear hr1 hc1; have HB := az (Below.refl w.heap.size w); have H : (if (l0.length : Int) = (l1.length : Int) then (XJ.l0 k l0 l1 0) else (some false)) = some r := h; clear h
 by_cases c3 : (l0.length : Int) = (l1.length : Int)
 ·rw [if_pos c3] at H
  have c3b0 : ((l0.length : Int) == (l1.length : Int)) = true := beq_iff_eq.mpr c3; have c3b1 : ((l0.length : Int) != (l1.length : Int)) = false := bne_eq_false_iff_eq.mpr c3
  have c3b2 : (l0.length == l1.length) = true := by first | simpa using c3 | (simp at c3 ⊢; omega)
  clear c3; have H' := az H; clear H
  go_enter Tryz.func36, Tryz.ntmps36
  go_wp2
  go_loopg [5] k (fun kq v5 w' => ∃ (Xh : Int), v5 = .int .i64 Xh ∧ Aside0 (XJ.l0 kq l0 l1 Xh = some r) ∧ Aside0 (kq ≤ k) ∧ Aside0 (Below w.heap.size w w'))
  case atStart => exact ⟨(0), zb5, H', ⟨Nat.le_refl _⟩, ⟨zb0⟩⟩
  case round =>
   clear H';(try clear c1);(try clear p2);(try clear c3);(try clear c3b0);(try clear c3b1);(try clear c3b2)
   obtain ⟨Xh, rfl, HA, HK1, HB⟩ := hrel
   cases gk with
   | zero => exact absurd HA.out (by simp [XJ.l0])
   | succ k1 =>
    have H := HA.out; clear HA; simp only [XJ.l0] at H
    by_cases c4 : Xh < (l0.length : Int)
    ·rw [if_pos c4] at H
     have c4b0 : decide (Xh < (l0.length : Int)) = true := decide_eq_true c4; clear c4
     by_cases c5 : 0 ≤ Xh
     ·rw [if_pos c5] at H
      have c5b0 : decide (0 ≤ Xh) = true := decide_eq_true c5; clear c5
      by_cases c6 : Xh < (l1.length : Int)
      ·rw [if_pos c6] at H
       have c6b0 : decide (Xh < (l1.length : Int)) = true := decide_eq_true c6; clear c6; replace H := Option.bind_eq_some_iff.mp H; obtain ⟨Xpu, A70, H⟩ := H; replace H : (if Xpu = true then (XJ.l0 k1 l0 l1 (wrap64 (Xh + 1))) else (some false)) = some r := H; have A7 := az A70; clear A70
       by_cases c8 : Xpu = true
       ·subst c8
        have H1 : (XJ.l0 k1 l0 l1 (wrap64 (Xh + 1))) = some r := by rw [if_pos rfl] at H; exact H
        clear H; have H := H1; clear H1; have H' := az H; clear H
        try go_wp2
        replace HB := az (wd HB.out); have Xe9 : 0 ≤ (Xh : Int) := of_decide_eq_true zb3; have XeA : Xh < (l0.length : Int) := of_decide_eq_true zb3; obtain ⟨XlW, Xtj, Gf, Gg, Gh, Gi, Gj, Gl, Gm, Gn⟩ := Ym HR0.out Xh Xe9 XeA; have hw517_7 := Gn; have hw517_6 := Gm; have hw517_5 := Gl; have hw517_4 := Gj; have hw517_3 := Gi; have hw517_2 := Gh; have hw517_1 := Gg; have hw517_0 := Gf
        cases Xtj
        replace Gf := cb HB Gf; replace Gg := cb HB Gg; replace Gh := cb HB Gh; replace Gi := cb HB Gi; replace Gj := cb HB Gj; replace Gl := cb HB Gl; replace Gm := cb HB Gm; replace Gn := cb HB Gn; replace Xe9 := eq_true Xe9; replace XeA := eq_true XeA; have XeB : 0 ≤ (Xh : Int) := of_decide_eq_true zb3; have XeC : Xh < (l1.length : Int) := of_decide_eq_true zb3; obtain ⟨XlX, Xtk, Gp, Gq, Gr, Gs, Gt, Gu, Gv, Gw⟩ := Ym HR1.out Xh XeB XeC; have hw518_7 := Gw; have hw518_6 := Gv; have hw518_5 := Gu; have hw518_4 := Gt; have hw518_3 := Gs; have hw518_2 := Gr; have hw518_1 := Gq; have hw518_0 := Gp
        cases Xtk
        replace Gp := cb HB Gp; replace Gq := cb HB Gq; replace Gr := cb HB Gr; replace Gs := cb HB Gs; replace Gt := cb HB Gt; replace Gu := cb HB Gu; replace Gv := cb HB Gv; replace Gw := cb HB Gw; replace XeB := eq_true XeB; replace XeC := eq_true XeC; refine Yw (n := 10) (S := fun w' => r8 w' (XlW.add ((Xh).toNat * 8)) (Xa l0 Xh) (r8t w' (XlX.add ((Xh).toNat * 8)) (Xa l1 Xh))) (ds := []) Xdy zb6 rfl rfl ⟨(cb HB hw517_0), (cb HB hw517_1), (cb HB hw517_2), (cb HB hw517_3), (cb HB hw517_4), (cb HB hw517_5), (cb HB hw517_6), (cb HB hw517_7), (cb HB hw518_0), (cb HB hw518_1), (cb HB hw518_2), (cb HB hw518_3), (cb HB hw518_4), (cb HB hw518_5), (cb HB hw518_6), (cb HB hw518_7)⟩ (fun hHeld => ?_); refine XH XJ.Ob XJ.NS (fun HT_ HW_ => ?_); generalize wr.drew = w9 at HB Gf Gg Gh Gi Gj Gl Gm Gn Gp Gq Gr Gs Gt Gu Gv Gw hHeld ⊢; refine pu 0 17 Xdz HT_ ?_; refine pu 1 18 Xd0 HT_ ?_; refine pu 2 19 Xd1 HT_ ?_; refine pu 4 21 Xd2 HT_ ?_; refine pu 5 22 Xd3 HT_ ?_; refine pu 6 23 Xd4 HT_ ?_; refine tk 3 20 Xd5 HT_ HW_ hHeld ?_; refine tk 7 24 Xd6 HT_ HW_ hHeld ?_; refine Zj (i := 8) (N := some 25) Xd7 rfl rfl (Yl HT_.out zb6) (by decide) (fun K hK => ?_); refine YI Tryz.func63 zb6 rfl #[.agg #[.int .i64 ((Xa l0 Xh).f0), .int .i64 ((Xa l0 Xh).f1), .int .i64 ((Xa l0 Xh).f2), .int .i64 ((Xa l0 Xh).f3), .int .i64 ((Xa l0 Xh).f4), .int .i64 ((Xa l0 Xh).f5), .int .i64 ((Xa l0 Xh).f6), .int .i64 ((Xa l0 Xh).f7)], .agg #[.int .i64 ((Xa l1 Xh).f0), .int .i64 ((Xa l1 Xh).f1), .int .i64 ((Xa l1 Xh).f2), .int .i64 ((Xa l1 Xh).f3), .int .i64 ((Xa l1 Xh).f4), .int .i64 ((Xa l1 Xh).f5), .int .i64 ((Xa l1 Xh).f6), .int .i64 ((Xa l1 Xh).f7)]] (by rfl) rfl rfl zb2 ?_
        with_reducible refine (Ff.calls ((Xa l0 Xh).f0) ((Xa l0 Xh).f1) ((Xa l0 Xh).f2) ((Xa l0 Xh).f3) ((Xa l0 Xh).f4) ((Xa l0 Xh).f5) ((Xa l0 Xh).f6) ((Xa l0 Xh).f7) ((Xa l1 Xh).f0) ((Xa l1 Xh).f1) ((Xa l1 Xh).f2) ((Xa l1 Xh).f3) ((Xa l1 Xh).f4) ((Xa l1 Xh).f5) ((Xa l1 Xh).f6) ((Xa l1 Xh).f7) true _ A7.out).mono ?_
        rintro e w10 ⟨rfl, hb⟩; refine ⟨_, rfl, ?_⟩; replace HB := az (Xc zb0 hb)
        (try clear hb);(try clear hb2);(try clear hk);(try clear hi)
        refine hK.out _ _ ⟨(cb HB hw517_0), (cb HB hw517_1), (cb HB hw517_2), (cb HB hw517_3), (cb HB hw517_4), (cb HB hw517_5), (cb HB hw517_6), (cb HB hw517_7), (cb HB hw518_0), (cb HB hw518_1), (cb HB hw518_2), (cb HB hw518_3), (cb HB hw518_4), (cb HB hw518_5), (cb HB hw518_6), (cb HB hw518_7)⟩ (fun hHeld => ?_); clear hK K; refine XQ (a' := ?_) ?_ ?_; rotate_left
        ·show Act.put _ (some 25) _ = _
         simp only [Act.put, List.setIfInBounds_toArray, List.set_cons_zero, List.set_cons_succ, Xz, XF]
         rfl
        refine pu 9 26 Qz HT_ ?_; refine YX (YA HT_.out zb6) ?_
        try go_wp2
        go_roundg k1
        case measure => have := HK1.out; omega
        case rel => exact ⟨(wrap64 (Xh + 1)), zb5, H', ⟨zb33⟩, ⟨zb0⟩⟩
       ·replace c8 := Bool.eq_false_iff.mpr c8
        subst c8
        have H1 : (some false) = some r := by rw [if_neg (show ¬ (false = true) by decide)] at H; exact H
        clear H; have H := H1; clear H1; obtain rfl := Option.some.inj H
        try go_wp2
        replace HB := az (wd HB.out); have Xe9 : 0 ≤ (Xh : Int) := of_decide_eq_true zb3; have XeA : Xh < (l0.length : Int) := of_decide_eq_true zb3; obtain ⟨XlW, Xtj, Gf, Gg, Gh, Gi, Gj, Gl, Gm, Gn⟩ := Ym HR0.out Xh Xe9 XeA; have hw517_7 := Gn; have hw517_6 := Gm; have hw517_5 := Gl; have hw517_4 := Gj; have hw517_3 := Gi; have hw517_2 := Gh; have hw517_1 := Gg; have hw517_0 := Gf
        cases Xtj
        replace Gf := cb HB Gf; replace Gg := cb HB Gg; replace Gh := cb HB Gh; replace Gi := cb HB Gi; replace Gj := cb HB Gj; replace Gl := cb HB Gl; replace Gm := cb HB Gm; replace Gn := cb HB Gn; replace Xe9 := eq_true Xe9; replace XeA := eq_true XeA; have XeB : 0 ≤ (Xh : Int) := of_decide_eq_true zb3; have XeC : Xh < (l1.length : Int) := of_decide_eq_true zb3; obtain ⟨XlX, Xtk, Gp, Gq, Gr, Gs, Gt, Gu, Gv, Gw⟩ := Ym HR1.out Xh XeB XeC; have hw518_7 := Gw; have hw518_6 := Gv; have hw518_5 := Gu; have hw518_4 := Gt; have hw518_3 := Gs; have hw518_2 := Gr; have hw518_1 := Gq; have hw518_0 := Gp
        cases Xtk
        replace Gp := cb HB Gp; replace Gq := cb HB Gq; replace Gr := cb HB Gr; replace Gs := cb HB Gs; replace Gt := cb HB Gt; replace Gu := cb HB Gu; replace Gv := cb HB Gv; replace Gw := cb HB Gw; replace XeB := eq_true XeB; replace XeC := eq_true XeC; refine Yw (n := 10) (S := fun w' => r8 w' (XlW.add ((Xh).toNat * 8)) (Xa l0 Xh) (r8t w' (XlX.add ((Xh).toNat * 8)) (Xa l1 Xh))) (ds := []) Xdy zb6 rfl rfl ⟨(cb HB hw517_0), (cb HB hw517_1), (cb HB hw517_2), (cb HB hw517_3), (cb HB hw517_4), (cb HB hw517_5), (cb HB hw517_6), (cb HB hw517_7), (cb HB hw518_0), (cb HB hw518_1), (cb HB hw518_2), (cb HB hw518_3), (cb HB hw518_4), (cb HB hw518_5), (cb HB hw518_6), (cb HB hw518_7)⟩ (fun hHeld => ?_); refine XH XJ.Ob XJ.NS (fun HT_ HW_ => ?_); generalize wr.drew = w11 at HB Gf Gg Gh Gi Gj Gl Gm Gn Gp Gq Gr Gs Gt Gu Gv Gw hHeld ⊢; refine pu 0 17 Xdz HT_ ?_; refine pu 1 18 Xd0 HT_ ?_; refine pu 2 19 Xd1 HT_ ?_; refine pu 4 21 Xd2 HT_ ?_; refine pu 5 22 Xd3 HT_ ?_; refine pu 6 23 Xd4 HT_ ?_; refine tk 3 20 Xd5 HT_ HW_ hHeld ?_; refine tk 7 24 Xd6 HT_ HW_ hHeld ?_; refine Zj (i := 8) (N := some 25) Xd7 rfl rfl (Yl HT_.out zb6) (by decide) (fun K hK => ?_); refine YI Tryz.func63 zb6 rfl #[.agg #[.int .i64 ((Xa l0 Xh).f0), .int .i64 ((Xa l0 Xh).f1), .int .i64 ((Xa l0 Xh).f2), .int .i64 ((Xa l0 Xh).f3), .int .i64 ((Xa l0 Xh).f4), .int .i64 ((Xa l0 Xh).f5), .int .i64 ((Xa l0 Xh).f6), .int .i64 ((Xa l0 Xh).f7)], .agg #[.int .i64 ((Xa l1 Xh).f0), .int .i64 ((Xa l1 Xh).f1), .int .i64 ((Xa l1 Xh).f2), .int .i64 ((Xa l1 Xh).f3), .int .i64 ((Xa l1 Xh).f4), .int .i64 ((Xa l1 Xh).f5), .int .i64 ((Xa l1 Xh).f6), .int .i64 ((Xa l1 Xh).f7)]] (by rfl) rfl rfl zb2 ?_
        with_reducible refine (Ff.calls ((Xa l0 Xh).f0) ((Xa l0 Xh).f1) ((Xa l0 Xh).f2) ((Xa l0 Xh).f3) ((Xa l0 Xh).f4) ((Xa l0 Xh).f5) ((Xa l0 Xh).f6) ((Xa l0 Xh).f7) ((Xa l1 Xh).f0) ((Xa l1 Xh).f1) ((Xa l1 Xh).f2) ((Xa l1 Xh).f3) ((Xa l1 Xh).f4) ((Xa l1 Xh).f5) ((Xa l1 Xh).f6) ((Xa l1 Xh).f7) false _ A7.out).mono ?_
        rintro e w12 ⟨rfl, hb⟩; refine ⟨_, rfl, ?_⟩; replace HB := az (Xc zb0 hb)
        (try clear hb);(try clear hb2);(try clear hk);(try clear hi)
        refine hK.out _ _ ⟨(cb HB hw517_0), (cb HB hw517_1), (cb HB hw517_2), (cb HB hw517_3), (cb HB hw517_4), (cb HB hw517_5), (cb HB hw517_6), (cb HB hw517_7), (cb HB hw518_0), (cb HB hw518_1), (cb HB hw518_2), (cb HB hw518_3), (cb HB hw518_4), (cb HB hw518_5), (cb HB hw518_6), (cb HB hw518_7)⟩ (fun hHeld => ?_); clear hK K; refine XQ (a' := ?_) ?_ ?_; rotate_left
        ·show Act.put _ (some 25) _ = _
         simp only [Act.put, List.setIfInBounds_toArray, List.set_cons_zero, List.set_cons_succ, Xz, XF]
         rfl
        refine pu 9 26 Qz HT_ ?_; refine YX (YA HT_.out zb6) ?_
        try go_wp2
        go_ret
        exact ⟨zb4, zb0⟩
      ·rw [if_neg c6] at H
       exact absurd H (by simp)
     ·rw [if_neg c5] at H
      exact absurd H (by simp)
    ·rw [if_neg c4] at H
     have c4b0 : decide (Xh < (l0.length : Int)) = false := decide_eq_false c4; clear c4; obtain rfl := Option.some.inj H
     go_wp2
     go_ret
     exact ⟨zb4, zb0⟩
 ·rw [if_neg c3] at H
  have c3b0 : ((l0.length : Int) == (l1.length : Int)) = false := beq_eq_false_iff_ne.mpr c3; have c3b1 : ((l0.length : Int) != (l1.length : Int)) = true := bne_iff_ne.mpr c3
  have c3b2 : (l0.length == l1.length) = false := by first | simpa using c3 | (simp at c3 ⊢; omega)
  obtain rfl := Option.some.inj H
  go_enter Tryz.func36, Tryz.ntmps36
  go_wp2
  go_ret
  exact ⟨zb4, zb0⟩
end Go.Proofs.YtphnphmbfogmlaaGreat.Pr
