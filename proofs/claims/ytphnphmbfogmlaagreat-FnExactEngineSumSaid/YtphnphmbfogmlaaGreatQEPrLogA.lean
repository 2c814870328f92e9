import Derived.Test.YtphnphmbfogmlaaGreatQEByq
import Derived.Test.YtphnphmbfogmlaaGreatQEWMore
import Derived.Test.YtphnphmbfogmlaaGreatQEPrK
import Derived.Test.YtphnphmbfogmlaaGreatQESx
import Derived.Test.YtphnphmbfogmlaaGreatQEPrM
import Derived.Test.YtphnphmbfogmlaaGreatQEPrWith
namespace Go.Proofs.YtphnphmbfogmlaaGreat.Pr
open Go.RowKit Go.PW Go.PL Go.PM
attribute [local go_sem] YO YP Zm Zn Yv Yw YQ YS
set_option linter.unusedVariables false
set_option linter.unusedSimpArgs false
abbrev XgW : Array Bool := #[nn,nn,nn,nn,nn,nn,nn,nn,nn,nn]
abbrev XgX : Array Bool := #[yy,nn,nn,nn,nn,nn,nn,nn,nn,nn]
abbrev XgY : Array Bool := #[yy,yy,nn,nn,nn,nn,nn,nn,nn,nn]
abbrev XgZ : Array Bool := #[yy,yy,yy,nn,nn,nn,nn,nn,nn,nn]
abbrev Xha : Array Bool := #[yy,yy,yy,nn,yy,nn,nn,nn,nn,nn]
abbrev Xhb : Array Bool := #[yy,yy,yy,nn,yy,yy,nn,nn,nn,nn]
abbrev Xhc : Array Bool := #[yy,yy,yy,nn,yy,yy,yy,nn,nn,nn]
abbrev Xhd : Array Bool := #[yy,yy,yy,yy,yy,yy,yy,nn,nn,nn]
abbrev Xhe : Array Bool := #[yy,yy,yy,yy,yy,yy,yy,yy,nn,nn]
abbrev Xhf : Array Bool := #[yy,yy,yy,yy,yy,yy,yy,yy,yy,nn]
abbrev Xci : Array Bool := #[yy,yy,yy,yy,yy,yy,yy,yy,yy,yy]
def Va.f (l0 : List (S78)) (a1 : Int) : Option (Int) := if (wrap64 (a1 - (l0.length : Int))) < 0 then (some (-1)) else (some (wrap64 (a1 - (l0.length : Int))))
set_option maxHeartbeats 8000000 in
set_option maxRecDepth 100000 in
theorem Va.calls (A0 : Option Addr) (c0 : Nat) (l0 : List (S78)) (a1 : Int) (r : Int) (w : World) (hr0 : Kd.C k78 w A0 l0.length l0) (hc0 : l0.length ≤ c0) (h : Va.f l0 a1 = some r) :
 Calls Tryz.prog 29 #[.slice A0 l0.length c0, .int .i64 a1] w fun e w' => e = .returned (.int .i64 r) ∧ Jc w w' := by
 have HR0 := az hr0; have HC0 := az hc0; clear hr0 hc0; have H : (if (wrap64 (a1 - (l0.length : Int))) < 0 then (some (-1)) else (some (wrap64 (a1 - (l0.length : Int))))) = some r := h; clear h
 by_cases c3 : (wrap64 (a1 - (l0.length : Int))) < 0
 ·rw [if_pos c3] at H
  have c3b0 : decide ((wrap64 (a1 - (l0.length : Int))) < 0) = true := decide_eq_true c3; clear c3; obtain rfl := Option.some.inj H
  go_enter Tryz.func29, Tryz.ntmps29
  go_wp2
  go_ret
  exact ⟨zb6, zb11⟩
 ·rw [if_neg c3] at H
  have c3b0 : decide ((wrap64 (a1 - (l0.length : Int))) < 0) = false := decide_eq_false c3; clear c3; obtain rfl := Option.some.inj H
  go_enter Tryz.func29, Tryz.ntmps29
  go_wp2
  go_ret
  exact ⟨zb6, zb11⟩
def Y2.l0 : Nat → List (S76) → Int → Int → Option (Int)
 | 0, _, _, _ => none
 | k + 1, x0, x1, x5 => if x5 ≥ 0 then (if 0 ≤ x5 then (if x5 < (x0.length : Int) then (if ((Xa x0 x5).f1) = x1 then (if ((Xa x0 x5).f0) = 4 then (some 0) else (if ((Xa x0 x5).f0) = 5 then (some 0) else (some (wrap64 (x5 + 1))))) else (Y2.l0 k x0 x1 (wrap64 (x5 - 1)))) else (none)) else (none)) else (some 0)
def Y2.f (k : Nat) (l0 : List (S76)) (a1 : Int) : Option (Int) := Y2.l0 k l0 a1 (wrap64 ((l0.length : Int) - 1))
set_option maxHeartbeats 8000000 in
set_option maxRecDepth 100000 in
theorem Y2.calls (k : Nat) (A0 : Option Addr) (c0 : Nat) (l0 : List (S76)) (a1 : Int) (r : Int) (w : World) (hr0 : Kd.C k76 w A0 l0.length l0) (hc0 : l0.length ≤ c0) (h : Y2.f k l0 a1 = some r) :
 Calls Tryz.prog 72 #[.slice A0 l0.length c0, .int .i64 a1] w fun e w' => e = .returned (.int .i64 r) ∧ Jc w w' := by
 have HR0 := az hr0; have HC0 := az hc0; clear hr0 hc0; have H : (Y2.l0 k l0 a1 (wrap64 ((l0.length : Int) - 1))) = some r := h; clear h; have H' := az H; clear H
 go_enter Tryz.func72, Tryz.ntmps72
 go_wp2
 go_loopg [5] k (fun kq v5 w' => ∃ (Xk : Int), v5 = .int .i64 Xk ∧ Aside0 (Y2.l0 kq l0 a1 Xk = some r) ∧ Aside0 (kq ≤ k) ∧ Jc w w')
 case atStart => exact ⟨(wrap64 ((l0.length : Int) - 1)), zb6, H', ⟨Nat.le_refl _⟩, zb11⟩
 case round =>
  clear H';(try clear p2)
  obtain ⟨Xk, rfl, HA, HK1, ⟨m1, rfl⟩⟩ := hrel
  cases gk with
  | zero => exact absurd HA.out (by simp [Y2.l0])
  | succ k1 =>
   have H := HA.out; clear HA; simp only [Y2.l0] at H
   by_cases c3 : Xk ≥ 0
   ·rw [if_pos c3] at H
    have c3b0 : decide (0 ≤ Xk) = true := decide_eq_true c3; clear c3
    by_cases c4 : 0 ≤ Xk
    ·rw [if_pos c4] at H
     have c4b0 : decide (0 ≤ Xk) = true := decide_eq_true c4; clear c4
     by_cases c5 : Xk < (l0.length : Int)
     ·rw [if_pos c5] at H
      have c5b0 : decide (Xk < (l0.length : Int)) = true := decide_eq_true c5; clear c5
      by_cases c6 : ((Xa l0 Xk).f1) = a1
      ·rw [if_pos c6] at H
       have c6b0 : (((Xa l0 Xk).f1) == a1) = true := beq_iff_eq.mpr c6; have c6b1 : (((Xa l0 Xk).f1) != a1) = false := bne_eq_false_iff_eq.mpr c6; clear c6
       by_cases c7 : ((Xa l0 Xk).f0) = 4
       ·rw [if_pos c7] at H
        have c7b0 : (((Xa l0 Xk).f0) == 4) = true := beq_iff_eq.mpr c7; have c7b1 : (((Xa l0 Xk).f0) != 4) = false := bne_eq_false_iff_eq.mpr c7; clear c7; obtain rfl := Option.some.inj H; have LK : 0 ≤ (Xk : Int) := of_decide_eq_true zb3; have LM : Xk < (l0.length : Int) := of_decide_eq_true zb3; obtain ⟨Ej, XhL, XdA, XdB, XdC, XdD, XdE, XdF, XdG, XdH⟩ := Yt HR0.out Xk LK LM
        cases XhL
        replace LK := eq_true LK; replace LM := eq_true LM; have Iw : 0 ≤ (Xk : Int) := of_decide_eq_true zb3; have Iy : Xk < (l0.length : Int) := of_decide_eq_true zb3; obtain ⟨Xf6, Xqd, XkM, XkN, XkO, XkP, XkQ, XkR, XkS, XkT⟩ := Yt HR0.out Xk Iw Iy
        obtain rfl : Ej = Xf6 := (by injection Xqd)
        replace Iw := eq_true Iw; replace Iy := eq_true Iy
        go_wp2
        go_ret
        exact ⟨zb6, zb11⟩
       ·rw [if_neg c7] at H
        have c7b0 : (((Xa l0 Xk).f0) == 4) = false := beq_eq_false_iff_ne.mpr c7; have c7b1 : (((Xa l0 Xk).f0) != 4) = true := bne_iff_ne.mpr c7
        by_cases c8 : ((Xa l0 Xk).f0) = 5
        ·rw [if_pos c8] at H
         have c8b0 : (((Xa l0 Xk).f0) == 5) = true := beq_iff_eq.mpr c8; have c8b1 : (((Xa l0 Xk).f0) != 5) = false := bne_eq_false_iff_eq.mpr c8; clear c8; obtain rfl := Option.some.inj H; have LK : 0 ≤ (Xk : Int) := of_decide_eq_true zb3; have LM : Xk < (l0.length : Int) := of_decide_eq_true zb3; obtain ⟨Ej, XhL, XdA, XdB, XdC, XdD, XdE, XdF, XdG, XdH⟩ := Yt HR0.out Xk LK LM
         cases XhL
         replace LK := eq_true LK; replace LM := eq_true LM; have Iw : 0 ≤ (Xk : Int) := of_decide_eq_true zb3; have Iy : Xk < (l0.length : Int) := of_decide_eq_true zb3; obtain ⟨Xf6, Xqd, XkM, XkN, XkO, XkP, XkQ, XkR, XkS, XkT⟩ := Yt HR0.out Xk Iw Iy
         obtain rfl : Ej = Xf6 := (by injection Xqd)
         replace Iw := eq_true Iw; replace Iy := eq_true Iy; have XhM : 0 ≤ (Xk : Int) := of_decide_eq_true zb3; have XhN : Xk < (l0.length : Int) := of_decide_eq_true zb3; obtain ⟨Xqe, XxK, Xt3, Xt4, Xt5, Xt6, Xt7, Xt8, Xt9, XtA⟩ := Yt HR0.out Xk XhM XhN
         obtain rfl : Ej = Xqe := (by injection XxK)
         replace XhM := eq_true XhM; replace XhN := eq_true XhN
         go_wp2
         go_ret
         exact ⟨zb6, zb11⟩
        ·rw [if_neg c8] at H
         have c8b0 : (((Xa l0 Xk).f0) == 5) = false := beq_eq_false_iff_ne.mpr c8; have c8b1 : (((Xa l0 Xk).f0) != 5) = true := bne_iff_ne.mpr c8; obtain rfl := Option.some.inj H; have LK : 0 ≤ (Xk : Int) := of_decide_eq_true zb3; have LM : Xk < (l0.length : Int) := of_decide_eq_true zb3; obtain ⟨Ej, XhL, XdA, XdB, XdC, XdD, XdE, XdF, XdG, XdH⟩ := Yt HR0.out Xk LK LM
         cases XhL
         replace LK := eq_true LK; replace LM := eq_true LM; have Iw : 0 ≤ (Xk : Int) := of_decide_eq_true zb3; have Iy : Xk < (l0.length : Int) := of_decide_eq_true zb3; obtain ⟨Xf6, Xqd, XkM, XkN, XkO, XkP, XkQ, XkR, XkS, XkT⟩ := Yt HR0.out Xk Iw Iy
         obtain rfl : Ej = Xf6 := (by injection Xqd)
         replace Iw := eq_true Iw; replace Iy := eq_true Iy; have XhM : 0 ≤ (Xk : Int) := of_decide_eq_true zb3; have XhN : Xk < (l0.length : Int) := of_decide_eq_true zb3; obtain ⟨Xqe, XxK, Xt3, Xt4, Xt5, Xt6, Xt7, Xt8, Xt9, XtA⟩ := Yt HR0.out Xk XhM XhN
         obtain rfl : Ej = Xqe := (by injection XxK)
         replace XhM := eq_true XhM; replace XhN := eq_true XhN
         go_wp2
         go_ret
         exact ⟨zb6, zb11⟩
      ·rw [if_neg c6] at H
       have c6b0 : (((Xa l0 Xk).f1) == a1) = false := beq_eq_false_iff_ne.mpr c6; have c6b1 : (((Xa l0 Xk).f1) != a1) = true := bne_iff_ne.mpr c6; have H' := az H; clear H; have LK : 0 ≤ (Xk : Int) := of_decide_eq_true zb3; have LM : Xk < (l0.length : Int) := of_decide_eq_true zb3; obtain ⟨Ej, XhL, XdA, XdB, XdC, XdD, XdE, XdF, XdG, XdH⟩ := Yt HR0.out Xk LK LM
       cases XhL
       replace LK := eq_true LK; replace LM := eq_true LM
       go_wp2
       go_roundg k1
       case measure => have := HK1.out; omega
       case rel => exact ⟨(wrap64 (Xk - 1)), zb6, H', ⟨zb37⟩, zb11⟩
     ·rw [if_neg c5] at H
      exact absurd H (by simp)
    ·rw [if_neg c4] at H
     exact absurd H (by simp)
   ·rw [if_neg c3] at H
    have c3b0 : decide (0 ≤ Xk) = false := decide_eq_false c3; clear c3; obtain rfl := Option.some.inj H
    go_wp2
    go_ret
    exact ⟨zb6, zb11⟩
def MR.f (X4 : Int) (XB : Int) (Jb : Int) (Xo : Int) (Xp : Int) (J5 : Int) (Jn : Int) (J9 : Int) : Option (Int × Int × Int × Int × Int × Int × Int × Int) := some (X4, XB, Jb, Xo, Xp, J5, Jn, J9)
set_option maxHeartbeats 8000000 in
set_option maxRecDepth 100000 in
theorem MR.calls (X4 : Int) (XB : Int) (Jb : Int) (Xo : Int) (Xp : Int) (J5 : Int) (Jn : Int) (J9 : Int) (r1 : Int) (r2 : Int) (r3 : Int) (r4 : Int) (r5 : Int) (r6 : Int) (r7 : Int) (r8 : Int) (w : World) (h : MR.f X4 XB Jb Xo Xp J5 Jn J9 = some (r1, r2, r3, r4, r5, r6, r7, r8)) :
 Calls Tryz.prog 58 #[.agg #[.int .i64 X4, .int .i64 XB, .int .i64 Jb, .int .i64 Xo, .int .i64 Xp, .int .i64 J5, .int .i64 Jn, .int .i64 J9]] w fun e w' => e = .returned (.agg #[.int .i64 r1, .int .i64 r2, .int .i64 r3, .int .i64 r4, .int .i64 r5, .int .i64 r6, .int .i64 r7, .int .i64 r8]) ∧ Below w.heap.size w w' := by
 have hu78 := Tryz.underlying78; have hu76 := Tryz.underlying76; have HB := az (Below.refl w.heap.size w); have H : (some (X4, XB, Jb, Xo, Xp, J5, Jn, J9)) = some (r1, r2, r3, r4, r5, r6, r7, r8) := h; clear h; simp only [Option.some.injEq, Prod.mk.injEq] at H; obtain ⟨rfl, rfl, rfl, rfl, rfl, rfl, rfl, rfl⟩ := H
 go_enter Tryz.func58, Tryz.ntmps58
 go_wp2_with (first | ((with_reducible refine Xn (N := 1) rfl ?_); refine Xl ?hg (N := 1) ?hd (cs := #[.int .i64 X4, .int .i64 XB, .int .i64 Jb, .int .i64 Xo, .int .i64 Xp, .int .i64 J5, .int .i64 Jn, .int .i64 J9]) (t := 78) ?hr ?_; (case hd => rfl); (case hg => rfl); (case hr => exact zb10); intro X0v hg w2 hbox hb; have El := az (hbox); have X0w := az ((zb129 : w.heap.size ≤ X0v)); have GE312 := X0w; replace HB := az (Xc zb1 hb); clear hb hbox hg) | ((with_reducible refine Xn (N := 2) rfl ?_); refine Xl ?hg (N := 2) ?hd (cs := #[.int .i64 0, .int .i64 0, .int .i64 0, .int .i64 0, .int .i64 0, .int .i64 0, .int .i64 0, .int .i64 0]) (t := 76) ?hr ?_; (case hd => rfl); (case hg => rfl); (case hr => exact zb10); intro Xw3 hg w3 hbox hb; have Iz := az (hbox); have X0x := az ((zb131 : w.heap.size ≤ Xw3)); have GE313 := X0x; replace HB := az (Xc zb0 hb); obtain ⟨Xok, Xol⟩ := nb El hg (fun h => by (with_reducible repeat (first | apply bn | apply bd | apply ba)); exact h); replace El := bb El (fun h => by (with_reducible repeat (first | apply bn | apply bd | apply ba)); exact h) hb; clear hb hbox hg) | ((with_reducible refine Xn (N := 3) rfl ?_); refine Xl ?hg (N := 3) ?hd (cs := #[.int .i64 0, .int .i64 0, .int .i64 0, .int .i64 0, .int .i64 0, .int .i64 0, .int .i64 0, .int .i64 0]) (t := 76) ?hr ?_; (case hd => rfl); (case hg => rfl); (case hr => exact zb10); intro X0y hg w4 hbox hb; have Xw4 := az (hbox); have X0z := az ((zb131 : w.heap.size ≤ X0y)); have GE314 := X0z; replace HB := az (Xc zb0 hb); obtain ⟨Xom, Xon⟩ := nb El hg (fun h => by (with_reducible repeat (first | apply bn | apply bd | apply ba)); exact h); replace El := bb El (fun h => by (with_reducible repeat (first | apply bn | apply bd | apply ba)); exact h) hb; obtain ⟨XaQ, Xoo⟩ := nb Iz hg (fun h => by (with_reducible repeat (first | apply bn | apply bd | apply ba)); exact h); replace Iz := bb Iz (fun h => by (with_reducible repeat (first | apply bn | apply bd | apply ba)); exact h) hb; clear hb hbox hg; have hnb5 := Xok.out; have hnc5 := Xol.out; have hnb6 := Xom.out; have hnc6 := Xon.out; obtain ⟨Xc9, XcA, XcB, XcC, XcD, Xhp, Xhq, Xhr⟩ := cz8 El; obtain ⟨XcE, XcF, XcG, XcH, XcI, Xhs, Xht, Xhu⟩ := fz8 El; have hnb8 := Xoo.out; have hnc8 := XaQ.out; obtain ⟨WY, WZ, Pb, LC, LD, I1, I4, I5⟩ := cz8 Xw4; obtain ⟨Pd, Pe, Pf, LF, LG, I6, I7, I8⟩ := fz8 Xw4; obtain ⟨D6, D7, D8, Gz, G5, X1X, X1Y, X1Z⟩ := cz8 Iz; obtain ⟨D9, DC, DD, G6, G7, X2a, X2b⟩ := fz7 Iz; have X2c := Xd Iz.out 7))
 refine bodyPost_ret (results_cell_row rfl _ _ Xw3 76 #[.int .i64 X4, .int .i64 XB, .int .i64 Jb, .int .i64 Xo, .int .i64 Xp, .int .i64 J5, .int .i64 Jn, .int .i64 J9] (0, 0) _ rfl (by (with_reducible repeat (first | apply bn | apply bd | apply ba)); refine XY (cs := #[.int .i64 X4, .int .i64 XB, .int .i64 Jb, .int .i64 Xo, .int .i64 Xp, .int .i64 J5, .int .i64 Jn, .int .i64 0]) ?_ 7 _ rfl; (with_reducible repeat (first | apply bn | apply bd | apply ba)); refine XY (cs := #[.int .i64 X4, .int .i64 XB, .int .i64 Jb, .int .i64 Xo, .int .i64 Xp, .int .i64 J5, .int .i64 0, .int .i64 0]) ?_ 6 _ rfl; (with_reducible repeat (first | apply bn | apply bd | apply ba)); refine XY (cs := #[.int .i64 X4, .int .i64 XB, .int .i64 Jb, .int .i64 Xo, .int .i64 Xp, .int .i64 0, .int .i64 0, .int .i64 0]) ?_ 5 _ rfl; (with_reducible repeat (first | apply bn | apply bd | apply ba)); refine XY (cs := #[.int .i64 X4, .int .i64 XB, .int .i64 Jb, .int .i64 Xo, .int .i64 0, .int .i64 0, .int .i64 0, .int .i64 0]) ?_ 4 _ rfl; (with_reducible repeat (first | apply bn | apply bd | apply ba)); refine XY (cs := #[.int .i64 X4, .int .i64 XB, .int .i64 Jb, .int .i64 0, .int .i64 0, .int .i64 0, .int .i64 0, .int .i64 0]) ?_ 3 _ rfl; (with_reducible repeat (first | apply bn | apply bd | apply ba)); refine XY (cs := #[.int .i64 X4, .int .i64 XB, .int .i64 0, .int .i64 0, .int .i64 0, .int .i64 0, .int .i64 0, .int .i64 0]) ?_ 2 _ rfl; (with_reducible repeat (first | apply bn | apply bd | apply ba)); refine XY (cs := #[.int .i64 X4, .int .i64 0, .int .i64 0, .int .i64 0, .int .i64 0, .int .i64 0, .int .i64 0, .int .i64 0]) ?_ 1 _ rfl; (with_reducible repeat (first | apply bn | apply bd | apply ba)); refine XY (cs := #[.int .i64 0, .int .i64 0, .int .i64 0, .int .i64 0, .int .i64 0, .int .i64 0, .int .i64 0, .int .i64 0]) ?_ 0 _ rfl; (repeat (first | (with_reducible first | apply bn | apply bd | apply ba) | apply bf XaQ)); exact Iz.out) Tryz.underlying76 rfl zb9) rfl ?_
 exact ⟨zb4, zb0⟩
def Zg.l0 : Nat → List (S78) → List (S76) → Int → Option ((List (S76)))
 | 0, _, _, _ => none
 | k + 1, x0, x3, x4 => if x4 < (x0.length : Int) then (if 0 ≤ x4 then ((MR.f ((ZV x0 x4).f0) ((ZV x0 x4).f1) ((ZV x0 x4).f2) ((ZV x0 x4).f3) ((ZV x0 x4).f4) ((ZV x0 x4).f5) ((ZV x0 x4).f6) ((ZV x0 x4).f7)).bind fun Em => (if x4 < (x3.length : Int) then (Zg.l0 k x0 (x3.set (x4 : Int).toNat (⟨Em.1, Em.2.1, Em.2.2.1, Em.2.2.2.1, Em.2.2.2.2.1, Em.2.2.2.2.2.1, Em.2.2.2.2.2.2.1, Em.2.2.2.2.2.2.2⟩ : S76)) (wrap64 (x4 + 1))) else (none))) else (none)) else (some x3)
def Zg.f (k : Nat) (l0 : List (S78)) : Option ((List (S76))) := if 0 ≤ (l0.length : Int) then (if ((l0.length : Int) : Int).toNat ≤ 4398046511104 then (Zg.l0 k l0 (List.replicate ((l0.length : Int) : Int).toNat z76) 0) else (none)) else (none)
set_option maxHeartbeats 8000000 in
set_option maxRecDepth 100000 in
theorem Zg.calls (k : Nat) (A0 : Option Addr) (c0 : Nat) (l0 : List (S78)) (r : List (S76)) (w : World) (hr0 : Kd.C k78 w A0 l0.length l0) (hc0 : l0.length ≤ c0) (h : Zg.f k l0 = some r) :
 Calls Tryz.prog 33 #[.slice A0 l0.length c0] w fun e w' => ∃ v0_ : Value, e = .returned (v0_) ∧ Kd.R k76 76 w' w.heap.size (fun _ => True) v0_ r ∧ Below w.heap.size w w' := by
 have hu78 := Tryz.underlying78; have hu76 := Tryz.underlying76; have HR0 := az hr0; have HC0 := az hc0; clear hr0 hc0; have HB := az (Below.refl w.heap.size w); have H : (if 0 ≤ (l0.length : Int) then (if ((l0.length : Int) : Int).toNat ≤ 4398046511104 then (Zg.l0 k l0 (List.replicate ((l0.length : Int) : Int).toNat z76) 0) else (none)) else (none)) = some r := h; clear h
 by_cases c2 : 0 ≤ (l0.length : Int)
 ·rw [if_pos c2] at H
  have c2b0 := eq_true c2; have c2b1 : decide (0 ≤ (l0.length : Int)) = true := decide_eq_true c2; clear c2
  by_cases c3 : ((l0.length : Int) : Int).toNat ≤ 4398046511104
  ·rw [if_pos c3] at H
   have c3b0 := eq_true c3; have c3b1 : decide (((l0.length : Int) : Int).toNat ≤ 4398046511104) = true := decide_eq_true c3; clear c3
   obtain ⟨y315, hy315⟩ : ∃ y_ : List (S76), y_ = (List.replicate ((l0.length : Int) : Int).toNat z76) := ⟨_, rfl⟩
   replace H : (Zg.l0 k l0 y315 0) = some r := by first | (rw [hy315]; with_reducible exact H) | (have H2_ := (Option.bind_some _ _).symm.trans H; rw [hy315]; with_reducible exact H2_) | (have H2_ := (Option.bind_some _ _).symm.trans H; with_reducible exact H2_) | with_reducible exact H | (rw [hy315]; exact H) | exact H
   have Ny315 := az hy315; clear hy315; have H' := az H; clear H
   go_enter Tryz.func33, Tryz.ntmps33
   go_wp2_with (first | ((with_reducible refine Xn (N := 7) rfl ?_); refine Kd.XeM k76 _ 76 rfl (N := 7) rfl 29 _ _ rfl (l0.length : Int) rfl rfl Tryz.underlying29 (.agg #[(.int .i64 0), (.int .i64 0), (.int .i64 0), (.int .i64 0), (.int .i64 0), (.int .i64 0), (.int .i64 0), (.int .i64 0)]) 64 QA rfl (by decide) (by omega) z76 (ok := fun _ => True) (okp := fun _ => True) (XnC _ _ _ z76 ) (fun _ hk => hk) trivial (of_decide_eq_true zb3) (Nat.le_trans (Nat.mul_le_mul_right _ (of_decide_eq_true zb3 : (l0.length : Int).toNat ≤ 4398046511104)) (by omega)) (Below.refl _ _) (Nat.le_refl _) ?_; intro v316 w4 ho5 hb hg_ hnew_; clear hg_ hnew_; (first | rw [← Ny315.out] at ho5 | (simp only [Int.reduceToNat] at ho5; rw [← Ny315.out] at ho5)); have X00 := az (Kd.Zh ho5 (Xv zb1)); replace HB := az (Xc zb1 hb); clear hb ho5))
   go_loopg [4] k (fun kq v4 w' => ∃ (Xt : List (S76)) (XG : Int), v4 = .int .i64 XG ∧ Aside0 (Zg.l0 kq l0 Xt XG = some r) ∧ Aside0 (kq ≤ k) ∧ Aside0 (Kd.R k76 76 w' w.heap.size (fun _ => True) v316 Xt) ∧ Aside0 (Below w.heap.size w w'))
   case atStart => exact ⟨(y315), (0), zb6, H', ⟨Nat.le_refl _⟩, ⟨by (with_reducible repeat (first | apply Kd.XU | apply Kd.XX | apply Kd.Yj)); exact X00.out⟩, ⟨zb1⟩⟩
   case round =>
    clear H';(try clear c2);(try clear c2b0);(try clear c2b1);(try clear p2);(try clear c3);(try clear c3b0);(try clear c3b1)
    obtain ⟨Xt, XG, rfl, HA, HK1, HO_3, HB⟩ := hrel
    cases gk with
    | zero => exact absurd HA.out (by simp [Zg.l0])
    | succ k1 =>
     have H := HA.out; clear HA; simp only [Zg.l0] at H
     by_cases c6 : XG < (l0.length : Int)
     ·rw [if_pos c6] at H
      have c6b0 : decide (XG < (l0.length : Int)) = true := decide_eq_true c6; clear c6
      by_cases c7 : 0 ≤ XG
      ·rw [if_pos c7] at H
       have c7b0 : decide (0 ≤ XG) = true := decide_eq_true c7; clear c7; replace H := Option.bind_eq_some_iff.mp H; obtain ⟨⟨XhO, XhP, XhQ, XhR, XhS, XhT, XhU, XhV⟩, A80, H⟩ := H; replace H : (if XG < (Xt.length : Int) then (Zg.l0 k1 l0 (Xt.set (XG : Int).toNat (⟨XhO, XhP, XhQ, XhR, XhS, XhT, XhU, XhV⟩ : S76)) (wrap64 (XG + 1))) else (none)) = some r := H; have A8 := az A80; clear A80
       by_cases c9 : XG < (Xt.length : Int)
       ·rw [if_pos c9] at H
        have c9b0 : decide (XG < (Xt.length : Int)) = true := decide_eq_true c9; clear c9
        obtain ⟨XxL, hy327⟩ : ∃ y_ : List (S76), y_ = (Xt.set (XG : Int).toNat (⟨XhO, XhP, XhQ, XhR, XhS, XhT, XhU, XhV⟩ : S76)) := ⟨_, rfl⟩
        replace H : (Zg.l0 k1 l0 XxL (wrap64 (XG + 1))) = some r := by first | (rw [hy327]; with_reducible exact H) | (have H2_ := (Option.bind_some _ _).symm.trans H; rw [hy327]; with_reducible exact H2_) | (have H2_ := (Option.bind_some _ _).symm.trans H; with_reducible exact H2_) | with_reducible exact H | (rw [hy327]; exact H) | exact H
        have Ny327 := az hy327; clear hy327; have H' := az H; clear H; have XxM : 0 ≤ (XG : Int) := of_decide_eq_true zb3; have XxN : XG < (l0.length : Int) := of_decide_eq_true zb3; obtain ⟨ad318, e318, XkU, XkV, XkW, XkX, XkY, XkZ, Xla, Xlb⟩ := Xzi HR0.out XG XxM XxN
        cases e318
        replace XkU := cb HB XkU; replace XkV := cb HB XkV; replace XkW := cb HB XkW; replace XkX := cb HB XkX; replace XkY := cb HB XkY; replace XkZ := cb HB XkZ; replace Xla := cb HB Xla; replace Xlb := cb HB Xlb; replace XxM := eq_true XxM; replace XxN := eq_true XxN
        go_wp2_with (first | ((with_reducible refine Xi (f := 58) rfl ?_); refine XI (some 20) rfl rfl Tryz.func58 zb9 rfl #[.agg #[.int .i64 ((ZV l0 XG).f0), .int .i64 ((ZV l0 XG).f1), .int .i64 ((ZV l0 XG).f2), .int .i64 ((ZV l0 XG).f3), .int .i64 ((ZV l0 XG).f4), .int .i64 ((ZV l0 XG).f5), .int .i64 ((ZV l0 XG).f6), .int .i64 ((ZV l0 XG).f7)]] rfl zb2 ?_; (with_reducible refine (MR.calls ((ZV l0 XG).f0) ((ZV l0 XG).f1) ((ZV l0 XG).f2) ((ZV l0 XG).f3) ((ZV l0 XG).f4) ((ZV l0 XG).f5) ((ZV l0 XG).f6) ((ZV l0 XG).f7) XhO XhP XhQ XhR XhS XhT XhU XhV _ A8.out).mono ?_); rintro e w11 ⟨rfl, hb⟩; refine ⟨_, rfl, ?_⟩; replace HO_3 := az (Kd.X3 zb21 hb); replace HB := az (Xc zb1 hb); (try clear hb); (try clear hb2); (try clear hk); (try clear hi); have p10 : 0 ≤ (XG : Int) := of_decide_eq_true zb3; have q10 : (XG : Int) < ((Xt.length : Int) : Int) := of_decide_eq_true zb3; obtain ⟨go10, Cw, eo10, Xqf, gl10, cl10, HG10⟩ := Kd.CK HO_3.out (by omega); (first | cases eo10 | (injection eo10 with ea_ en_ ec_; (first | subst ea_ | (injection ea_ with ea_; subst ea_)); subst ec_; clear en_)); have GB10 := az Xqf; have GG10 := az HG10; clear Xqf gl10 HG10; obtain ⟨ce10, hcl10, hM10, hcc10, hfr10⟩ := Kd.U0 HO_3.out z76 (XG : Int) p10 q10; obtain rfl := Xch hM10; have XxO : w11.cell? ⟨go10, (XG : Int).toNat * 8, none⟩ = some (.int .i64 ((Xa Xt XG).f0)) := hcc10 0 _ rfl; have XxP : w11.cell? ⟨go10, (XG : Int).toNat * 8 + 1, none⟩ = some (.int .i64 ((Xa Xt XG).f1)) := hcc10 1 _ rfl; have XxQ : w11.cell? ⟨go10, (XG : Int).toNat * 8 + 2, none⟩ = some (.int .i64 ((Xa Xt XG).f2)) := hcc10 2 _ rfl; have hx10_3 : w11.cell? ⟨go10, (XG : Int).toNat * 8 + 3, none⟩ = some (.int .i64 ((Xa Xt XG).f3)) := hcc10 3 _ rfl; have hx10_4 : w11.cell? ⟨go10, (XG : Int).toNat * 8 + 4, none⟩ = some (.int .i64 ((Xa Xt XG).f4)) := hcc10 4 _ rfl; have hx10_5 : w11.cell? ⟨go10, (XG : Int).toNat * 8 + 5, none⟩ = some (.int .i64 ((Xa Xt XG).f5)) := hcc10 5 _ rfl; have hx10_6 : w11.cell? ⟨go10, (XG : Int).toNat * 8 + 6, none⟩ = some (.int .i64 ((Xa Xt XG).f6)) := hcc10 6 _ rfl; have hx10_7 : w11.cell? ⟨go10, (XG : Int).toNat * 8 + 7, none⟩ = some (.int .i64 ((Xa Xt XG).f7)) := hcc10 7 _ rfl; have hf10_0 : w11.frozen? ⟨go10, (XG : Int).toNat * 8, none⟩ = false := hfr10 0; have hf10_1 : w11.frozen? ⟨go10, (XG : Int).toNat * 8 + 1, none⟩ = false := hfr10 1; have hf10_2 : w11.frozen? ⟨go10, (XG : Int).toNat * 8 + 2, none⟩ = false := hfr10 2; have hf10_3 : w11.frozen? ⟨go10, (XG : Int).toNat * 8 + 3, none⟩ = false := hfr10 3; have hf10_4 : w11.frozen? ⟨go10, (XG : Int).toNat * 8 + 4, none⟩ = false := hfr10 4; have hf10_5 : w11.frozen? ⟨go10, (XG : Int).toNat * 8 + 5, none⟩ = false := hfr10 5; have hf10_6 : w11.frozen? ⟨go10, (XG : Int).toNat * 8 + 6, none⟩ = false := hfr10 6; have hf10_7 : w11.frozen? ⟨go10, (XG : Int).toNat * 8 + 7, none⟩ = false := hfr10 7; clear hcl10 hcc10 hfr10 hM10; replace p10 := eq_true p10; replace q10 := eq_true q10; have HX12 := az (show Kd.R k76 76 w11 w.heap.size (fun _ => True) (.slice (some ⟨go10, 0, none⟩) Xt.length Cw) Xt from zb21); obtain ⟨ce12, hcl12, hM12, hcc12, hfr12⟩ := Kd.U0 HX12.out z76 (XG : Int) (of_decide_eq_true zb3) (by have h_ : (XG : Int) < ((Xt.length : Int) : Int) := of_decide_eq_true zb3; first | exact h_ | (have e_ := (Kd.XN HO_3.out).1; omega) | simpa using h_); obtain rfl := Xch hM12; have HP12 := Kd.XgJ HX12.out (XG : Int) (of_decide_eq_true zb3) (by have h_ : (XG : Int) < ((Xt.length : Int) : Int) := of_decide_eq_true zb3; first | exact h_ | (have e_ := (Kd.XN HO_3.out).1; omega) | simpa using h_) (seg := [.int .i64 XhO, .int .i64 XhP, .int .i64 XhQ, .int .i64 XhR, .int .i64 XhS, .int .i64 XhT, .int .i64 XhU, .int .i64 XhV]) (j := 0) hcl12 hcc12 (show 8 ≤ 8 from by decide) (x' := (⟨XhO, XhP, XhQ, XhR, XhS, XhT, XhU, XhV⟩ : S76)) (XnC _ _ _ (⟨XhO, XhP, XhQ, XhR, XhS, XhT, XhU, XhV⟩ : S76) ) (fun _ hk => hk); have XhW := hcc12 0 _ rfl; (try simp only [show (k76).sz = 8 from rfl, Nat.mul_one, Nat.add_zero] at XhW); have hf12_0 := hfr12 0; (try simp only [show (k76).sz = 8 from rfl, Nat.mul_one, Nat.add_zero] at hf12_0); have XhX := hcc12 1 _ rfl; (try simp only [show (k76).sz = 8 from rfl, Nat.mul_one, Nat.add_zero] at XhX); have hf12_1 := hfr12 1; (try simp only [show (k76).sz = 8 from rfl, Nat.mul_one, Nat.add_zero] at hf12_1); have XhY := hcc12 2 _ rfl; (try simp only [show (k76).sz = 8 from rfl, Nat.mul_one, Nat.add_zero] at XhY); have hf12_2 := hfr12 2; (try simp only [show (k76).sz = 8 from rfl, Nat.mul_one, Nat.add_zero] at hf12_2); have XxR := hcc12 3 _ rfl; (try simp only [show (k76).sz = 8 from rfl, Nat.mul_one, Nat.add_zero] at XxR); have hf12_3 := hfr12 3; (try simp only [show (k76).sz = 8 from rfl, Nat.mul_one, Nat.add_zero] at hf12_3); have XxS := hcc12 4 _ rfl; (try simp only [show (k76).sz = 8 from rfl, Nat.mul_one, Nat.add_zero] at XxS); have hf12_4 := hfr12 4; (try simp only [show (k76).sz = 8 from rfl, Nat.mul_one, Nat.add_zero] at hf12_4); have XxT := hcc12 5 _ rfl; (try simp only [show (k76).sz = 8 from rfl, Nat.mul_one, Nat.add_zero] at XxT); have hf12_5 := hfr12 5; (try simp only [show (k76).sz = 8 from rfl, Nat.mul_one, Nat.add_zero] at hf12_5); have XxU := hcc12 6 _ rfl; (try simp only [show (k76).sz = 8 from rfl, Nat.mul_one, Nat.add_zero] at XxU); have hf12_6 := hfr12 6; (try simp only [show (k76).sz = 8 from rfl, Nat.mul_one, Nat.add_zero] at hf12_6); have XxV := hcc12 7 _ rfl; (try simp only [show (k76).sz = 8 from rfl, Nat.mul_one, Nat.add_zero] at XxV); have hf12_7 := hfr12 7; (try simp only [show (k76).sz = 8 from rfl, Nat.mul_one, Nat.add_zero] at hf12_7); clear hcl12 hcc12 hfr12 hM12) | ((with_reducible refine MU (t := 76) (p := 21) rfl ?_); refine Uw (t := 76) (p := 21) (v := ?vo_w13) (w1 := ((((((((w11.setCell ⟨go10, (XG : Int).toNat * 8, none⟩ (.int .i64 XhO)).setCell ⟨go10, (XG : Int).toNat * 8 + 1, none⟩ (.int .i64 XhP)).setCell ⟨go10, (XG : Int).toNat * 8 + 2, none⟩ (.int .i64 XhQ)).setCell ⟨go10, (XG : Int).toNat * 8 + 3, none⟩ (.int .i64 XhR)).setCell ⟨go10, (XG : Int).toNat * 8 + 4, none⟩ (.int .i64 XhS)).setCell ⟨go10, (XG : Int).toNat * 8 + 5, none⟩ (.int .i64 XhT)).setCell ⟨go10, (XG : Int).toNat * 8 + 6, none⟩ (.int .i64 XhU)).setCell ⟨go10, (XG : Int).toNat * 8 + 7, none⟩ (.int .i64 XhV))) ?hg ?ho ?hn ?hr ?_; (case ho => rfl); (case hg => rfl); (case hn => rfl); (case hr => exact zb10); intro w13 hw; have hg : w11.grownBy w13 (some go10) := (by rw [hw]; exact HP12.2); have hp_ : Kd.R k76 76 w13 w.heap.size (fun _ => True) (.slice (some ⟨go10, 0, none⟩) Xt.length Cw) XxL := (by rw [hw, Ny327.out]; exact HP12.1); clear HP12; replace HO_3 := az (hp_); replace HB := az ((by rw [hw]; exact Xz (Xz (Xz (Xz (Xz (Xz (Xz (Xz (HB.out) GB10.out) GB10.out) GB10.out) GB10.out) GB10.out) GB10.out) GB10.out) GB10.out : Below w.heap.size w w13)); clear hg hw hp_))
        go_roundg k1
        case measure => have := HK1.out; omega
        case rel => exact ⟨(XxL), (wrap64 (XG + 1)), zb6, H', ⟨zb37⟩, ⟨zb21⟩, ⟨zb1⟩⟩
       ·rw [if_neg c9] at H
        exact absurd H (by simp)
      ·rw [if_neg c7] at H
       exact absurd H (by simp)
     ·rw [if_neg c6] at H
      have c6b0 : decide (XG < (l0.length : Int)) = false := decide_eq_false c6; clear c6; obtain rfl := Option.some.inj H
      go_wp2
      go_ret
      exact ⟨_, zb4, zb21, zb1⟩
  ·rw [if_neg c3] at H
   exact absurd H (by simp)
 ·rw [if_neg c2] at H
  exact absurd H (by simp)
def Gm.f (X4 : Int) (XB : Int) (Jb : Int) (Xo : Int) (Xp : Int) (J5 : Int) (Jn : Int) (J9 : Int) (Zu : Int) (Z5 : Int) (Vq : Int) (Zj : Int) (ZW : Int) (ZR : Int) (Vr : Int) (Vs : Int) : Option (Bool) := if X4 = Zu then (if XB = Z5 then (if Jb = Vq then (if Xo = Zj then (if Xp = ZW then (if J5 = ZR then (if Jn = Vr then (if J9 = Vs then (some true) else (some false)) else (some false)) else (some false)) else (some false)) else (some false)) else (some false)) else (some false)) else (some false)
set_option maxHeartbeats 8000000 in
set_option maxRecDepth 100000 in
theorem Gm.calls (X4 : Int) (XB : Int) (Jb : Int) (Xo : Int) (Xp : Int) (J5 : Int) (Jn : Int) (J9 : Int) (Zu : Int) (Z5 : Int) (Vq : Int) (Zj : Int) (ZW : Int) (ZR : Int) (Vr : Int) (Vs : Int) (r : Bool) (w : World) (h : Gm.f X4 XB Jb Xo Xp J5 Jn J9 Zu Z5 Vq Zj ZW ZR Vr Vs = some r) :
 Calls Tryz.prog 63 #[.agg #[.int .i64 X4, .int .i64 XB, .int .i64 Jb, .int .i64 Xo, .int .i64 Xp, .int .i64 J5, .int .i64 Jn, .int .i64 J9], .agg #[.int .i64 Zu, .int .i64 Z5, .int .i64 Vq, .int .i64 Zj, .int .i64 ZW, .int .i64 ZR, .int .i64 Vr, .int .i64 Vs]] w fun e w' => e = .returned (.bool r) ∧ Below w.heap.size w w' := by
 have hu76 := Tryz.underlying76; have HB := az (Below.refl w.heap.size w); have H : (if X4 = Zu then (if XB = Z5 then (if Jb = Vq then (if Xo = Zj then (if Xp = ZW then (if J5 = ZR then (if Jn = Vr then (if J9 = Vs then (some true) else (some false)) else (some false)) else (some false)) else (some false)) else (some false)) else (some false)) else (some false)) else (some false)) = some r := h; clear h
 by_cases c3 : X4 = Zu
 ·rw [if_pos c3] at H
  have c3b0 : (X4 == Zu) = true := beq_iff_eq.mpr c3; have c3b1 : (X4 != Zu) = false := bne_eq_false_iff_eq.mpr c3; clear c3
  by_cases c4 : XB = Z5
  ·rw [if_pos c4] at H
   have c4b0 : (XB == Z5) = true := beq_iff_eq.mpr c4; have c4b1 : (XB != Z5) = false := bne_eq_false_iff_eq.mpr c4; clear c4
   by_cases c5 : Jb = Vq
   ·rw [if_pos c5] at H
    have c5b0 : (Jb == Vq) = true := beq_iff_eq.mpr c5; have c5b1 : (Jb != Vq) = false := bne_eq_false_iff_eq.mpr c5; clear c5
    by_cases c6 : Xo = Zj
    ·rw [if_pos c6] at H
     have c6b0 : (Xo == Zj) = true := beq_iff_eq.mpr c6; have c6b1 : (Xo != Zj) = false := bne_eq_false_iff_eq.mpr c6; clear c6
     by_cases c7 : Xp = ZW
     ·rw [if_pos c7] at H
      have c7b0 : (Xp == ZW) = true := beq_iff_eq.mpr c7; have c7b1 : (Xp != ZW) = false := bne_eq_false_iff_eq.mpr c7; clear c7
      by_cases c8 : J5 = ZR
      ·rw [if_pos c8] at H
       have c8b0 : (J5 == ZR) = true := beq_iff_eq.mpr c8; have c8b1 : (J5 != ZR) = false := bne_eq_false_iff_eq.mpr c8; clear c8
       by_cases c9 : Jn = Vr
       ·rw [if_pos c9] at H
        have c9b0 : (Jn == Vr) = true := beq_iff_eq.mpr c9; have c9b1 : (Jn != Vr) = false := bne_eq_false_iff_eq.mpr c9; clear c9
        by_cases c10 : J9 = Vs
        ·rw [if_pos c10] at H
         have Vu : (J9 == Vs) = true := beq_iff_eq.mpr c10; have Nn : (J9 != Vs) = false := bne_eq_false_iff_eq.mpr c10; clear c10; obtain rfl := Option.some.inj H
         go_enter Tryz.func63, Tryz.ntmps63
         go_wp2_with (first | ((with_reducible refine Xn (N := 2) rfl ?_); refine Xl ?hg (N := 2) ?hd (cs := #[.int .i64 X4, .int .i64 XB, .int .i64 Jb, .int .i64 Xo, .int .i64 Xp, .int .i64 J5, .int .i64 Jn, .int .i64 J9]) (t := 76) ?hr ?_; (case hd => rfl); (case hg => rfl); (case hr => exact zb10); intro Uf hg w11 hbox hb; have ZF := az (hbox); have Ug := az ((zb129 : w.heap.size ≤ Uf)); have En := Ug; replace HB := az (Xc zb1 hb); clear hb hbox hg) | ((with_reducible refine Xn (N := 3) rfl ?_); refine Xl ?hg (N := 3) ?hd (cs := #[.int .i64 Zu, .int .i64 Z5, .int .i64 Vq, .int .i64 Zj, .int .i64 ZW, .int .i64 ZR, .int .i64 Vr, .int .i64 Vs]) (t := 76) ?hr ?_; (case hd => rfl); (case hg => rfl); (case hr => exact zb10); intro Uh hg w12 hbox hb; have JI := az (hbox); have Ui := az ((zb131 : w.heap.size ≤ Uh)); have Eo := Ui; replace HB := az (Xc zb0 hb); obtain ⟨Jq, Jr⟩ := nb ZF hg (fun h => by (with_reducible repeat (first | apply bn | apply bd | apply ba)); exact h); replace ZF := bb ZF (fun h => by (with_reducible repeat (first | apply bn | apply bd | apply ba)); exact h) hb; clear hb hbox hg; have Xqg := Jq.out; have Xqh := Jr.out; obtain ⟨FP, FQ, FR, U6, U7, XdI, XdJ, XdK⟩ := cz8 ZF; obtain ⟨FT, FU, FV, U8, U9, XdL, XdM, XdN⟩ := fz8 ZF; obtain ⟨Rl, Rm, Rn, Xlc, Xld, X2d, X2e, X2f⟩ := cz8 JI; obtain ⟨Ro, Rp, Rq, Xle, Xlf, X2g, X2h⟩ := fz7 JI; have X2i := Xd JI.out 7))
         go_ret
         exact ⟨zb4, zb0⟩
        ·rw [if_neg c10] at H
         have Vu : (J9 == Vs) = false := beq_eq_false_iff_ne.mpr c10; have Nn : (J9 != Vs) = true := bne_iff_ne.mpr c10; obtain rfl := Option.some.inj H
         go_enter Tryz.func63, Tryz.ntmps63
         go_wp2_with (first | ((with_reducible refine Xn (N := 2) rfl ?_); refine Xl ?hg (N := 2) ?hd (cs := #[.int .i64 X4, .int .i64 XB, .int .i64 Jb, .int .i64 Xo, .int .i64 Xp, .int .i64 J5, .int .i64 Jn, .int .i64 J9]) (t := 76) ?hr ?_; (case hd => rfl); (case hg => rfl); (case hr => exact zb10); intro Uf hg w16 hbox hb; have ZF := az (hbox); have Ug := az ((zb129 : w.heap.size ≤ Uf)); have En := Ug; replace HB := az (Xc zb1 hb); clear hb hbox hg) | ((with_reducible refine Xn (N := 3) rfl ?_); refine Xl ?hg (N := 3) ?hd (cs := #[.int .i64 Zu, .int .i64 Z5, .int .i64 Vq, .int .i64 Zj, .int .i64 ZW, .int .i64 ZR, .int .i64 Vr, .int .i64 Vs]) (t := 76) ?hr ?_; (case hd => rfl); (case hg => rfl); (case hr => exact zb10); intro Uh hg w17 hbox hb; have JI := az (hbox); have Ui := az ((zb131 : w.heap.size ≤ Uh)); have Eo := Ui; replace HB := az (Xc zb0 hb); obtain ⟨Jq, Jr⟩ := nb ZF hg (fun h => by (with_reducible repeat (first | apply bn | apply bd | apply ba)); exact h); replace ZF := bb ZF (fun h => by (with_reducible repeat (first | apply bn | apply bd | apply ba)); exact h) hb; clear hb hbox hg; have Xwv := Jq.out; have Xww := Jr.out; obtain ⟨Gp, Gq, Gr, Km, Kn, Xjz, Xj0, Xj1⟩ := cz8 ZF; obtain ⟨Gs, Gt, Gu, Ko, Kq, Xj2, Xj3, Xj4⟩ := fz8 ZF; obtain ⟨Oq, Ot, Ou, Xlg, Xlh, X2j, X2k, X2l⟩ := cz8 JI; obtain ⟨Ov, Ow, Ox, Xli, Xlj, X2m, X2n⟩ := fz7 JI; have X2o := Xd JI.out 7))
         go_ret
         exact ⟨zb4, zb0⟩
       ·rw [if_neg c9] at H
        have c9b0 : (Jn == Vr) = false := beq_eq_false_iff_ne.mpr c9; have c9b1 : (Jn != Vr) = true := bne_iff_ne.mpr c9; obtain rfl := Option.some.inj H
        go_enter Tryz.func63, Tryz.ntmps63
        go_wp2_with (first | ((with_reducible refine Xn (N := 2) rfl ?_); refine Xl ?hg (N := 2) ?hd (cs := #[.int .i64 X4, .int .i64 XB, .int .i64 Jb, .int .i64 Xo, .int .i64 Xp, .int .i64 J5, .int .i64 Jn, .int .i64 J9]) (t := 76) ?hr ?_; (case hd => rfl); (case hg => rfl); (case hr => exact zb10); intro Uf hg w21 hbox hb; have ZF := az (hbox); have Ug := az ((zb129 : w.heap.size ≤ Uf)); have En := Ug; replace HB := az (Xc zb1 hb); clear hb hbox hg) | ((with_reducible refine Xn (N := 3) rfl ?_); refine Xl ?hg (N := 3) ?hd (cs := #[.int .i64 Zu, .int .i64 Z5, .int .i64 Vq, .int .i64 Zj, .int .i64 ZW, .int .i64 ZR, .int .i64 Vr, .int .i64 Vs]) (t := 76) ?hr ?_; (case hd => rfl); (case hg => rfl); (case hr => exact zb10); intro Uh hg w22 hbox hb; have JI := az (hbox); have Ui := az ((zb131 : w.heap.size ≤ Uh)); have Eo := Ui; replace HB := az (Xc zb0 hb); obtain ⟨Jq, Jr⟩ := nb ZF hg (fun h => by (with_reducible repeat (first | apply bn | apply bd | apply ba)); exact h); replace ZF := bb ZF (fun h => by (with_reducible repeat (first | apply bn | apply bd | apply ba)); exact h) hb; clear hb hbox hg; have hnb23 := Jq.out; have hnc23 := Jr.out; obtain ⟨XdO, XdP, XdQ, XdR, XdS, X2p, X2q, X2r⟩ := cz8 ZF; obtain ⟨XdT, XdU, XdV, XdW, XdX, X2s, X2t, X2u⟩ := fz8 ZF; obtain ⟨Xki, Xkj, Xkk, Xs7, Xs8, X2v, X2w, X2x⟩ := cz8 JI; obtain ⟨Xkl, Xkm, Xkn, Xs9, XsA, X2y, X2z⟩ := fz7 JI; have X20 := Xd JI.out 7))
        go_ret
        exact ⟨zb4, zb0⟩
      ·rw [if_neg c8] at H
       have c8b0 : (J5 == ZR) = false := beq_eq_false_iff_ne.mpr c8; have c8b1 : (J5 != ZR) = true := bne_iff_ne.mpr c8; obtain rfl := Option.some.inj H
       go_enter Tryz.func63, Tryz.ntmps63
       go_wp2_with (first | ((with_reducible refine Xn (N := 2) rfl ?_); refine Xl ?hg (N := 2) ?hd (cs := #[.int .i64 X4, .int .i64 XB, .int .i64 Jb, .int .i64 Xo, .int .i64 Xp, .int .i64 J5, .int .i64 Jn, .int .i64 J9]) (t := 76) ?hr ?_; (case hd => rfl); (case hg => rfl); (case hr => exact zb10); intro Uf hg w26 hbox hb; have ZF := az (hbox); have Ug := az ((zb129 : w.heap.size ≤ Uf)); have En := Ug; replace HB := az (Xc zb1 hb); clear hb hbox hg) | ((with_reducible refine Xn (N := 3) rfl ?_); refine Xl ?hg (N := 3) ?hd (cs := #[.int .i64 Zu, .int .i64 Z5, .int .i64 Vq, .int .i64 Zj, .int .i64 ZW, .int .i64 ZR, .int .i64 Vr, .int .i64 Vs]) (t := 76) ?hr ?_; (case hd => rfl); (case hg => rfl); (case hr => exact zb10); intro Uh hg w27 hbox hb; have JI := az (hbox); have Ui := az ((zb131 : w.heap.size ≤ Uh)); have Eo := Ui; replace HB := az (Xc zb0 hb); obtain ⟨Jq, Jr⟩ := nb ZF hg (fun h => by (with_reducible repeat (first | apply bn | apply bd | apply ba)); exact h); replace ZF := bb ZF (fun h => by (with_reducible repeat (first | apply bn | apply bd | apply ba)); exact h) hb; clear hb hbox hg; have hnb28 := Jq.out; have hnc28 := Jr.out; obtain ⟨XtB, XtC, XtD, XtE, XtF, X21, X22, X23⟩ := cz8 ZF; obtain ⟨XtG, XtH, XtI, XtJ, XtK, X24, X25, X26⟩ := fz8 ZF; obtain ⟨XjZ, Xka, Xkb, XsB, XsC, X27, X28, X29⟩ := cz8 JI; obtain ⟨Xkc, Xkd, Xke, XsD, XsE, X2A, X2B⟩ := fz7 JI; have X2C := Xd JI.out 7))
       go_ret
       exact ⟨zb4, zb0⟩
     ·rw [if_neg c7] at H
      have c7b0 : (Xp == ZW) = false := beq_eq_false_iff_ne.mpr c7; have c7b1 : (Xp != ZW) = true := bne_iff_ne.mpr c7; obtain rfl := Option.some.inj H
      go_enter Tryz.func63, Tryz.ntmps63
      go_wp2_with (first | ((with_reducible refine Xn (N := 2) rfl ?_); refine Xl ?hg (N := 2) ?hd (cs := #[.int .i64 X4, .int .i64 XB, .int .i64 Jb, .int .i64 Xo, .int .i64 Xp, .int .i64 J5, .int .i64 Jn, .int .i64 J9]) (t := 76) ?hr ?_; (case hd => rfl); (case hg => rfl); (case hr => exact zb10); intro Uf hg w31 hbox hb; have ZF := az (hbox); have Ug := az ((zb129 : w.heap.size ≤ Uf)); have En := Ug; replace HB := az (Xc zb1 hb); clear hb hbox hg) | ((with_reducible refine Xn (N := 3) rfl ?_); refine Xl ?hg (N := 3) ?hd (cs := #[.int .i64 Zu, .int .i64 Z5, .int .i64 Vq, .int .i64 Zj, .int .i64 ZW, .int .i64 ZR, .int .i64 Vr, .int .i64 Vs]) (t := 76) ?hr ?_; (case hd => rfl); (case hg => rfl); (case hr => exact zb10); intro Uh hg w32 hbox hb; have JI := az (hbox); have Ui := az ((zb131 : w.heap.size ≤ Uh)); have Eo := Ui; replace HB := az (Xc zb0 hb); obtain ⟨Jq, Jr⟩ := nb ZF hg (fun h => by (with_reducible repeat (first | apply bn | apply bd | apply ba)); exact h); replace ZF := bb ZF (fun h => by (with_reducible repeat (first | apply bn | apply bd | apply ba)); exact h) hb; clear hb hbox hg; have hnb33 := Jq.out; have hnc33 := Jr.out; obtain ⟨Xko, Xkp, Xkq, Xkr, Xks, X2D, X2E, X2F⟩ := cz8 ZF; obtain ⟨Xkt, Xku, Xkv, Xkw, Xkx, X2G, X2H, X2I⟩ := fz8 ZF; obtain ⟨Xlk, Xll, Xlm, XtL, XtM, X2J, X2K, X2L⟩ := cz8 JI; obtain ⟨Xln, Xlo, Xlp, XtN, XtO, X2M, X2N⟩ := fz7 JI; have X2O := Xd JI.out 7))
      go_ret
      exact ⟨zb4, zb0⟩
    ·rw [if_neg c6] at H
     have c6b0 : (Xo == Zj) = false := beq_eq_false_iff_ne.mpr c6; have c6b1 : (Xo != Zj) = true := bne_iff_ne.mpr c6; obtain rfl := Option.some.inj H
     go_enter Tryz.func63, Tryz.ntmps63
     go_wp2_with (first | ((with_reducible refine Xn (N := 2) rfl ?_); refine Xl ?hg (N := 2) ?hd (cs := #[.int .i64 X4, .int .i64 XB, .int .i64 Jb, .int .i64 Xo, .int .i64 Xp, .int .i64 J5, .int .i64 Jn, .int .i64 J9]) (t := 76) ?hr ?_; (case hd => rfl); (case hg => rfl); (case hr => exact zb10); intro Uf hg w36 hbox hb; have ZF := az (hbox); have Ug := az ((zb129 : w.heap.size ≤ Uf)); have En := Ug; replace HB := az (Xc zb1 hb); clear hb hbox hg) | ((with_reducible refine Xn (N := 3) rfl ?_); refine Xl ?hg (N := 3) ?hd (cs := #[.int .i64 Zu, .int .i64 Z5, .int .i64 Vq, .int .i64 Zj, .int .i64 ZW, .int .i64 ZR, .int .i64 Vr, .int .i64 Vs]) (t := 76) ?hr ?_; (case hd => rfl); (case hg => rfl); (case hr => exact zb10); intro Uh hg w37 hbox hb; have JI := az (hbox); have Ui := az ((zb131 : w.heap.size ≤ Uh)); have Eo := Ui; replace HB := az (Xc zb0 hb); obtain ⟨Jq, Jr⟩ := nb ZF hg (fun h => by (with_reducible repeat (first | apply bn | apply bd | apply ba)); exact h); replace ZF := bb ZF (fun h => by (with_reducible repeat (first | apply bn | apply bd | apply ba)); exact h) hb; clear hb hbox hg; have hnb38 := Jq.out; have hnc38 := Jr.out; obtain ⟨X2P, X2Q, X2R, X2S, X2T, X2U, X2V, X2W⟩ := cz8 ZF; obtain ⟨X2X, X2Y, X2Z, X3a, X3b, X3c, X3d, X3e⟩ := fz8 ZF; obtain ⟨X3f, X3g, X3h, X3i, X3j, X3k, X3l, X3m⟩ := cz8 JI; obtain ⟨X3n, X3o, X3p, X3q, X3r, X3s, X3t⟩ := fz7 JI; have X3u := Xd JI.out 7))
     go_ret
     exact ⟨zb4, zb0⟩
   ·rw [if_neg c5] at H
    have c5b0 : (Jb == Vq) = false := beq_eq_false_iff_ne.mpr c5; have c5b1 : (Jb != Vq) = true := bne_iff_ne.mpr c5; obtain rfl := Option.some.inj H
    go_enter Tryz.func63, Tryz.ntmps63
    go_wp2_with (first | ((with_reducible refine Xn (N := 2) rfl ?_); refine Xl ?hg (N := 2) ?hd (cs := #[.int .i64 X4, .int .i64 XB, .int .i64 Jb, .int .i64 Xo, .int .i64 Xp, .int .i64 J5, .int .i64 Jn, .int .i64 J9]) (t := 76) ?hr ?_; (case hd => rfl); (case hg => rfl); (case hr => exact zb10); intro Uf hg w41 hbox hb; have ZF := az (hbox); have Ug := az ((zb129 : w.heap.size ≤ Uf)); have En := Ug; replace HB := az (Xc zb1 hb); clear hb hbox hg) | ((with_reducible refine Xn (N := 3) rfl ?_); refine Xl ?hg (N := 3) ?hd (cs := #[.int .i64 Zu, .int .i64 Z5, .int .i64 Vq, .int .i64 Zj, .int .i64 ZW, .int .i64 ZR, .int .i64 Vr, .int .i64 Vs]) (t := 76) ?hr ?_; (case hd => rfl); (case hg => rfl); (case hr => exact zb10); intro Uh hg w42 hbox hb; have JI := az (hbox); have Ui := az ((zb131 : w.heap.size ≤ Uh)); have Eo := Ui; replace HB := az (Xc zb0 hb); obtain ⟨Jq, Jr⟩ := nb ZF hg (fun h => by (with_reducible repeat (first | apply bn | apply bd | apply ba)); exact h); replace ZF := bb ZF (fun h => by (with_reducible repeat (first | apply bn | apply bd | apply ba)); exact h) hb; clear hb hbox hg; have hnb43 := Jq.out; have hnc43 := Jr.out; obtain ⟨X3v, X3w, X3x, X3y, X3z, X30, X31, X32⟩ := cz8 ZF; obtain ⟨X33, X34, X35, X36, X37, X38, X39, X3A⟩ := fz8 ZF; obtain ⟨Xlq, Xlr, Xls, Xlt, Xlu, XtP, XtQ, XtR⟩ := cz8 JI; obtain ⟨Xlv, Xlw, Xlx, Xly, Xlz, XtS, XtT⟩ := fz7 JI; have XtU := Xd JI.out 7))
    go_ret
    exact ⟨zb4, zb0⟩
  ·rw [if_neg c4] at H
   have c4b0 : (XB == Z5) = false := beq_eq_false_iff_ne.mpr c4; have c4b1 : (XB != Z5) = true := bne_iff_ne.mpr c4; obtain rfl := Option.some.inj H
   go_enter Tryz.func63, Tryz.ntmps63
   go_wp2_with (first | ((with_reducible refine Xn (N := 2) rfl ?_); refine Xl ?hg (N := 2) ?hd (cs := #[.int .i64 X4, .int .i64 XB, .int .i64 Jb, .int .i64 Xo, .int .i64 Xp, .int .i64 J5, .int .i64 Jn, .int .i64 J9]) (t := 76) ?hr ?_; (case hd => rfl); (case hg => rfl); (case hr => exact zb10); intro Uf hg w46 hbox hb; have ZF := az (hbox); have Ug := az ((zb129 : w.heap.size ≤ Uf)); have En := Ug; replace HB := az (Xc zb1 hb); clear hb hbox hg) | ((with_reducible refine Xn (N := 3) rfl ?_); refine Xl ?hg (N := 3) ?hd (cs := #[.int .i64 Zu, .int .i64 Z5, .int .i64 Vq, .int .i64 Zj, .int .i64 ZW, .int .i64 ZR, .int .i64 Vr, .int .i64 Vs]) (t := 76) ?hr ?_; (case hd => rfl); (case hg => rfl); (case hr => exact zb10); intro Uh hg w47 hbox hb; have JI := az (hbox); have Ui := az ((zb131 : w.heap.size ≤ Uh)); have Eo := Ui; replace HB := az (Xc zb0 hb); obtain ⟨Jq, Jr⟩ := nb ZF hg (fun h => by (with_reducible repeat (first | apply bn | apply bd | apply ba)); exact h); replace ZF := bb ZF (fun h => by (with_reducible repeat (first | apply bn | apply bd | apply ba)); exact h) hb; clear hb hbox hg; have hnb48 := Jq.out; have hnc48 := Jr.out; obtain ⟨XtV, XtW, XtX, XtY, XtZ, X3B, X3C, X3D⟩ := cz8 ZF; obtain ⟨Xua, Xub, Xuc, Xud, Xue, X3E, X3F, X3G⟩ := fz8 ZF; obtain ⟨X3H, X3I, X3J, X3K, X3L, X3M, X3N, X3O⟩ := cz8 JI; obtain ⟨X3P, X3Q, X3R, X3S, X3T, X3U, X3V⟩ := fz7 JI; have X3W := Xd JI.out 7))
   go_ret
   exact ⟨zb4, zb0⟩
 ·rw [if_neg c3] at H
  have c3b0 : (X4 == Zu) = false := beq_eq_false_iff_ne.mpr c3; have c3b1 : (X4 != Zu) = true := bne_iff_ne.mpr c3; obtain rfl := Option.some.inj H
  go_enter Tryz.func63, Tryz.ntmps63
  go_wp2_with (first | ((with_reducible refine Xn (N := 2) rfl ?_); refine Xl ?hg (N := 2) ?hd (cs := #[.int .i64 X4, .int .i64 XB, .int .i64 Jb, .int .i64 Xo, .int .i64 Xp, .int .i64 J5, .int .i64 Jn, .int .i64 J9]) (t := 76) ?hr ?_; (case hd => rfl); (case hg => rfl); (case hr => exact zb10); intro Uf hg w51 hbox hb; have ZF := az (hbox); have Ug := az ((zb129 : w.heap.size ≤ Uf)); have En := Ug; replace HB := az (Xc zb1 hb); clear hb hbox hg) | ((with_reducible refine Xn (N := 3) rfl ?_); refine Xl ?hg (N := 3) ?hd (cs := #[.int .i64 Zu, .int .i64 Z5, .int .i64 Vq, .int .i64 Zj, .int .i64 ZW, .int .i64 ZR, .int .i64 Vr, .int .i64 Vs]) (t := 76) ?hr ?_; (case hd => rfl); (case hg => rfl); (case hr => exact zb10); intro Uh hg w52 hbox hb; have JI := az (hbox); have Ui := az ((zb131 : w.heap.size ≤ Uh)); have Eo := Ui; replace HB := az (Xc zb0 hb); obtain ⟨Jq, Jr⟩ := nb ZF hg (fun h => by (with_reducible repeat (first | apply bn | apply bd | apply ba)); exact h); replace ZF := bb ZF (fun h => by (with_reducible repeat (first | apply bn | apply bd | apply ba)); exact h) hb; clear hb hbox hg; have hnb53 := Jq.out; have hnc53 := Jr.out; obtain ⟨Xuf, Xug, Xuh, X3X, X3Y, X3Z, X4a, X4b⟩ := cz8 ZF; obtain ⟨Xui, Xuj, Xuk, X4c, X4d, X4e, X4f, X4g⟩ := fz8 ZF; obtain ⟨Xul, Xum, Xun, X4h, X4i, X4j, X4k, X4l⟩ := cz8 JI; obtain ⟨Xuo, Xup, Xuq, X4m, X4n, X4o, X4p⟩ := fz7 JI; have X4q := Xd JI.out 7))
  go_ret
  exact ⟨zb4, zb0⟩
def XW.l0 : Nat → List (S76) → List (S76) → Int → Option (Bool)
 | 0, _, _, _ => none
 | k + 1, x0, x1, x5 => if x5 < (x0.length : Int) then (if 0 ≤ x5 then (if x5 < (x1.length : Int) then ((Gm.f ((Xa x0 x5).f0) ((Xa x0 x5).f1) ((Xa x0 x5).f2) ((Xa x0 x5).f3) ((Xa x0 x5).f4) ((Xa x0 x5).f5) ((Xa x0 x5).f6) ((Xa x0 x5).f7) ((Xa x1 x5).f0) ((Xa x1 x5).f1) ((Xa x1 x5).f2) ((Xa x1 x5).f3) ((Xa x1 x5).f4) ((Xa x1 x5).f5) ((Xa x1 x5).f6) ((Xa x1 x5).f7)).bind fun Xur => (if Xur = true then (XW.l0 k x0 x1 (wrap64 (x5 + 1))) else (some false))) else (none)) else (none)) else (some true)
def XW.f (k : Nat) (l0 : List (S76)) (l1 : List (S76)) : Option (Bool) := if (l0.length : Int) = (l1.length : Int) then (XW.l0 k l0 l1 0) else (some false)
def XW.T6 : Bool × List (List Nat × List Nat) := (true, [([], []), ([], []), ([0, 1], [0, 1]), ([2], [2]), ([], []), ([], []), ([4, 5], [4, 5]), ([6], [6]), ([3, 7], [3, 7]), ([8], [8])])
def XW.B6 : List Nat := [0, 0, 3, 7, 0, 0, 48, 112, 255, 511]
theorem XW.Xae : Ve .any (opsOf Tryz.f36 6) = XW.T6 := by kernel_rfl
theorem XW.Ka : Ja XW.T6.2 XW.B6 = true := by kernel_rfl
set_option maxHeartbeats 8000000 in
set_option maxRecDepth 100000 in
theorem XW.calls (k : Nat) (A0 : Option Addr) (c0 : Nat) (l0 : List (S76)) (A1 : Option Addr) (c1 : Nat) (l1 : List (S76)) (r : Bool) (w : World) (hr0 : Kd.C k76 w A0 l0.length l0) (hc0 : l0.length ≤ c0) (hr1 : Kd.C k76 w A1 l1.length l1) (hc1 : l1.length ≤ c1) (h : XW.f k l0 l1 = some r) :
 Calls Tryz.prog 36 #[.slice A0 l0.length c0, .slice A1 l1.length c1] w fun e w' => e = .returned (.bool r) ∧ Below w.heap.size w w' := by
 have hu76 := Tryz.underlying76; have HR0 := az hr0; have HC0 := az hc0; clear hr0 hc0; have HR1 := az hr1; have HC1 := az hc1; clear hr1 hc1; have HB := az (Below.refl w.heap.size w); have H : (if (l0.length : Int) = (l1.length : Int) then (XW.l0 k l0 l1 0) else (some false)) = some r := h; clear h
 by_cases c3 : (l0.length : Int) = (l1.length : Int)
 ·rw [if_pos c3] at H
  have c3b0 : ((l0.length : Int) == (l1.length : Int)) = true := beq_iff_eq.mpr c3; have c3b1 : ((l0.length : Int) != (l1.length : Int)) = false := bne_eq_false_iff_eq.mpr c3
  have c3b2 : (l0.length == l1.length) = true := by first | simpa using c3 | (simp at c3 ⊢; omega)
  clear c3; have H' := az H; clear H
  go_enter Tryz.func36, Tryz.ntmps36
  go_wp2
  go_loopg [5] k (fun kq v5 w' => ∃ (Xk : Int), v5 = .int .i64 Xk ∧ Aside0 (XW.l0 kq l0 l1 Xk = some r) ∧ Aside0 (kq ≤ k) ∧ Aside0 (Below w.heap.size w w'))
  case atStart => exact ⟨(0), zb6, H', ⟨Nat.le_refl _⟩, ⟨zb1⟩⟩
  case round =>
   clear H';(try clear c1);(try clear p2);(try clear c3);(try clear c3b0);(try clear c3b1);(try clear c3b2)
   obtain ⟨Xk, rfl, HA, HK1, HB⟩ := hrel
   cases gk with
   | zero => exact absurd HA.out (by simp [XW.l0])
   | succ k1 =>
    have H := HA.out; clear HA; simp only [XW.l0] at H
    by_cases c4 : Xk < (l0.length : Int)
    ·rw [if_pos c4] at H
     have c4b0 : decide (Xk < (l0.length : Int)) = true := decide_eq_true c4; clear c4
     by_cases c5 : 0 ≤ Xk
     ·rw [if_pos c5] at H
      have c5b0 : decide (0 ≤ Xk) = true := decide_eq_true c5; clear c5
      by_cases c6 : Xk < (l1.length : Int)
      ·rw [if_pos c6] at H
       have c6b0 : decide (Xk < (l1.length : Int)) = true := decide_eq_true c6; clear c6; replace H := Option.bind_eq_some_iff.mp H; obtain ⟨Xur, A70, H⟩ := H; replace H : (if Xur = true then (XW.l0 k1 l0 l1 (wrap64 (Xk + 1))) else (some false)) = some r := H; have A7 := az A70; clear A70
       by_cases c8 : Xur = true
       ·subst c8
        have H1 : (XW.l0 k1 l0 l1 (wrap64 (Xk + 1))) = some r := by rw [if_pos rfl] at H; exact H
        clear H; have H := H1; clear H1; have H' := az H; clear H
        try go_wp2
        replace HB := az (wd HB.out); have XhZ : 0 ≤ (Xk : Int) := of_decide_eq_true zb3; have Xia : Xk < (l0.length : Int) := of_decide_eq_true zb3; obtain ⟨Xqi, XxW, UE, UF, UG, UH, UI, UJ, UK, UL⟩ := Yt HR0.out Xk XhZ Xia; have hw517_7 := UL; have hw517_6 := UK; have hw517_5 := UJ; have hw517_4 := UI; have hw517_3 := UH; have hw517_2 := UG; have hw517_1 := UF; have hw517_0 := UE
        cases XxW
        replace UE := cb HB UE; replace UF := cb HB UF; replace UG := cb HB UG; replace UH := cb HB UH; replace UI := cb HB UI; replace UJ := cb HB UJ; replace UK := cb HB UK; replace UL := cb HB UL; replace XhZ := eq_true XhZ; replace Xia := eq_true Xia; have Xib : 0 ≤ (Xk : Int) := of_decide_eq_true zb3; have Xic : Xk < (l1.length : Int) := of_decide_eq_true zb3; obtain ⟨Xqj, XxX, UM, UN, UO, UQ, UR, UT, UU, UW⟩ := Yt HR1.out Xk Xib Xic; have hw518_7 := UW; have hw518_6 := UU; have hw518_5 := UT; have hw518_4 := UR; have hw518_3 := UQ; have hw518_2 := UO; have hw518_1 := UN; have hw518_0 := UM
        cases XxX
        replace UM := cb HB UM; replace UN := cb HB UN; replace UO := cb HB UO; replace UQ := cb HB UQ; replace UR := cb HB UR; replace UT := cb HB UT; replace UU := cb HB UU; replace UW := cb HB UW; replace Xib := eq_true Xib; replace Xic := eq_true Xic; refine Y5 (n := 10) (S := fun w' => r8 w' (Xqi.add ((Xk).toNat * 8)) (Xa l0 Xk) (r8t w' (Xqj.add ((Xk).toNat * 8)) (Xa l1 Xk))) (ds := []) XgW zb9 rfl rfl ⟨(cb HB hw517_0), (cb HB hw517_1), (cb HB hw517_2), (cb HB hw517_3), (cb HB hw517_4), (cb HB hw517_5), (cb HB hw517_6), (cb HB hw517_7), (cb HB hw518_0), (cb HB hw518_1), (cb HB hw518_2), (cb HB hw518_3), (cb HB hw518_4), (cb HB hw518_5), (cb HB hw518_6), (cb HB hw518_7)⟩ (fun hHeld => ?_); refine XV XW.Xae XW.Ka (fun HT_ HW_ => ?_); generalize wr.drew = w9 at HB UE UF UG UH UI UJ UK UL UM UN UO UQ UR UT UU UW hHeld ⊢; refine pu 0 17 XgX HT_ ?_; refine pu 1 18 XgY HT_ ?_; refine pu 2 19 XgZ HT_ ?_; refine pu 4 21 Xha HT_ ?_; refine pu 5 22 Xhb HT_ ?_; refine pu 6 23 Xhc HT_ ?_; refine tk 3 20 Xhd HT_ HW_ hHeld ?_; refine tk 7 24 Xhe HT_ HW_ hHeld ?_; refine Zy (i := 8) (N := some 25) Xhf rfl rfl (Y6 HT_.out zb9) (by decide) (fun K hK => ?_); refine YW Tryz.func63 zb9 rfl #[.agg #[.int .i64 ((Xa l0 Xk).f0), .int .i64 ((Xa l0 Xk).f1), .int .i64 ((Xa l0 Xk).f2), .int .i64 ((Xa l0 Xk).f3), .int .i64 ((Xa l0 Xk).f4), .int .i64 ((Xa l0 Xk).f5), .int .i64 ((Xa l0 Xk).f6), .int .i64 ((Xa l0 Xk).f7)], .agg #[.int .i64 ((Xa l1 Xk).f0), .int .i64 ((Xa l1 Xk).f1), .int .i64 ((Xa l1 Xk).f2), .int .i64 ((Xa l1 Xk).f3), .int .i64 ((Xa l1 Xk).f4), .int .i64 ((Xa l1 Xk).f5), .int .i64 ((Xa l1 Xk).f6), .int .i64 ((Xa l1 Xk).f7)]] (by rfl) rfl rfl zb2 ?_
        with_reducible refine (Gm.calls ((Xa l0 Xk).f0) ((Xa l0 Xk).f1) ((Xa l0 Xk).f2) ((Xa l0 Xk).f3) ((Xa l0 Xk).f4) ((Xa l0 Xk).f5) ((Xa l0 Xk).f6) ((Xa l0 Xk).f7) ((Xa l1 Xk).f0) ((Xa l1 Xk).f1) ((Xa l1 Xk).f2) ((Xa l1 Xk).f3) ((Xa l1 Xk).f4) ((Xa l1 Xk).f5) ((Xa l1 Xk).f6) ((Xa l1 Xk).f7) true _ A7.out).mono ?_
        rintro e w10 ⟨rfl, hb⟩; refine ⟨_, rfl, ?_⟩; replace HB := az (Xc zb1 hb)
        (try clear hb);(try clear hb2);(try clear hk);(try clear hi)
        refine hK.out _ _ ⟨(cb HB hw517_0), (cb HB hw517_1), (cb HB hw517_2), (cb HB hw517_3), (cb HB hw517_4), (cb HB hw517_5), (cb HB hw517_6), (cb HB hw517_7), (cb HB hw518_0), (cb HB hw518_1), (cb HB hw518_2), (cb HB hw518_3), (cb HB hw518_4), (cb HB hw518_5), (cb HB hw518_6), (cb HB hw518_7)⟩ (fun hHeld => ?_); clear hK K; refine XZ (a' := ?_) ?_ ?_; rotate_left
        ·show Act.put _ (some 25) _ = _
         simp only [Act.put, List.setIfInBounds_toArray, List.set_cons_zero, List.set_cons_succ, X9, XK]
         rfl
        refine pu 9 26 Xci HT_ ?_; refine Zl (YT HT_.out zb9) ?_
        try go_wp2
        go_roundg k1
        case measure => have := HK1.out; omega
        case rel => exact ⟨(wrap64 (Xk + 1)), zb6, H', ⟨zb37⟩, ⟨zb1⟩⟩
       ·replace c8 := Bool.eq_false_iff.mpr c8
        subst c8
        have H1 : (some false) = some r := by rw [if_neg (show ¬ (false = true) by decide)] at H; exact H
        clear H; have H := H1; clear H1; obtain rfl := Option.some.inj H
        try go_wp2
        replace HB := az (wd HB.out); have XhZ : 0 ≤ (Xk : Int) := of_decide_eq_true zb3; have Xia : Xk < (l0.length : Int) := of_decide_eq_true zb3; obtain ⟨Xqi, XxW, UE, UF, UG, UH, UI, UJ, UK, UL⟩ := Yt HR0.out Xk XhZ Xia; have hw517_7 := UL; have hw517_6 := UK; have hw517_5 := UJ; have hw517_4 := UI; have hw517_3 := UH; have hw517_2 := UG; have hw517_1 := UF; have hw517_0 := UE
        cases XxW
        replace UE := cb HB UE; replace UF := cb HB UF; replace UG := cb HB UG; replace UH := cb HB UH; replace UI := cb HB UI; replace UJ := cb HB UJ; replace UK := cb HB UK; replace UL := cb HB UL; replace XhZ := eq_true XhZ; replace Xia := eq_true Xia; have Xib : 0 ≤ (Xk : Int) := of_decide_eq_true zb3; have Xic : Xk < (l1.length : Int) := of_decide_eq_true zb3; obtain ⟨Xqj, XxX, UM, UN, UO, UQ, UR, UT, UU, UW⟩ := Yt HR1.out Xk Xib Xic; have hw518_7 := UW; have hw518_6 := UU; have hw518_5 := UT; have hw518_4 := UR; have hw518_3 := UQ; have hw518_2 := UO; have hw518_1 := UN; have hw518_0 := UM
        cases XxX
        replace UM := cb HB UM; replace UN := cb HB UN; replace UO := cb HB UO; replace UQ := cb HB UQ; replace UR := cb HB UR; replace UT := cb HB UT; replace UU := cb HB UU; replace UW := cb HB UW; replace Xib := eq_true Xib; replace Xic := eq_true Xic; refine Y5 (n := 10) (S := fun w' => r8 w' (Xqi.add ((Xk).toNat * 8)) (Xa l0 Xk) (r8t w' (Xqj.add ((Xk).toNat * 8)) (Xa l1 Xk))) (ds := []) XgW zb9 rfl rfl ⟨(cb HB hw517_0), (cb HB hw517_1), (cb HB hw517_2), (cb HB hw517_3), (cb HB hw517_4), (cb HB hw517_5), (cb HB hw517_6), (cb HB hw517_7), (cb HB hw518_0), (cb HB hw518_1), (cb HB hw518_2), (cb HB hw518_3), (cb HB hw518_4), (cb HB hw518_5), (cb HB hw518_6), (cb HB hw518_7)⟩ (fun hHeld => ?_); refine XV XW.Xae XW.Ka (fun HT_ HW_ => ?_); generalize wr.drew = w11 at HB UE UF UG UH UI UJ UK UL UM UN UO UQ UR UT UU UW hHeld ⊢; refine pu 0 17 XgX HT_ ?_; refine pu 1 18 XgY HT_ ?_; refine pu 2 19 XgZ HT_ ?_; refine pu 4 21 Xha HT_ ?_; refine pu 5 22 Xhb HT_ ?_; refine pu 6 23 Xhc HT_ ?_; refine tk 3 20 Xhd HT_ HW_ hHeld ?_; refine tk 7 24 Xhe HT_ HW_ hHeld ?_; refine Zy (i := 8) (N := some 25) Xhf rfl rfl (Y6 HT_.out zb9) (by decide) (fun K hK => ?_); refine YW Tryz.func63 zb9 rfl #[.agg #[.int .i64 ((Xa l0 Xk).f0), .int .i64 ((Xa l0 Xk).f1), .int .i64 ((Xa l0 Xk).f2), .int .i64 ((Xa l0 Xk).f3), .int .i64 ((Xa l0 Xk).f4), .int .i64 ((Xa l0 Xk).f5), .int .i64 ((Xa l0 Xk).f6), .int .i64 ((Xa l0 Xk).f7)], .agg #[.int .i64 ((Xa l1 Xk).f0), .int .i64 ((Xa l1 Xk).f1), .int .i64 ((Xa l1 Xk).f2), .int .i64 ((Xa l1 Xk).f3), .int .i64 ((Xa l1 Xk).f4), .int .i64 ((Xa l1 Xk).f5), .int .i64 ((Xa l1 Xk).f6), .int .i64 ((Xa l1 Xk).f7)]] (by rfl) rfl rfl zb2 ?_
        with_reducible refine (Gm.calls ((Xa l0 Xk).f0) ((Xa l0 Xk).f1) ((Xa l0 Xk).f2) ((Xa l0 Xk).f3) ((Xa l0 Xk).f4) ((Xa l0 Xk).f5) ((Xa l0 Xk).f6) ((Xa l0 Xk).f7) ((Xa l1 Xk).f0) ((Xa l1 Xk).f1) ((Xa l1 Xk).f2) ((Xa l1 Xk).f3) ((Xa l1 Xk).f4) ((Xa l1 Xk).f5) ((Xa l1 Xk).f6) ((Xa l1 Xk).f7) false _ A7.out).mono ?_
        rintro e w12 ⟨rfl, hb⟩; refine ⟨_, rfl, ?_⟩; replace HB := az (Xc zb1 hb)
        (try clear hb);(try clear hb2);(try clear hk);(try clear hi)
        refine hK.out _ _ ⟨(cb HB hw517_0), (cb HB hw517_1), (cb HB hw517_2), (cb HB hw517_3), (cb HB hw517_4), (cb HB hw517_5), (cb HB hw517_6), (cb HB hw517_7), (cb HB hw518_0), (cb HB hw518_1), (cb HB hw518_2), (cb HB hw518_3), (cb HB hw518_4), (cb HB hw518_5), (cb HB hw518_6), (cb HB hw518_7)⟩ (fun hHeld => ?_); clear hK K; refine XZ (a' := ?_) ?_ ?_; rotate_left
        ·show Act.put _ (some 25) _ = _
         simp only [Act.put, List.setIfInBounds_toArray, List.set_cons_zero, List.set_cons_succ, X9, XK]
         rfl
        refine pu 9 26 Xci HT_ ?_; refine Zl (YT HT_.out zb9) ?_
        try go_wp2
        go_ret
        exact ⟨zb4, zb1⟩
      ·rw [if_neg c6] at H
       exact absurd H (by simp)
     ·rw [if_neg c5] at H
      exact absurd H (by simp)
    ·rw [if_neg c4] at H
     have c4b0 : decide (Xk < (l0.length : Int)) = false := decide_eq_false c4; clear c4; obtain rfl := Option.some.inj H
     go_wp2
     go_ret
     exact ⟨zb4, zb1⟩
 ·rw [if_neg c3] at H
  have c3b0 : ((l0.length : Int) == (l1.length : Int)) = false := beq_eq_false_iff_ne.mpr c3; have c3b1 : ((l0.length : Int) != (l1.length : Int)) = true := bne_iff_ne.mpr c3
  have c3b2 : (l0.length == l1.length) = false := by first | simpa using c3 | (simp at c3 ⊢; omega)
  obtain rfl := Option.some.inj H
  go_enter Tryz.func36, Tryz.ntmps36
  go_wp2
  go_ret
  exact ⟨zb4, zb1⟩
end Go.Proofs.YtphnphmbfogmlaaGreat.Pr
