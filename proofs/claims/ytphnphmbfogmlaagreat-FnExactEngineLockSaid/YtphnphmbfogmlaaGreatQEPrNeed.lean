import Derived.Test.YtphnphmbfogmlaaGreatQEByq
import Derived.Test.YtphnphmbfogmlaaGreatQEWMore
import Derived.Test.YtphnphmbfogmlaaGreatQEPrK
import Derived.Test.YtphnphmbfogmlaaGreatQESx
import Derived.Test.YtphnphmbfogmlaaGreatQEPrM
import Derived.Test.YtphnphmbfogmlaaGreatQEPrLogA
namespace Go.Proofs.YtphnphmbfogmlaaGreat.Pr
open Go.RowKit Go.PW Go.PL Go.PM
attribute [local go_sem] YO YP Zm Zn Yv Yw YQ YS
set_option linter.unusedVariables false
set_option linter.unusedSimpArgs false
mutual
def XO.l0 : Nat → List (S76) → Int → Option (Int)
 | 0, _, _ => none
 | k + 1, x0, x1 => if x1 > 0 then (if 0 ≤ (wrap64 (x1 - 1)) then (if (wrap64 (x1 - 1)) < (x0.length : Int) then (if ((Xa x0 (wrap64 (x1 - 1))).f0) = 1 then (XO.j1 k x0 x1 ((Xa x0 (wrap64 (x1 - 1))).f0) (((Xa x0 (wrap64 (x1 - 1))).f0) == 1) ((Xa x0 (wrap64 (x1 - 1))).f0) ((Xa x0 (wrap64 (x1 - 1))).f1) ((Xa x0 (wrap64 (x1 - 1))).f2) ((Xa x0 (wrap64 (x1 - 1))).f3) ((Xa x0 (wrap64 (x1 - 1))).f4) ((Xa x0 (wrap64 (x1 - 1))).f5) ((Xa x0 (wrap64 (x1 - 1))).f6) ((Xa x0 (wrap64 (x1 - 1))).f7)) else (XO.j1 k x0 x1 ((Xa x0 (wrap64 (x1 - 1))).f0) (((Xa x0 (wrap64 (x1 - 1))).f0) == 2) ((Xa x0 (wrap64 (x1 - 1))).f0) ((Xa x0 (wrap64 (x1 - 1))).f1) ((Xa x0 (wrap64 (x1 - 1))).f2) ((Xa x0 (wrap64 (x1 - 1))).f3) ((Xa x0 (wrap64 (x1 - 1))).f4) ((Xa x0 (wrap64 (x1 - 1))).f5) ((Xa x0 (wrap64 (x1 - 1))).f6) ((Xa x0 (wrap64 (x1 - 1))).f7))) else (none)) else (none)) else (some 0)
def XO.j1 : Nat → List (S76) → Int → Int → Bool → Int → Int → Int → Int → Int → Int → Int → Int → Option (Int)
 | 0, _, _, _, _, _, _, _, _, _, _, _, _ => none
 | k + 1, x0, x1, x14, x17, X42, X43, X44, X45, X46, X47, Xuu, Xuv => if x17 = true then (some x1) else (if x14 = 6 then (XO.l0 k x0 Xuv) else (XO.l0 k x0 Xuu))
end
def XO.f (k : Nat) (l0 : List (S76)) (a1 : Int) : Option (Int) := XO.l0 k l0 a1
set_option maxHeartbeats 8000000 in
set_option maxRecDepth 100000 in
theorem XO.calls (k : Nat) (A0 : Option Addr) (c0 : Nat) (l0 : List (S76)) (a1 : Int) (r : Int) (w : World) (hr0 : Kd.C k76 w A0 l0.length l0) (hc0 : l0.length ≤ c0) (h : XO.f k l0 a1 = some r) :
 Calls Tryz.prog 73 #[.slice A0 l0.length c0, .int .i64 a1] w fun e w' => e = .returned (.int .i64 r) ∧ Below w.heap.size w w' := by
 have hu76 := Tryz.underlying76; have HR0 := az hr0; have HC0 := az hc0; clear hr0 hc0; have HB := az (Below.refl w.heap.size w); have H : (XO.l0 k l0 a1) = some r := h; clear h; have H' := az H; clear H
 go_enter Tryz.func73, Tryz.ntmps73
 go_wp2
 go_loopg [1] k (fun kq v1 w' => ∃ (Dq : Int), v1 = .int .i64 Dq ∧ Aside0 (XO.l0 kq l0 Dq = some r) ∧ Aside0 (kq ≤ k) ∧ Aside0 (Below w.heap.size w w'))
 case atStart => exact ⟨(a1), zb6, H', ⟨Nat.le_refl _⟩, ⟨zb1⟩⟩
 case round =>
  clear H';(try clear p2)
  obtain ⟨Dq, rfl, HA, HK1, HB⟩ := hrel
  cases gk with
  | zero => exact absurd HA.out (by simp [XO.l0])
  | succ k1 =>
   have H := HA.out; clear HA; simp only [XO.l0] at H
   by_cases c3 : Dq > 0
   ·rw [if_pos c3] at H
    have c3b0 : decide (0 < Dq) = true := decide_eq_true c3; clear c3
    obtain ⟨ji4, hji4⟩ : ∃ j_ : Int, (wrap64 (Dq - 1)) = j_ := ⟨_, rfl⟩
    replace H : (if 0 ≤ (ji4) then (if (ji4) < (l0.length : Int) then (if ((Xa l0 (ji4)).f0) = 1 then (XO.j1 k1 l0 Dq ((Xa l0 (ji4)).f0) (((Xa l0 (ji4)).f0) == 1) ((Xa l0 (ji4)).f0) ((Xa l0 (ji4)).f1) ((Xa l0 (ji4)).f2) ((Xa l0 (ji4)).f3) ((Xa l0 (ji4)).f4) ((Xa l0 (ji4)).f5) ((Xa l0 (ji4)).f6) ((Xa l0 (ji4)).f7)) else (XO.j1 k1 l0 Dq ((Xa l0 (ji4)).f0) (((Xa l0 (ji4)).f0) == 2) ((Xa l0 (ji4)).f0) ((Xa l0 (ji4)).f1) ((Xa l0 (ji4)).f2) ((Xa l0 (ji4)).f3) ((Xa l0 (ji4)).f4) ((Xa l0 (ji4)).f5) ((Xa l0 (ji4)).f6) ((Xa l0 (ji4)).f7))) else (none)) else (none)) = some r := by first | (rw [hji4] at H; exact H) | (simp only [hji4] at H ⊢; exact H)
    have hji4w : (IntKind.i64.wrap (Dq - 1)) = ji4 := (X9 _).trans hji4
    by_cases c5 : 0 ≤ (ji4)
    ·rw [if_pos c5] at H
     have c5b0 : decide (0 ≤ (ji4)) = true := decide_eq_true c5; clear c5
     by_cases c6 : (ji4) < (l0.length : Int)
     ·rw [if_pos c6] at H
      have c6b0 : decide ((ji4) < (l0.length : Int)) = true := decide_eq_true c6; clear c6; have HC7 := az H; clear H; have Xuw : 0 ≤ ((ji4) : Int) := of_decide_eq_true zb3; have Xux : (ji4) < (l0.length : Int) := of_decide_eq_true zb3; obtain ⟨ad196, e196, Xeb, Xec, Xed, Xee, Xef, Xeg, Xeh, Xei⟩ := Yt HR0.out (ji4) Xuw Xux
      cases e196
      replace Xeb := cb HB Xeb; replace Xec := cb HB Xec; replace Xed := cb HB Xed; replace Xee := cb HB Xee; replace Xef := cb HB Xef; replace Xeg := cb HB Xeg; replace Xeh := cb HB Xeh; replace Xei := cb HB Xei; replace Xuw := eq_true Xuw; replace Xux := eq_true Xux
      go_upto_if 17 with (first | ((with_reducible refine Xn (N := 5) rfl ?_); refine Xl ?hg (N := 5) ?hd (cs := #[.int .i64 0, .int .i64 0, .int .i64 0, .int .i64 0, .int .i64 0, .int .i64 0, .int .i64 0, .int .i64 0]) (t := 76) ?hr ?_; (case hd => rfl); (case hg => rfl); (case hr => exact zb10); intro Xw7 hg w8 hbox hb; have Lb := az (hbox); have X06 := az ((zb129 : w.heap.size ≤ Xw7)); have GE197 := X06; replace HB := az (Xc zb1 hb); clear hb hbox hg; obtain ⟨WY, WZ, Pb, LC, LD, I1, I4, I5⟩ := cz8 Lb; obtain ⟨Pd, Pe, Pf, LF, LG, I6, I7⟩ := fz7 Lb; have I8 := Xd Lb.out 7))
      (try simp only [Act.put, List.setIfInBounds_toArray, List.set_cons_zero, List.set_cons_succ])
      go_cut [17] (fun v17 wc => ∃ (kq : Nat) (Ru : Bool), v17 = .bool Ru ∧ Aside0 (XO.j1 kq l0 Dq ((Xa l0 (ji4)).f0) Ru ((Xa l0 (ji4)).f0) ((Xa l0 (ji4)).f1) ((Xa l0 (ji4)).f2) ((Xa l0 (ji4)).f3) ((Xa l0 (ji4)).f4) ((Xa l0 (ji4)).f5) ((Xa l0 (ji4)).f6) ((Xa l0 (ji4)).f7) = some r) ∧ Aside0 (kq ≤ k1) ∧ Aside0 (wc.heap[Xw7]? = some (.cells #[.int .i64 ((Xa l0 (ji4)).f0), .int .i64 ((Xa l0 (ji4)).f1), .int .i64 ((Xa l0 (ji4)).f2), .int .i64 ((Xa l0 (ji4)).f3), .int .i64 ((Xa l0 (ji4)).f4), .int .i64 ((Xa l0 (ji4)).f5), .int .i64 ((Xa l0 (ji4)).f6), .int .i64 ((Xa l0 (ji4)).f7)] 76 (0, 0))) ∧ Aside0 (Below w.heap.size w wc))
      case first =>
       have H := HC7.out; clear HC7
       by_cases c10 : ((Xa l0 (ji4)).f0) = 1
       ·rw [if_pos c10] at H
        have Vu : (((Xa l0 (ji4)).f0) == 1) = true := beq_iff_eq.mpr c10; have Nn : (((Xa l0 (ji4)).f0) != 1) = false := bne_eq_false_iff_eq.mpr c10; clear c10
        (first | rw [Vu] | (simp only [X9, XK]; rw [Vu]) | skip)
        have H' := az H; clear H
        go_wp2
        go_meet
        case rel => exact ⟨_, ((((Xa l0 (ji4)).f0) == 1)), zb34, H', ⟨zb66⟩, ⟨by (with_reducible repeat (first | apply bn | apply bd | apply ba)); exact p8 Lb⟩, ⟨zb0⟩⟩
       ·rw [if_neg c10] at H
        have Vu : (((Xa l0 (ji4)).f0) == 1) = false := beq_eq_false_iff_ne.mpr c10; have Nn : (((Xa l0 (ji4)).f0) != 1) = true := bne_iff_ne.mpr c10
        (first | rw [Vu] | (simp only [X9, XK]; rw [Vu]) | skip)
        have H' := az H; clear H
        go_wp2
        go_meet
        case rel => exact ⟨_, ((((Xa l0 (ji4)).f0) == 2)), zb34, H', ⟨zb66⟩, ⟨by (with_reducible repeat (first | apply bn | apply bd | apply ba)); exact p8 Lb⟩, ⟨zb0⟩⟩
      case rest =>
       clear HC7;(try clear c1);(try clear p1);(try clear q1);(try clear hx1);(try clear p2);(try clear c3);(try clear c3b0);(try clear c5);(try clear c5b0);(try clear c6);(try clear c6b0);(try clear p6);(try clear c7);(try clear c10);(try clear Vu);(try clear Nn);(try clear WY);(try clear WZ);(try clear Pb);(try clear LC);(try clear LD);(try clear I1);(try clear I4);(try clear I5);(try clear Pd);(try clear Pe);(try clear Pf);(try clear LF);(try clear LG);(try clear I6);(try clear I7);(try clear I8);(try clear Xeb);(try clear Xec);(try clear Xed);(try clear Xee);(try clear Xef);(try clear Xeg);(try clear Xeh);(try clear Xei);(try clear Xuw);(try clear p2);(try clear Xux)
       obtain ⟨kq, Ru, rfl, HA, HJ6, Lb, HB⟩ := hcut
       cases kq with
       | zero => exact absurd HA.out (by simp [XO.j1])
       | succ kj6 =>
        have H := HA.out; clear HA; simp only [XO.j1] at H
        by_cases c11 : Ru = true
        ·subst c11
         have H1 : (some Dq) = some r := by rw [if_pos rfl] at H; exact H
         clear H; have H := H1; clear H1; obtain rfl := Option.some.inj H
         go_wp2
         go_ret
         exact ⟨zb94, zb0⟩
        ·replace c11 := Bool.eq_false_iff.mpr c11
         subst c11
         have H1 : (if ((Xa l0 (ji4)).f0) = 6 then (XO.l0 kj6 l0 ((Xa l0 (ji4)).f7)) else (XO.l0 kj6 l0 ((Xa l0 (ji4)).f6))) = some r := by rw [if_neg (show ¬ (false = true) by decide)] at H; exact H
         clear H; have H := H1; clear H1
         by_cases c12 : ((Xa l0 (ji4)).f0) = 6
         ·rw [if_pos c12] at H
          have WQ : (((Xa l0 (ji4)).f0) == 6) = true := beq_iff_eq.mpr c12; have XaK : (((Xa l0 (ji4)).f0) != 6) = false := bne_eq_false_iff_eq.mpr c12; clear c12; have H' := az H; clear H; obtain ⟨Kw, Ky, Kz, TZ, Ra, Xuy, Xuz, Xu0⟩ := cz8 Lb; obtain ⟨K3, K4, K5, Rb, Re, Xu1, Xu2, Xu3⟩ := fz8 Lb
          go_wp2
          go_roundg kj6
          case measure => have := HK1.out; have := HJ6.out; omega
          case rel => exact ⟨(((Xa l0 (ji4)).f7)), zb34, H', ⟨zb125⟩, ⟨zb0⟩⟩
         ·rw [if_neg c12] at H
          have WQ : (((Xa l0 (ji4)).f0) == 6) = false := beq_eq_false_iff_ne.mpr c12; have XaK : (((Xa l0 (ji4)).f0) != 6) = true := bne_iff_ne.mpr c12; have H' := az H; clear H; obtain ⟨FP, FQ, FR, U6, U7, XdI, XdJ, XdK⟩ := cz8 Lb; obtain ⟨FT, FU, FV, U8, U9, XdL, XdM, XdN⟩ := fz8 Lb
          go_wp2
          go_roundg kj6
          case measure => have := HK1.out; have := HJ6.out; omega
          case rel => exact ⟨(((Xa l0 (ji4)).f6)), zb34, H', ⟨zb125⟩, ⟨zb0⟩⟩
     ·rw [if_neg c6] at H
      exact absurd H (by simp)
    ·rw [if_neg c5] at H
     exact absurd H (by simp)
   ·rw [if_neg c3] at H
    have c3b0 : decide (0 < Dq) = false := decide_eq_false c3; clear c3; obtain rfl := Option.some.inj H
    go_wp2
    go_ret
    exact ⟨zb4, zb1⟩
mutual
def XJ.l0 : Nat → List (S76) → Int → Int → Option (Int)
 | 0, _, _, _ => none
 | k + 1, x0, x3, x4 => if x4 ≤ 3 then ((Y2.f k x0 x4).bind fun Rv => (if Rv > 0 then (XJ.j1 k x0 (wrap64 (x3 + 1)) x4 Rv) else (XJ.j1 k x0 x3 x4 Rv))) else (some x3)
def XJ.j1 : Nat → List (S76) → Int → Int → Int → Option (Int)
 | 0, _, _, _, _ => none
 | k + 1, x0, x3, x4, x5 => (XO.f k x0 x5).bind fun Xqt => (XJ.l1 k x0 x3 x4 Xqt)
def XJ.l1 : Nat → List (S76) → Int → Int → Int → Option (Int)
 | 0, _, _, _, _ => none
 | k + 1, x0, x3, x4, x5 => if x5 > 0 then (if 0 ≤ (wrap64 (x5 - 1)) then (if (wrap64 (x5 - 1)) < (x0.length : Int) then ((XO.f k x0 ((Xa x0 (wrap64 (x5 - 1))).f6)).bind fun Xik => (XJ.l1 k x0 (wrap64 (x3 + 1)) x4 Xik)) else (none)) else (none)) else (XJ.l0 k x0 x3 (wrap64 (x4 + 1)))
end
def XJ.f (k : Nat) (l0 : List (S76)) : Option (Int) := XJ.l0 k l0 0 1
set_option maxHeartbeats 8000000 in
set_option maxRecDepth 100000 in
theorem XJ.calls (k : Nat) (A0 : Option Addr) (c0 : Nat) (l0 : List (S76)) (r : Int) (w : World) (hr0 : Kd.C k76 w A0 l0.length l0) (hc0 : l0.length ≤ c0) (h : XJ.f k l0 = some r) :
 Calls Tryz.prog 44 #[.slice A0 l0.length c0] w fun e w' => e = .returned (.int .i64 r) ∧ Below w.heap.size w w' := by
 have HR0 := az hr0; have HC0 := az hc0; clear hr0 hc0; have HB := az (Below.refl w.heap.size w); have H : (XJ.l0 k l0 0 1) = some r := h; clear h; have H' := az H; clear H
 go_enter Tryz.func44, Tryz.ntmps44
 go_wp2
 go_loopg [3, 4] k (fun kq v3 v4 w' => ∃ (Xt : Int) (XG : Int), v3 = .int .i64 Xt ∧ v4 = .int .i64 XG ∧ Aside0 (XJ.l0 kq l0 Xt XG = some r) ∧ Aside0 (kq ≤ k) ∧ Aside0 (Below w.heap.size w w'))
 case atStart => exact ⟨(0), (1), zb6, zb6, H', ⟨Nat.le_refl _⟩, ⟨zb1⟩⟩
 case round =>
  clear H'; obtain ⟨Xt, XG, rfl, rfl, HA, HK1, HB⟩ := hrel
  cases gk with
  | zero => exact absurd HA.out (by simp [XJ.l0])
  | succ k1 =>
   have H := HA.out; clear HA; simp only [XJ.l0] at H
   by_cases c2 : XG ≤ 3
   ·rw [if_pos c2] at H
    have c2b0 : decide (XG ≤ 3) = true := decide_eq_true c2; clear c2; replace H := Option.bind_eq_some_iff.mp H; obtain ⟨Rv, A30, H⟩ := H; replace H : (if Rv > 0 then (XJ.j1 k1 l0 (wrap64 (Xt + 1)) XG Rv) else (XJ.j1 k1 l0 Xt XG Rv)) = some r := H; have A3 := az A30; clear A30; have HC4 := az H; clear H
    go_upto_if 14 with (first | ((with_reducible refine Xi (f := 72) rfl ?_); refine XI (some 12) rfl rfl Tryz.func72 zb9 rfl #[.slice A0 l0.length c0, .int .i64 XG] rfl zb2 ?_; (with_reducible refine (Y2.calls k1 _ _ l0 XG Rv _ ?side1 ?side2 A3.out).mono ?_); (case side1 => exact zb15); (case side2 => exact HC0.out); rintro e w' ⟨rfl, ⟨nd, rfl⟩⟩; refine ⟨_, rfl, ?_⟩))
    (try simp only [Act.put, List.setIfInBounds_toArray, List.set_cons_zero, List.set_cons_succ])
    go_cut [3] (fun v3 wc => ∃ (kq : Nat) (Cx : Int), v3 = .int .i64 Cx ∧ Aside0 (XJ.j1 kq l0 Cx XG Rv = some r) ∧ Aside0 (kq ≤ k1) ∧ Aside0 (Below w.heap.size w wc))
    case first =>
     have H := HC4.out; clear HC4
     by_cases c5 : Rv > 0
     ·rw [if_pos c5] at H
      have c5b0 : decide (0 < Rv) = true := decide_eq_true c5; clear c5
      (first | rw [c5b0] | (simp only [X9, XK]; rw [c5b0]) | skip)
      have H' := az H; clear H
      go_wp2
      go_meet
      case rel => exact ⟨_, (wrap64 (Xt + 1)), zb6, H', ⟨zb66⟩, ⟨zb1⟩⟩
     ·rw [if_neg c5] at H
      have c5b0 : decide (0 < Rv) = false := decide_eq_false c5; clear c5
      (first | rw [c5b0] | (simp only [X9, XK]; rw [c5b0]) | skip)
      have H' := az H; clear H
      go_wp2
      go_meet
      case rel => exact ⟨_, (Xt), zb6, H', ⟨zb66⟩, ⟨zb1⟩⟩
    case rest =>
     clear HC4;(try clear c2);(try clear c2b0);(try clear p2);(try clear c4);(try clear c5);(try clear c5b0)
     obtain ⟨kq, Cx, rfl, HA, HJ3, HB⟩ := hcut
     cases kq with
     | zero => exact absurd HA.out (by simp [XJ.j1])
     | succ kj3 =>
      have H := HA.out; clear HA; simp only [XJ.j1] at H; replace H := Option.bind_eq_some_iff.mp H; obtain ⟨Xqt, A60, H⟩ := H; replace H : (XJ.l1 kj3 l0 Cx XG Xqt) = some r := H; have A6 := az A60; clear A60; have H' := az H; clear H
      go_wp2_with (first | ((with_reducible refine Xi (f := 73) rfl ?_); refine XI (some 19) rfl rfl Tryz.func73 zb9 rfl #[.slice A0 l0.length c0, .int .i64 Rv] rfl zb2 ?_; (with_reducible refine (XO.calls kj3 _ _ l0 Rv Xqt _ ?side1 ?side2 A6.out).mono ?_); (case side1 => exact zb15); (case side2 => exact HC0.out); rintro e w7 ⟨rfl, hb⟩; refine ⟨_, rfl, ?_⟩; replace HB := az (Xc zb1 hb); (try clear hb); (try clear hb2); (try clear hk); (try clear hi)))
      go_loopg [3, 5] kj3 (fun kq v3 v5 w' => ∃ (Cx : Int) (XfD : Int), v3 = .int .i64 Cx ∧ v5 = .int .i64 XfD ∧ Aside0 (XJ.l1 kq l0 Cx XG XfD = some r) ∧ Aside0 (kq ≤ kj3) ∧ Aside0 (Below w.heap.size w w'))
      case atStart => exact ⟨(Cx), (Xqt), zb6, zb6, H', ⟨Nat.le_refl _⟩, ⟨zb1⟩⟩
      case round =>
       clear H';(try clear c2);(try clear c2b0);(try clear p2);(try clear c4);(try clear c5);(try clear c5b0);(try clear p6);(try clear c7);(try clear p2)
       obtain ⟨Cx, XfD, rfl, rfl, HA, HK3, HB⟩ := hrel
       cases gk with
       | zero => exact absurd HA.out (by simp [XJ.l1])
       | succ k3 =>
        have H := HA.out; clear HA; simp only [XJ.l1] at H
        by_cases c8 : XfD > 0
        ·rw [if_pos c8] at H
         have c8b0 : decide (0 < XfD) = true := decide_eq_true c8; clear c8
         obtain ⟨ji9, hji9⟩ : ∃ j_ : Int, (wrap64 (XfD - 1)) = j_ := ⟨_, rfl⟩
         replace H : (if 0 ≤ (ji9) then (if (ji9) < (l0.length : Int) then ((XO.f k3 l0 ((Xa l0 (ji9)).f6)).bind fun Xik => (XJ.l1 k3 l0 (wrap64 (Cx + 1)) XG Xik)) else (none)) else (none)) = some r := by first | (rw [hji9] at H; exact H) | (simp only [hji9] at H ⊢; exact H)
         have hji9w : (IntKind.i64.wrap (XfD - 1)) = ji9 := (X9 _).trans hji9
         by_cases c10 : 0 ≤ (ji9)
         ·rw [if_pos c10] at H
          have Vu : decide (0 ≤ (ji9)) = true := decide_eq_true c10; clear c10
          by_cases c11 : (ji9) < (l0.length : Int)
          ·rw [if_pos c11] at H
           have OT : decide ((ji9) < (l0.length : Int)) = true := decide_eq_true c11; clear c11; replace H := Option.bind_eq_some_iff.mp H; obtain ⟨Xik, Xqu, H⟩ := H; replace H : (XJ.l1 k3 l0 (wrap64 (Cx + 1)) XG Xik) = some r := H; have A12 := az Xqu; clear Xqu; have H' := az H; clear H; have Xyf : 0 ≤ ((ji9) : Int) := of_decide_eq_true zb3; have Xyg : (ji9) < (l0.length : Int) := of_decide_eq_true zb3; obtain ⟨X07, e200, Xl6, Xl7, Xl8, Xl9, XlA, XlB, XlC, XlD⟩ := Yt HR0.out (ji9) Xyf Xyg
           cases e200
           replace Xl6 := cb HB Xl6; replace Xl7 := cb HB Xl7; replace Xl8 := cb HB Xl8; replace Xl9 := cb HB Xl9; replace XlA := cb HB XlA; replace XlB := cb HB XlB; replace XlC := cb HB XlC; replace XlD := cb HB XlD; replace Xyf := eq_true Xyf; replace Xyg := eq_true Xyg
           go_wp2_with (first | ((with_reducible refine Xi (f := 73) rfl ?_); refine XI (some 29) rfl rfl Tryz.func73 zb9 rfl #[.slice (some X07) l0.length c0, .int .i64 ((Xa l0 (ji9)).f6)] rfl zb95 ?_; (with_reducible refine (XO.calls k3 _ _ l0 ((Xa l0 (ji9)).f6) Xik _ ?side1 ?side2 A12.out).mono ?_); (case side1 => exact zb15); (case side2 => exact HC0.out); rintro e w13 ⟨rfl, hb⟩; refine ⟨_, rfl, ?_⟩; replace HB := az (Xc zb1 hb); (try clear hb); (try clear hb2); (try clear hk); (try clear hi)))
           go_roundg k3
           case measure => have := HK1.out; have := HJ3.out; have := HK3.out; omega
           case rel => exact ⟨(wrap64 (Cx + 1)), (Xik), zb6, zb6, H', ⟨by have := HK1.out; have := HJ3.out; have := HK3.out; omega⟩, ⟨zb1⟩⟩
          ·rw [if_neg c11] at H
           exact absurd H (by simp)
         ·rw [if_neg c10] at H
          exact absurd H (by simp)
        ·rw [if_neg c8] at H
         have c8b0 : decide (0 < XfD) = false := decide_eq_false c8; clear c8; have H' := az H; clear H
         go_wp2
         go_roundg k3
         case measure => have := HK1.out; have := HJ3.out; have := HK3.out; omega
         case rel => exact ⟨(Cx), (wrap64 (XG + 1)), zb6, zb6, H', ⟨by have := HK1.out; have := HJ3.out; have := HK3.out; omega⟩, ⟨zb1⟩⟩
   ·rw [if_neg c2] at H
    have c2b0 : decide (XG ≤ 3) = false := decide_eq_false c2; clear c2; obtain rfl := Option.some.inj H
    go_wp2
    go_ret
    exact ⟨zb4, zb1⟩
end Go.Proofs.YtphnphmbfogmlaaGreat.Pr
