import Derived.Test.YtphnphmbfogmlaaGreatQEByq
import Derived.Test.YtphnphmbfogmlaaGreatQEPrK
import Derived.Test.YtphnphmbfogmlaaGreatQESx
import Derived.Test.YtphnphmbfogmlaaGreatQEPrM
import Derived.Test.YtphnphmbfogmlaaGreatQEPrLO2
namespace Go.Proofs.YtphnphmbfogmlaaGreat.Pr
open Go.RowKit Go.PW Go.PL Go.PM
attribute [local go_sem] YO YP Zm Zn Yv Yw YQ YS
set_option linter.unusedVariables false
set_option linter.unusedSimpArgs false
mutual
def Yd.l0 : Nat → List (S76) → Int → Option (Int)
 | 0, _, _ => none
 | k + 1, x0, x1 => if x1 = 0 then (some 0) else (if 0 ≤ (wrap64 (x1 - 1)) then (if (wrap64 (x1 - 1)) < (x0.length : Int) then (if ((Xa x0 (wrap64 (x1 - 1))).f0) = 1 then (Yd.j1 k x0 x1 ((Xa x0 (wrap64 (x1 - 1))).f0) (((Xa x0 (wrap64 (x1 - 1))).f0) == 1) ((Xa x0 (wrap64 (x1 - 1))).f0) ((Xa x0 (wrap64 (x1 - 1))).f1) ((Xa x0 (wrap64 (x1 - 1))).f2) ((Xa x0 (wrap64 (x1 - 1))).f3) ((Xa x0 (wrap64 (x1 - 1))).f4) ((Xa x0 (wrap64 (x1 - 1))).f5) ((Xa x0 (wrap64 (x1 - 1))).f6) ((Xa x0 (wrap64 (x1 - 1))).f7)) else (Yd.j1 k x0 x1 ((Xa x0 (wrap64 (x1 - 1))).f0) (((Xa x0 (wrap64 (x1 - 1))).f0) == 2) ((Xa x0 (wrap64 (x1 - 1))).f0) ((Xa x0 (wrap64 (x1 - 1))).f1) ((Xa x0 (wrap64 (x1 - 1))).f2) ((Xa x0 (wrap64 (x1 - 1))).f3) ((Xa x0 (wrap64 (x1 - 1))).f4) ((Xa x0 (wrap64 (x1 - 1))).f5) ((Xa x0 (wrap64 (x1 - 1))).f6) ((Xa x0 (wrap64 (x1 - 1))).f7))) else (none)) else (none))
def Yd.j1 : Nat → List (S76) → Int → Int → Bool → Int → Int → Int → Int → Int → Int → Int → Int → Option (Int)
 | 0, _, _, _, _, _, _, _, _, _, _, _, _ => none
 | k + 1, x0, x1, x14, x17, X5k, X5l, X5m, X5n, X5o, X5p, Xvi, Xvj => if x17 = true then (some x1) else (if x14 = 6 then (Yd.l0 k x0 Xvj) else (Yd.l0 k x0 Xvi))
end
def Yd.f (k : Nat) (l0 : List (S76)) (a1 : Int) : Option (Int) := Yd.l0 k l0 a1
set_option maxHeartbeats 8000000 in
set_option maxRecDepth 100000 in
theorem Yd.calls (k : Nat) (A0 : Option Addr) (c0 : Nat) (l0 : List (S76)) (a1 : Int) (r : Int) (w : World) (hr0 : Kd.C k76 w A0 l0.length l0) (hc0 : l0.length ≤ c0) (h : Yd.f k l0 a1 = some r) :
 Calls Tryz.prog 114 #[.slice A0 l0.length c0, .int .i64 a1] w fun e w' => e = .returned (.int .i64 r) ∧ Below w.heap.size w w' := by
 have hu76 := Tryz.underlying76; have HR0 := az hr0; have HC0 := az hc0; clear hr0 hc0; have HB := az (Below.refl w.heap.size w); have H : (Yd.l0 k l0 a1) = some r := h; clear h; have H' := az H; clear H
 go_enter Tryz.func114, Tryz.ntmps114
 go_wp2
 go_loopg [1] k (fun kq v1 w' => ∃ (Dq : Int), v1 = .int .i64 Dq ∧ Aside0 (Yd.l0 kq l0 Dq = some r) ∧ Aside0 (kq ≤ k) ∧ Aside0 (Below w.heap.size w w'))
 case atStart => exact ⟨(a1), zb6, H', ⟨Nat.le_refl _⟩, ⟨zb1⟩⟩
 case round =>
  clear H';(try clear c1);(try clear p2)
  obtain ⟨Dq, rfl, HA, HK1, HB⟩ := hrel
  cases gk with
  | zero => exact absurd HA.out (by simp [Yd.l0])
  | succ k1 =>
   have H := HA.out; clear HA; simp only [Yd.l0] at H
   by_cases c3 : Dq = 0
   ·rw [if_pos c3] at H
    have c3b0 : (Dq == 0) = true := beq_iff_eq.mpr c3; have c3b1 : (Dq != 0) = false := bne_eq_false_iff_eq.mpr c3; clear c3; obtain rfl := Option.some.inj H
    go_wp2
    go_ret
    exact ⟨zb4, zb1⟩
   ·rw [if_neg c3] at H
    have c3b0 : (Dq == 0) = false := beq_eq_false_iff_ne.mpr c3; have c3b1 : (Dq != 0) = true := bne_iff_ne.mpr c3
    obtain ⟨ji4, hji4⟩ : ∃ j_ : Int, (wrap64 (Dq - 1)) = j_ := ⟨_, rfl⟩
    replace H : (if 0 ≤ (ji4) then (if (ji4) < (l0.length : Int) then (if ((Xa l0 (ji4)).f0) = 1 then (Yd.j1 k1 l0 Dq ((Xa l0 (ji4)).f0) (((Xa l0 (ji4)).f0) == 1) ((Xa l0 (ji4)).f0) ((Xa l0 (ji4)).f1) ((Xa l0 (ji4)).f2) ((Xa l0 (ji4)).f3) ((Xa l0 (ji4)).f4) ((Xa l0 (ji4)).f5) ((Xa l0 (ji4)).f6) ((Xa l0 (ji4)).f7)) else (Yd.j1 k1 l0 Dq ((Xa l0 (ji4)).f0) (((Xa l0 (ji4)).f0) == 2) ((Xa l0 (ji4)).f0) ((Xa l0 (ji4)).f1) ((Xa l0 (ji4)).f2) ((Xa l0 (ji4)).f3) ((Xa l0 (ji4)).f4) ((Xa l0 (ji4)).f5) ((Xa l0 (ji4)).f6) ((Xa l0 (ji4)).f7))) else (none)) else (none)) = some r := by first | (rw [hji4] at H; exact H) | (simp only [hji4] at H ⊢; exact H)
    have hji4w : (IntKind.i64.wrap (Dq - 1)) = ji4 := (X9 _).trans hji4
    by_cases c5 : 0 ≤ (ji4)
    ·rw [if_pos c5] at H
     have c5b0 : decide (0 ≤ (ji4)) = true := decide_eq_true c5; clear c5
     by_cases c6 : (ji4) < (l0.length : Int)
     ·rw [if_pos c6] at H
      have c6b0 : decide ((ji4) < (l0.length : Int)) = true := decide_eq_true c6; clear c6; have HC7 := az H; clear H; have Xvk : 0 ≤ ((ji4) : Int) := of_decide_eq_true zb3; have Xvl : (ji4) < (l0.length : Int) := of_decide_eq_true zb3; obtain ⟨ad430, e430, Xes, Xet, Xeu, Xev, Xew, Xex, Xey, Xez⟩ := Yt HR0.out (ji4) Xvk Xvl
      cases e430
      replace Xes := cb HB Xes; replace Xet := cb HB Xet; replace Xeu := cb HB Xeu; replace Xev := cb HB Xev; replace Xew := cb HB Xew; replace Xex := cb HB Xex; replace Xey := cb HB Xey; replace Xez := cb HB Xez; replace Xvk := eq_true Xvk; replace Xvl := eq_true Xvl
      go_upto_if 17 with (first | ((with_reducible refine Xn (N := 5) rfl ?_); refine Xl ?hg (N := 5) ?hd (cs := #[.int .i64 0, .int .i64 0, .int .i64 0, .int .i64 0, .int .i64 0, .int .i64 0, .int .i64 0, .int .i64 0]) (t := 76) ?hr ?_; (case hd => rfl); (case hg => rfl); (case hr => exact zb10); intro XwD hg w8 hbox hb; have Lc := az (hbox); have X0M := az ((zb129 : w.heap.size ≤ XwD)); have GE431 := X0M; replace HB := az (Xc zb1 hb); clear hb hbox hg; obtain ⟨WY, WZ, Pb, LC, LD, I1, I4, I5⟩ := cz8 Lc; obtain ⟨Pd, Pe, Pf, LF, LG, I6, I7⟩ := fz7 Lc; have I8 := Xd Lc.out 7))
      (try simp only [Act.put, List.setIfInBounds_toArray, List.set_cons_zero, List.set_cons_succ])
      go_cut [17] (fun v17 wc => ∃ (kq : Nat) (Ru : Bool), v17 = .bool Ru ∧ Aside0 (Yd.j1 kq l0 Dq ((Xa l0 (ji4)).f0) Ru ((Xa l0 (ji4)).f0) ((Xa l0 (ji4)).f1) ((Xa l0 (ji4)).f2) ((Xa l0 (ji4)).f3) ((Xa l0 (ji4)).f4) ((Xa l0 (ji4)).f5) ((Xa l0 (ji4)).f6) ((Xa l0 (ji4)).f7) = some r) ∧ Aside0 (kq ≤ k1) ∧ Aside0 (wc.heap[XwD]? = some (.cells #[.int .i64 ((Xa l0 (ji4)).f0), .int .i64 ((Xa l0 (ji4)).f1), .int .i64 ((Xa l0 (ji4)).f2), .int .i64 ((Xa l0 (ji4)).f3), .int .i64 ((Xa l0 (ji4)).f4), .int .i64 ((Xa l0 (ji4)).f5), .int .i64 ((Xa l0 (ji4)).f6), .int .i64 ((Xa l0 (ji4)).f7)] 76 (0, 0))) ∧ Aside0 (Below w.heap.size w wc))
      case first =>
       have H := HC7.out; clear HC7
       by_cases c10 : ((Xa l0 (ji4)).f0) = 1
       ·rw [if_pos c10] at H
        have Vu : (((Xa l0 (ji4)).f0) == 1) = true := beq_iff_eq.mpr c10; have Nn : (((Xa l0 (ji4)).f0) != 1) = false := bne_eq_false_iff_eq.mpr c10; clear c10
        (first | rw [Vu] | (simp only [X9, XK]; rw [Vu]) | skip)
        have H' := az H; clear H
        go_wp2
        go_meet
        case rel => exact ⟨_, ((((Xa l0 (ji4)).f0) == 1)), zb34, H', ⟨zb66⟩, ⟨by (with_reducible repeat (first | apply bn | apply bd | apply ba)); exact p8 Lc⟩, ⟨zb0⟩⟩
       ·rw [if_neg c10] at H
        have Vu : (((Xa l0 (ji4)).f0) == 1) = false := beq_eq_false_iff_ne.mpr c10; have Nn : (((Xa l0 (ji4)).f0) != 1) = true := bne_iff_ne.mpr c10
        (first | rw [Vu] | (simp only [X9, XK]; rw [Vu]) | skip)
        have H' := az H; clear H
        go_wp2
        go_meet
        case rel => exact ⟨_, ((((Xa l0 (ji4)).f0) == 2)), zb34, H', ⟨zb66⟩, ⟨by (with_reducible repeat (first | apply bn | apply bd | apply ba)); exact p8 Lc⟩, ⟨zb0⟩⟩
      case rest =>
       clear HC7;(try clear c1);(try clear p2);(try clear c3);(try clear c3b0);(try clear c3b1);(try clear p4);(try clear q4);(try clear hx4);(try clear c5);(try clear c5b0);(try clear c6);(try clear c6b0);(try clear p6);(try clear c10);(try clear Vu);(try clear Nn);(try clear WY);(try clear WZ);(try clear Pb);(try clear LC);(try clear LD);(try clear I1);(try clear I4);(try clear I5);(try clear Pd);(try clear Pe);(try clear Pf);(try clear LF);(try clear LG);(try clear I6);(try clear I7);(try clear I8);(try clear Xes);(try clear Xet);(try clear Xeu);(try clear Xev);(try clear Xew);(try clear Xex);(try clear Xey);(try clear Xez);(try clear p2);(try clear Xvk);(try clear Xvl)
       obtain ⟨kq, Ru, rfl, HA, HJ6, Lc, HB⟩ := hcut
       cases kq with
       | zero => exact absurd HA.out (by simp [Yd.j1])
       | succ kj6 =>
        have H := HA.out; clear HA; simp only [Yd.j1] at H
        by_cases c11 : Ru = true
        ·subst c11
         have H1 : (some Dq) = some r := by rw [if_pos rfl] at H; exact H
         clear H; have H := H1; clear H1; obtain rfl := Option.some.inj H
         go_wp2
         go_ret
         exact ⟨zb94, zb0⟩
        ·replace c11 := Bool.eq_false_iff.mpr c11
         subst c11
         have H1 : (if ((Xa l0 (ji4)).f0) = 6 then (Yd.l0 kj6 l0 ((Xa l0 (ji4)).f7)) else (Yd.l0 kj6 l0 ((Xa l0 (ji4)).f6))) = some r := by rw [if_neg (show ¬ (false = true) by decide)] at H; exact H
         clear H; have H := H1; clear H1
         by_cases c12 : ((Xa l0 (ji4)).f0) = 6
         ·rw [if_pos c12] at H
          have WQ : (((Xa l0 (ji4)).f0) == 6) = true := beq_iff_eq.mpr c12; have XaK : (((Xa l0 (ji4)).f0) != 6) = false := bne_eq_false_iff_eq.mpr c12; clear c12; have H' := az H; clear H; obtain ⟨Kw, Ky, Kz, TZ, Ra, Xuy, Xuz, Xu0⟩ := cz8 Lc; obtain ⟨K3, K4, K5, Rb, Re, Xu1, Xu2, Xu3⟩ := fz8 Lc
          go_wp2
          go_roundg kj6
          case measure => have := HK1.out; have := HJ6.out; omega
          case rel => exact ⟨(((Xa l0 (ji4)).f7)), zb34, H', ⟨zb125⟩, ⟨zb0⟩⟩
         ·rw [if_neg c12] at H
          have WQ : (((Xa l0 (ji4)).f0) == 6) = false := beq_eq_false_iff_ne.mpr c12; have XaK : (((Xa l0 (ji4)).f0) != 6) = true := bne_iff_ne.mpr c12; have H' := az H; clear H; obtain ⟨FP, FQ, FR, U6, U7, XdI, XdJ, XdK⟩ := cz8 Lc; obtain ⟨FT, FU, FV, U8, U9, XdL, XdM, XdN⟩ := fz8 Lc
          go_wp2
          go_roundg kj6
          case measure => have := HK1.out; have := HJ6.out; omega
          case rel => exact ⟨(((Xa l0 (ji4)).f6)), zb34, H', ⟨zb125⟩, ⟨zb0⟩⟩
     ·rw [if_neg c6] at H
      exact absurd H (by simp)
    ·rw [if_neg c5] at H
     exact absurd H (by simp)
def Zp.l0 : Nat → List (S76) → List Int → Int → Option (List Int)
 | 0, _, _, _ => none
 | k + 1, x0, x5, x6 => if x6 = 0 then (some x5) else (if x5.length < 17592186044416 then (if 0 ≤ (wrap64 (x6 - 1)) then (if (wrap64 (x6 - 1)) < (x0.length : Int) then ((Yd.f k x0 ((Xa x0 (wrap64 (x6 - 1))).f6)).bind fun Xe0 => (Zp.l0 k x0 (x5 ++ [x6]) Xe0)) else (none)) else (none)) else (none))
def Zp.f (k : Nat) (l0 : List (S76)) (a1 : Int) : Option (List Int) := (JE.f k l0 a1).bind fun XfK => ((Yd.f k l0 XfK).bind fun Xe1 => (Zp.l0 k l0 ([] : List Int) Xe1))
set_option maxHeartbeats 8000000 in
set_option maxRecDepth 100000 in
theorem Zp.calls (k : Nat) (A0 : Option Addr) (c0 : Nat) (l0 : List (S76)) (a1 : Int) (r : List Int) (w : World) (hr0 : Kd.C k76 w A0 l0.length l0) (hc0 : l0.length ≤ c0) (h : Zp.f k l0 a1 = some r) :
 Calls Tryz.prog 103 #[.slice A0 l0.length c0, .int .i64 a1] w fun e w' => ∃ v0_ : Value, e = .returned (v0_) ∧ Kd.R (Kd.int .i64) 3 w' w.heap.size (fun _ => True) v0_ r ∧ Below w.heap.size w w' := by
 have HR0 := az hr0; have HC0 := az hc0; clear hr0 hc0; have HB := az (Below.refl w.heap.size w); have H : ((JE.f k l0 a1).bind fun XfK => ((Yd.f k l0 XfK).bind fun Xe1 => (Zp.l0 k l0 ([] : List Int) Xe1))) = some r := h; clear h; replace H := Option.bind_eq_some_iff.mp H; obtain ⟨XfK, A30, H⟩ := H; replace H : ((Yd.f k l0 XfK).bind fun Xe1 => (Zp.l0 k l0 ([] : List Int) Xe1)) = some r := H; have A3 := az A30; clear A30; replace H := Option.bind_eq_some_iff.mp H; obtain ⟨Xe1, A40, H⟩ := H; replace H : (Zp.l0 k l0 ([] : List Int) Xe1) = some r := H; have A4 := az A40; clear A40; have H' := az H; clear H
 go_enter Tryz.func103, Tryz.ntmps103
 go_wp2_with (first | ((with_reducible refine Xi (f := 89) rfl ?_); refine XI (some 10) rfl rfl Tryz.func89 zb9 rfl #[.slice A0 l0.length c0, .int .i64 a1] rfl zb2 ?_; (with_reducible refine (JE.calls k _ _ l0 a1 XfK _ ?side1 ?side2 A3.out).mono ?_); (case side1 => exact zb16); (case side2 => exact HC0.out); rintro e w5 ⟨rfl, hb⟩; refine ⟨_, rfl, ?_⟩; replace HB := az (Xc zb1 hb); (try clear hb); (try clear hb2); (try clear hk); (try clear hi)) | ((with_reducible refine Xi (f := 114) rfl ?_); refine XI (some 11) rfl rfl Tryz.func114 zb9 rfl #[.slice A0 l0.length c0, .int .i64 XfK] rfl zb2 ?_; (with_reducible refine (Yd.calls k _ _ l0 XfK Xe1 _ ?side1 ?side2 A4.out).mono ?_); (case side1 => exact zb15); (case side2 => exact HC0.out); rintro e w6 ⟨rfl, hb⟩; refine ⟨_, rfl, ?_⟩; replace HB := az (Xc zb1 hb); (try clear hb); (try clear hb2); (try clear hk); (try clear hi)))
 go_loopg [5, 6] k (fun kq v5 v6 w' => ∃ (Xk : List Int) (Yn : Int), v6 = .int .i64 Yn ∧ Aside0 (Zp.l0 kq l0 Xk Yn = some r) ∧ Aside0 (kq ≤ k) ∧ Aside0 (Kd.R (Kd.int .i64) 3 w' w.heap.size (fun _ => True) v5 Xk) ∧ Aside0 (Below w.heap.size w w'))
 case atStart => exact ⟨(([] : List Int)), (Xe1), zb6, H', ⟨Nat.le_refl _⟩, ⟨zb54⟩, ⟨zb1⟩⟩
 case round =>
  clear H';(try clear c1);(try clear p2)
  obtain ⟨Xk, Yn, rfl, HA, HK1, HO_5, HB⟩ := hrel
  cases gk with
  | zero => exact absurd HA.out (by simp [Zp.l0])
  | succ k1 =>
   have H := HA.out; clear HA; simp only [Zp.l0] at H
   by_cases c7 : Yn = 0
   ·rw [if_pos c7] at H
    have c7b0 : (Yn == 0) = true := beq_iff_eq.mpr c7; have c7b1 : (Yn != 0) = false := bne_eq_false_iff_eq.mpr c7; clear c7; obtain rfl := Option.some.inj H
    go_wp2
    go_ret
    exact ⟨_, zb4, zb80, zb1⟩
   ·rw [if_neg c7] at H
    have c7b0 : (Yn == 0) = false := beq_eq_false_iff_ne.mpr c7; have c7b1 : (Yn != 0) = true := bne_iff_ne.mpr c7
    by_cases c8 : Xk.length < 17592186044416
    ·rw [if_pos c8] at H
     have LMc8 := az c8; clear c8
     obtain ⟨Xvm, hy434⟩ : ∃ y_ : List Int, y_ = (Xk ++ [Yn]) := ⟨_, rfl⟩
     replace H : (if 0 ≤ (wrap64 (Yn - 1)) then (if (wrap64 (Yn - 1)) < (l0.length : Int) then ((Yd.f k1 l0 ((Xa l0 (wrap64 (Yn - 1))).f6)).bind fun Xe0 => (Zp.l0 k1 l0 Xvm Xe0)) else (none)) else (none)) = some r := by first | (rw [hy434]; with_reducible exact H) | (have H2_ := (Option.bind_some _ _).symm.trans H; rw [hy434]; with_reducible exact H2_) | (have H2_ := (Option.bind_some _ _).symm.trans H; with_reducible exact H2_) | with_reducible exact H | (rw [hy434]; exact H) | exact H
     have Ny434 := az hy434; clear hy434
     obtain ⟨ji9, hji9⟩ : ∃ j_ : Int, (wrap64 (Yn - 1)) = j_ := ⟨_, rfl⟩
     replace H : (if 0 ≤ (ji9) then (if (ji9) < (l0.length : Int) then ((Yd.f k1 l0 ((Xa l0 (ji9)).f6)).bind fun Xe0 => (Zp.l0 k1 l0 Xvm Xe0)) else (none)) else (none)) = some r := by first | (rw [hji9] at H; exact H) | (simp only [hji9] at H ⊢; exact H)
     have hji9w : (IntKind.i64.wrap (Yn - 1)) = ji9 := (X9 _).trans hji9
     by_cases c10 : 0 ≤ (ji9)
     ·rw [if_pos c10] at H
      have Vu : decide (0 ≤ (ji9)) = true := decide_eq_true c10; clear c10
      by_cases c11 : (ji9) < (l0.length : Int)
      ·rw [if_pos c11] at H
       have OT : decide ((ji9) < (l0.length : Int)) = true := decide_eq_true c11; clear c11; replace H := Option.bind_eq_some_iff.mp H; obtain ⟨Xe0, Xqu, H⟩ := H; replace H : (Zp.l0 k1 l0 Xvm Xe0) = some r := H; have A12 := az Xqu; clear Xqu; have H' := az H; clear H
       go_wp2_with (first | ((with_reducible refine JV (b := .append) (xs := #[.tmp 22, .tmp 24]) rfl ?_); at_builtin; refine Kd.Sv (Kd.int .i64) (w0 := w) w.heap.size rfl (.tmp 22) (.tmp 24) 37 3 (.int .i64 0) 8 rfl Tryz.underlying37 info3 rfl (by decide) (by omega) u5 Xk Yn [.int .i64 Yn] (fun _ => True) (fun _ => False) rfl rfl ?aP (fun _ hk => hk.elim) ?aF ?aO ?aB ?aS ?aL ?_; (case aP => exact rfl); (case aB => exact zb1); (case aF => exact (fun _ _ => trivial)); (case aO => exact zb80); (case aS => exact (Xv zb1)); (case aL => have := LMc8.out; omega); intro v435 w13 ho hb hg hat; rw [← Ny434.out] at ho; replace HB := az (hb); have Xq1 := az (ho); clear HO_5; clear ho hb hg hat; have Xyy : 0 ≤ ((ji9) : Int) := of_decide_eq_true zb3; have Xyz : (ji9) < (l0.length : Int) := of_decide_eq_true zb3; obtain ⟨X0N, e437, Xma, Xmb, Xmc, Xmd, Xme, Xmf, Xmg, Xmh⟩ := Yt HR0.out (ji9) Xyy Xyz; cases e437; replace Xma := cb HB Xma; replace Xmb := cb HB Xmb; replace Xmc := cb HB Xmc; replace Xmd := cb HB Xmd; replace Xme := cb HB Xme; replace Xmf := cb HB Xmf; replace Xmg := cb HB Xmg; replace Xmh := cb HB Xmh; replace Xyy := eq_true Xyy; replace Xyz := eq_true Xyz) | ((with_reducible refine Xi (f := 114) rfl ?_); refine XI (some 21) rfl rfl Tryz.func114 zb9 rfl #[.slice (some X0N) l0.length c0, .int .i64 ((Xa l0 (ji9)).f6)] rfl zb95 ?_; (with_reducible refine (Yd.calls k1 _ _ l0 ((Xa l0 (ji9)).f6) Xe0 _ ?side1 ?side2 A12.out).mono ?_); (case side1 => exact zb15); (case side2 => exact HC0.out); rintro e w14 ⟨rfl, hb⟩; refine ⟨_, rfl, ?_⟩; replace Xq1 := az (Kd.X3 (by (with_reducible repeat (first | apply Kd.XU | apply Kd.XX | apply Kd.Yj)); exact Xq1.out) hb); replace HB := az (Xc zb1 hb); (try clear hb); (try clear hb2); (try clear hk); (try clear hi)))
       go_roundg k1
       case measure => have := HK1.out; omega
       case rel => exact ⟨(Xvm), (Xe0), zb6, H', ⟨zb37⟩, ⟨by (with_reducible repeat (first | apply Kd.XU | apply Kd.XX | apply Kd.Yj)); exact Xq1.out⟩, ⟨zb1⟩⟩
      ·rw [if_neg c11] at H
       exact absurd H (by simp)
     ·rw [if_neg c10] at H
      exact absurd H (by simp)
    ·rw [if_neg c8] at H
     exact absurd H (by simp)
def ZZ.l0 : Nat → List (S76) → Int → List Int → Int → Int → Option (Int)
 | 0, _, _, _, _, _ => none
 | k + 1, x0, x3, x7, x8, x9 => if x9 < x8 then (if 0 ≤ x9 then (if x9 < (x7.length : Int) then ((Zp.f k x0 (rd x7 x9)).bind fun Xq2 => (ZZ.l0 k x0 (wrap64 (x3 + (wrap64 ((Xq2.length : Int) + 1)))) x7 x8 (wrap64 (x9 + 1)))) else (none)) else (none)) else (some x3)
def ZZ.f (k : Nat) (l0 : List (S76)) : Option (Int) := (Zw.f k l0).bind fun ML => (ZZ.l0 k l0 0 ML (ML.length : Int) 0)
set_option maxHeartbeats 8000000 in
set_option maxRecDepth 100000 in
theorem ZZ.calls (k : Nat) (A0 : Option Addr) (c0 : Nat) (l0 : List (S76)) (r : Int) (w : World) (hr0 : Kd.C k76 w A0 l0.length l0) (hc0 : l0.length ≤ c0) (h : ZZ.f k l0 = some r) :
 Calls Tryz.prog 82 #[.slice A0 l0.length c0] w fun e w' => e = .returned (.int .i64 r) ∧ Below w.heap.size w w' := by
 have HR0 := az hr0; have HC0 := az hc0; clear hr0 hc0; have HB := az (Below.refl w.heap.size w); have H : ((Zw.f k l0).bind fun ML => (ZZ.l0 k l0 0 ML (ML.length : Int) 0)) = some r := h; clear h; replace H := Option.bind_eq_some_iff.mp H; obtain ⟨ML, A20, H⟩ := H; replace H : (ZZ.l0 k l0 0 ML (ML.length : Int) 0) = some r := H; have A2 := az A20; clear A20; have H' := az H; clear H
 go_enter Tryz.func82, Tryz.ntmps82
 go_wp2_with (first | ((with_reducible refine Xi (f := 59) rfl ?_); refine XI (some 7) rfl rfl Tryz.func59 zb9 rfl #[.slice A0 l0.length c0] rfl zb2 ?_; (with_reducible refine (Zw.calls k _ _ l0 ML _ ?side1 ?side2 A2.out).mono ?_); (case side1 => exact zb16); (case side2 => exact HC0.out); rintro e w3 ⟨v440, rfl, ho0, hb⟩; refine ⟨_, rfl, ?_⟩; have XwE := az (Kd.Zh ho0 (Xv zb1)); replace HB := az (Xc zb1 hb); (try clear hb); (try clear hb2); (try clear hk); (try clear hi); (try clear ho0); obtain ⟨Ao4, co4, eo4⟩ := Kd.YZ XwE.out; subst eo4))
 go_loopg [3, 9] k (fun kq v3 v9 w' => ∃ (Xt : Int) (Pv : Int), v3 = .int .i64 Xt ∧ v9 = .int .i64 Pv ∧ Aside0 (ZZ.l0 kq l0 Xt ML (ML.length : Int) Pv = some r) ∧ Aside0 (kq ≤ k) ∧ Aside0 (Kd.R (Kd.int .i64) 3 w' w.heap.size (fun _ => True) (.slice Ao4 ML.length co4) ML) ∧ Aside0 (Below w.heap.size w w'))
 case atStart => exact ⟨(0), (0), zb6, zb6, H', ⟨Nat.le_refl _⟩, ⟨by (with_reducible repeat (first | apply Kd.XU | apply Kd.XX | apply Kd.Yj)); exact XwE.out⟩, ⟨zb1⟩⟩
 case round =>
  clear H';(try clear p2)
  obtain ⟨Xt, Pv, rfl, rfl, HA, HK1, HO_7, HB⟩ := hrel
  cases gk with
  | zero => exact absurd HA.out (by simp [ZZ.l0])
  | succ k1 =>
   have H := HA.out; clear HA; simp only [ZZ.l0] at H
   by_cases c5 : Pv < (ML.length : Int)
   ·rw [if_pos c5] at H
    have c5b0 : decide (Pv < (ML.length : Int)) = true := decide_eq_true c5; clear c5
    by_cases c6 : 0 ≤ Pv
    ·rw [if_pos c6] at H
     have c6b0 : decide (0 ≤ Pv) = true := decide_eq_true c6; clear c6
     by_cases c7 : Pv < (ML.length : Int)
     ·rw [if_pos c7] at H
      have c7b0 : decide (Pv < (ML.length : Int)) = true := decide_eq_true c7; clear c7; replace H := Option.bind_eq_some_iff.mp H; obtain ⟨Xq2, A80, H⟩ := H; replace H : (ZZ.l0 k1 l0 (wrap64 (Xt + (wrap64 ((Xq2.length : Int) + 1)))) ML (ML.length : Int) (wrap64 (Pv + 1))) = some r := H; have A8 := az A80; clear A80; have H' := az H; clear H; have Xy0 : 0 ≤ (Pv : Int) := of_decide_eq_true zb3; have Xy1 : Pv < (ML.length : Int) := of_decide_eq_true zb3; obtain ⟨ad442, e442, X5q⟩ := Kd.Jh (Kd.XN HO_7.out).2.2 Pv Xy0 Xy1
      cases e442
      replace Xy0 := eq_true Xy0; replace Xy1 := eq_true Xy1
      go_wp2_with (first | ((with_reducible refine Xi (f := 103) rfl ?_); refine XI (some 16) rfl rfl Tryz.func103 zb9 rfl #[.slice A0 l0.length c0, .int .i64 (rd ML Pv)] rfl zb2 ?_; (with_reducible refine (Zp.calls k1 _ _ l0 (rd ML Pv) Xq2 _ ?side1 ?side2 A8.out).mono ?_); (case side1 => exact zb15); (case side2 => exact HC0.out); rintro e w9 ⟨v444, rfl, ho0, hb⟩; refine ⟨_, rfl, ?_⟩; have X0O := az (Kd.Zh (Kd.DW ho0 (Kd.Ur zb26)) (Xv zb1)); replace HO_7 := az (Kd.JU zb26 (Kd.Vt ho0) hb); replace HB := az (Xc zb1 hb); (try clear hb); (try clear hb2); (try clear hk); (try clear hi); (try clear ho0); obtain ⟨Xij, Cw, eo10⟩ := Kd.YZ X0O.out; subst eo10))
      go_roundg k1
      case measure => have := HK1.out; omega
      case rel => exact ⟨(wrap64 (Xt + (wrap64 ((Xq2.length : Int) + 1)))), (wrap64 (Pv + 1)), zb6, zb6, H', ⟨zb37⟩, ⟨by (with_reducible repeat (first | apply Kd.XU | apply Kd.XX | apply Kd.Yj)); exact Kd.Yz HO_7.out (fun _ hk => trivial)⟩, ⟨zb1⟩⟩
     ·rw [if_neg c7] at H
      exact absurd H (by simp)
    ·rw [if_neg c6] at H
     exact absurd H (by simp)
   ·rw [if_neg c5] at H
    have c5b0 : decide (Pv < (ML.length : Int)) = false := decide_eq_false c5; clear c5; obtain rfl := Option.some.inj H
    go_wp2
    go_ret
    exact ⟨zb4, zb1⟩
def Sl.f (k : Nat) (l0 : List (S76)) : Option (Bool) := (ZZ.f k l0).bind fun Xoy => (some (decide ((wrap64 ((l0.length : Int) + Xoy)) ≤ 150)))
set_option maxHeartbeats 8000000 in
set_option maxRecDepth 100000 in
theorem Sl.calls (k : Nat) (A0 : Option Addr) (c0 : Nat) (l0 : List (S76)) (r : Bool) (w : World) (hr0 : Kd.C k76 w A0 l0.length l0) (hc0 : l0.length ≤ c0) (h : Sl.f k l0 = some r) :
 Calls Tryz.prog 52 #[.slice A0 l0.length c0] w fun e w' => e = .returned (.bool r) ∧ Below w.heap.size w w' := by
 have HR0 := az hr0; have HC0 := az hc0; clear hr0 hc0; have HB := az (Below.refl w.heap.size w); have H : ((ZZ.f k l0).bind fun Xoy => (some (decide ((wrap64 ((l0.length : Int) + Xoy)) ≤ 150)))) = some r := h; clear h; replace H := Option.bind_eq_some_iff.mp H; obtain ⟨Xoy, A20, H⟩ := H; replace H : (some (decide ((wrap64 ((l0.length : Int) + Xoy)) ≤ 150))) = some r := H; have A2 := az A20; clear A20; obtain rfl := Option.some.inj H
 go_enter Tryz.func52, Tryz.ntmps52
 go_wp2_with (first | ((with_reducible refine Xi (f := 82) rfl ?_); refine XI (some 6) rfl rfl Tryz.func82 zb9 rfl #[.slice A0 l0.length c0] rfl zb2 ?_; (with_reducible refine (ZZ.calls k _ _ l0 Xoy _ ?side1 ?side2 A2.out).mono ?_); (case side1 => exact zb16); (case side2 => exact HC0.out); rintro e w3 ⟨rfl, hb⟩; refine ⟨_, rfl, ?_⟩; replace HB := az (Xc zb1 hb); (try clear hb); (try clear hb2); (try clear hk); (try clear hi)))
 go_ret
 exact ⟨zb4, zb1⟩
def NN.f (X4 : Int) (XB : Int) (Jb : Int) (Xo : Int) (Xp : Int) (J5 : Int) (Jn : Int) (J9 : Int) (a1 : Int) : Option (Int × Int × Int × Int × Int × Int × Int × Int) := some (6, XB, Jb, Xo, 0, Xp, a1, Jn)
set_option maxHeartbeats 8000000 in
set_option maxRecDepth 100000 in
theorem NN.calls (X4 : Int) (XB : Int) (Jb : Int) (Xo : Int) (Xp : Int) (J5 : Int) (Jn : Int) (J9 : Int) (a1 : Int) (r1 : Int) (r2 : Int) (r3 : Int) (r4 : Int) (r5 : Int) (r6 : Int) (r7 : Int) (r8 : Int) (w : World) (h : NN.f X4 XB Jb Xo Xp J5 Jn J9 a1 = some (r1, r2, r3, r4, r5, r6, r7, r8)) :
 Calls Tryz.prog 104 #[.agg #[.int .i64 X4, .int .i64 XB, .int .i64 Jb, .int .i64 Xo, .int .i64 Xp, .int .i64 J5, .int .i64 Jn, .int .i64 J9], .int .i64 a1] w fun e w' => e = .returned (.agg #[.int .i64 r1, .int .i64 r2, .int .i64 r3, .int .i64 r4, .int .i64 r5, .int .i64 r6, .int .i64 r7, .int .i64 r8]) ∧ Below w.heap.size w w' := by
 have hu76 := Tryz.underlying76; have HB := az (Below.refl w.heap.size w); have H : (some (6, XB, Jb, Xo, 0, Xp, a1, Jn)) = some (r1, r2, r3, r4, r5, r6, r7, r8) := h; clear h; simp only [Option.some.injEq, Prod.mk.injEq] at H; obtain ⟨rfl, rfl, rfl, rfl, rfl, rfl, rfl, rfl⟩ := H
 go_enter Tryz.func104, Tryz.ntmps104
 go_wp2_with (first | ((with_reducible refine Xn (N := 2) rfl ?_); refine Xl ?hg (N := 2) ?hd (cs := #[.int .i64 X4, .int .i64 XB, .int .i64 Jb, .int .i64 Xo, .int .i64 Xp, .int .i64 J5, .int .i64 Jn, .int .i64 J9]) (t := 76) ?hr ?_; (case hd => rfl); (case hg => rfl); (case hr => exact zb10); intro X0P hg w3 hbox hb; have XfL := az (hbox); have X0Q := az ((zb129 : w.heap.size ≤ X0P)); have GE453 := X0Q; replace HB := az (Xc zb1 hb); clear hb hbox hg) | ((with_reducible refine Xn (N := 4) rfl ?_); refine Xl ?hg (N := 4) ?hd (cs := #[.int .i64 0, .int .i64 0, .int .i64 0, .int .i64 0, .int .i64 0, .int .i64 0, .int .i64 0, .int .i64 0]) (t := 76) ?hr ?_; (case hd => rfl); (case hg => rfl); (case hr => exact zb10); intro XwF hg w4 hbox hb; have Xmi := az (hbox); have X0R := az ((zb131 : w.heap.size ≤ XwF)); have GE454 := X0R; replace HB := az (Xc zb0 hb); obtain ⟨Xoz, Xo0⟩ := nb XfL hg (fun h => by (with_reducible repeat (first | apply bn | apply bd | apply ba)); exact h); replace XfL := bb XfL (fun h => by (with_reducible repeat (first | apply bn | apply bd | apply ba)); exact h) hb; clear hb hbox hg; have hnb5 := Xoz.out; have hnc5 := Xo0.out; obtain ⟨WR, WS, WT, OW, OX, XwU, XwV, XwW⟩ := cz8 XfL; obtain ⟨WU, WV, WW, OY, OZ, XwX, XwY, XwZ⟩ := fz8 XfL; obtain ⟨Xc9, XcA, XcB, XcC, XcD, Xhp, Xhq, Xhr⟩ := cz8 Xmi; obtain ⟨XcE, XcF, XcG, XcH, XcI, Xhs, Xht⟩ := fz7 Xmi; have Xhu := Xd Xmi.out 7))
 refine bodyPost_ret (results_cell_row rfl _ _ XwF 76 #[.int .i64 6, .int .i64 XB, .int .i64 Jb, .int .i64 Xo, .int .i64 0, .int .i64 Xp, .int .i64 a1, .int .i64 Jn] (0, 0) _ rfl (by (with_reducible repeat (first | apply bn | apply bd | apply ba)); exact p8 Xmi) Tryz.underlying76 rfl zb9) rfl ?_; exact ⟨zb4, zb0⟩
end Go.Proofs.YtphnphmbfogmlaaGreat.Pr
