import Derived.Test.YtphnphmbfogmlaaGreatQFByq
import Derived.Test.YtphnphmbfogmlaaGreatQFWMore
import Derived.Test.YtphnphmbfogmlaaGreatQFPrK
import Derived.Test.YtphnphmbfogmlaaGreatQFSx
import Derived.Test.YtphnphmbfogmlaaGreatQFPrM
import Derived.Test.YtphnphmbfogmlaaGreatQFPrLogA
namespace Go.Proofs.YtphnphmbfogmlaaGreat.Pr
open Go.RowKit Go.PW Go.PL Go.PM
attribute [local go_sem] Y3 Y4 YN YO Ya Yb Y5 Y6
set_option linter.unusedVariables false
set_option linter.unusedSimpArgs false
mutual
def XD.l0 : Nat → List (S76) → Int → Option (Int)
 | 0, _, _ => none
 | k + 1, x0, x1 => if x1 > 0 then (if 0 ≤ (wrap64 (x1 - 1)) then (if (wrap64 (x1 - 1)) < (x0.length : Int) then (if ((Xa x0 (wrap64 (x1 - 1))).f0) = 1 then (XD.j1 k x0 x1 ((Xa x0 (wrap64 (x1 - 1))).f0) (((Xa x0 (wrap64 (x1 - 1))).f0) == 1) ((Xa x0 (wrap64 (x1 - 1))).f0) ((Xa x0 (wrap64 (x1 - 1))).f1) ((Xa x0 (wrap64 (x1 - 1))).f2) ((Xa x0 (wrap64 (x1 - 1))).f3) ((Xa x0 (wrap64 (x1 - 1))).f4) ((Xa x0 (wrap64 (x1 - 1))).f5) ((Xa x0 (wrap64 (x1 - 1))).f6) ((Xa x0 (wrap64 (x1 - 1))).f7)) else (XD.j1 k x0 x1 ((Xa x0 (wrap64 (x1 - 1))).f0) (((Xa x0 (wrap64 (x1 - 1))).f0) == 2) ((Xa x0 (wrap64 (x1 - 1))).f0) ((Xa x0 (wrap64 (x1 - 1))).f1) ((Xa x0 (wrap64 (x1 - 1))).f2) ((Xa x0 (wrap64 (x1 - 1))).f3) ((Xa x0 (wrap64 (x1 - 1))).f4) ((Xa x0 (wrap64 (x1 - 1))).f5) ((Xa x0 (wrap64 (x1 - 1))).f6) ((Xa x0 (wrap64 (x1 - 1))).f7))) else (none)) else (none)) else (some 0)
def XD.j1 : Nat → List (S76) → Int → Int → Bool → Int → Int → Int → Int → Int → Int → Int → Int → Option (Int)
 | 0, _, _, _, _, _, _, _, _, _, _, _, _ => none
 | k + 1, x0, x1, x14, x17, Xzy, Xzz, Xz0, Xz1, Xz2, Xz3, Xpx, Xpy => if x17 = true then (some x1) else (if x14 = 6 then (XD.l0 k x0 Xpy) else (XD.l0 k x0 Xpx))
end
def XD.f (k : Nat) (l0 : List (S76)) (a1 : Int) : Option (Int) := XD.l0 k l0 a1
set_option maxHeartbeats 8000000 in
set_option maxRecDepth 100000 in
theorem XD.calls (k : Nat) (A0 : Option Addr) (c0 : Nat) (l0 : List (S76)) (a1 : Int) (r : Int) (w : World) (hr0 : Kd.C k76 w A0 l0.length l0) (hc0 : l0.length ≤ c0) (h : XD.f k l0 a1 = some r) :
 Calls Tryz.prog 73 #[.slice A0 l0.length c0, .int .i64 a1] w fun e w' => e = .returned (.int .i64 r) ∧ Below w.heap.size w w' := by
 have hu76 := Tryz.underlying76; have HR0 := az hr0; have HC0 := az hc0; clear hr0 hc0; have HB := az (Below.refl w.heap.size w); have H : (XD.l0 k l0 a1) = some r := h; clear h; have H' := az H; clear H
 go_enter Tryz.func73, Tryz.ntmps73
 go_wp2
 go_loopg [1] k (fun kq v1 w' => ∃ (ZB : Int), v1 = .int .i64 ZB ∧ Aside0 (XD.l0 kq l0 ZB = some r) ∧ Aside0 (kq ≤ k) ∧ Aside0 (Below w.heap.size w w'))
 case atStart => exact ⟨(a1), zb5, H', ⟨Nat.le_refl _⟩, ⟨zb0⟩⟩
 case round =>
  clear H';(try clear p2)
  obtain ⟨ZB, rfl, HA, HK1, HB⟩ := hrel
  cases gk with
  | zero => exact absurd HA.out (by simp [XD.l0])
  | succ k1 =>
   have H := HA.out; clear HA; simp only [XD.l0] at H
   by_cases c3 : ZB > 0
   ·rw [if_pos c3] at H
    have c3b0 : decide (0 < ZB) = true := decide_eq_true c3; clear c3
    obtain ⟨ji4, hji4⟩ : ∃ j_ : Int, (wrap64 (ZB - 1)) = j_ := ⟨_, rfl⟩
    replace H : (if 0 ≤ (ji4) then (if (ji4) < (l0.length : Int) then (if ((Xa l0 (ji4)).f0) = 1 then (XD.j1 k1 l0 ZB ((Xa l0 (ji4)).f0) (((Xa l0 (ji4)).f0) == 1) ((Xa l0 (ji4)).f0) ((Xa l0 (ji4)).f1) ((Xa l0 (ji4)).f2) ((Xa l0 (ji4)).f3) ((Xa l0 (ji4)).f4) ((Xa l0 (ji4)).f5) ((Xa l0 (ji4)).f6) ((Xa l0 (ji4)).f7)) else (XD.j1 k1 l0 ZB ((Xa l0 (ji4)).f0) (((Xa l0 (ji4)).f0) == 2) ((Xa l0 (ji4)).f0) ((Xa l0 (ji4)).f1) ((Xa l0 (ji4)).f2) ((Xa l0 (ji4)).f3) ((Xa l0 (ji4)).f4) ((Xa l0 (ji4)).f5) ((Xa l0 (ji4)).f6) ((Xa l0 (ji4)).f7))) else (none)) else (none)) = some r := by first | (rw [hji4] at H; exact H) | (simp only [hji4] at H ⊢; exact H)
    have hji4w : (IntKind.i64.wrap (ZB - 1)) = ji4 := (Xz _).trans hji4
    by_cases c5 : 0 ≤ (ji4)
    ·rw [if_pos c5] at H
     have c5b0 : decide (0 ≤ (ji4)) = true := decide_eq_true c5; clear c5
     by_cases c6 : (ji4) < (l0.length : Int)
     ·rw [if_pos c6] at H
      have c6b0 : decide ((ji4) < (l0.length : Int)) = true := decide_eq_true c6; clear c6; have HC7 := az H; clear H; have Xpz : 0 ≤ ((ji4) : Int) := of_decide_eq_true zb3; have Xp0 : (ji4) < (l0.length : Int) := of_decide_eq_true zb3; obtain ⟨ad196, e196, XaN, XaO, XaP, XaQ, XaR, XaS, XaT, XaU⟩ := Ym HR0.out (ji4) Xpz Xp0
      cases e196
      replace XaN := cb HB XaN; replace XaO := cb HB XaO; replace XaP := cb HB XaP; replace XaQ := cb HB XaQ; replace XaR := cb HB XaR; replace XaS := cb HB XaS; replace XaT := cb HB XaT; replace XaU := cb HB XaU; replace Xpz := eq_true Xpz; replace Xp0 := eq_true Xp0
      go_upto_if 17 with (first | ((with_reducible refine Xp (N := 5) rfl ?_); refine Xn ?hg (N := 5) ?hd (cs := #[.int .i64 0, .int .i64 0, .int .i64 0, .int .i64 0, .int .i64 0, .int .i64 0, .int .i64 0, .int .i64 0]) (t := 76) ?hr ?_; (case hd => rfl); (case hg => rfl); (case hr => exact zb7); intro Xsd hg w8 hbox hb; have SI := az (hbox); have Xv6 := az ((zb95 : w.heap.size ≤ Xsd)); have GE197 := Xv6; replace HB := az (Xc zb0 hb); clear hb hbox hg; obtain ⟨Ko, Kq, Kr, CO, CP, CR, CS, CU⟩ := cz8 SI; obtain ⟨Kt, Ku, Kv, CV, CW, CX, CZ⟩ := fz7 SI; have Ba := Xe SI.out 7))
      (try simp only [Act.put, List.setIfInBounds_toArray, List.set_cons_zero, List.set_cons_succ])
      go_cut [17] (fun v17 wc => ∃ (kq : Nat) (Pq : Bool), v17 = .bool Pq ∧ Aside0 (XD.j1 kq l0 ZB ((Xa l0 (ji4)).f0) Pq ((Xa l0 (ji4)).f0) ((Xa l0 (ji4)).f1) ((Xa l0 (ji4)).f2) ((Xa l0 (ji4)).f3) ((Xa l0 (ji4)).f4) ((Xa l0 (ji4)).f5) ((Xa l0 (ji4)).f6) ((Xa l0 (ji4)).f7) = some r) ∧ Aside0 (kq ≤ k1) ∧ Aside0 (wc.heap[Xsd]? = some (.cells #[.int .i64 ((Xa l0 (ji4)).f0), .int .i64 ((Xa l0 (ji4)).f1), .int .i64 ((Xa l0 (ji4)).f2), .int .i64 ((Xa l0 (ji4)).f3), .int .i64 ((Xa l0 (ji4)).f4), .int .i64 ((Xa l0 (ji4)).f5), .int .i64 ((Xa l0 (ji4)).f6), .int .i64 ((Xa l0 (ji4)).f7)] 76 (0, 0))) ∧ Aside0 (Below w.heap.size w wc))
      case first =>
       have H := HC7.out; clear HC7
       by_cases c10 : ((Xa l0 (ji4)).f0) = 1
       ·rw [if_pos c10] at H
        have Vh : (((Xa l0 (ji4)).f0) == 1) = true := beq_iff_eq.mpr c10; have U8 : (((Xa l0 (ji4)).f0) != 1) = false := bne_eq_false_iff_eq.mpr c10; clear c10
        (first | rw [Vh] | (simp only [Xz, XF]; rw [Vh]) | skip)
        have H' := az H; clear H
        go_wp2
        go_meet
        case rel => exact ⟨_, ((((Xa l0 (ji4)).f0) == 1)), zb31, H', ⟨zb50⟩, ⟨by (with_reducible repeat (first | apply bn | apply bd | apply ba)); exact p8 SI⟩, ⟨zb1⟩⟩
       ·rw [if_neg c10] at H
        have Vh : (((Xa l0 (ji4)).f0) == 1) = false := beq_eq_false_iff_ne.mpr c10; have U8 : (((Xa l0 (ji4)).f0) != 1) = true := bne_iff_ne.mpr c10
        (first | rw [Vh] | (simp only [Xz, XF]; rw [Vh]) | skip)
        have H' := az H; clear H
        go_wp2
        go_meet
        case rel => exact ⟨_, ((((Xa l0 (ji4)).f0) == 2)), zb31, H', ⟨zb50⟩, ⟨by (with_reducible repeat (first | apply bn | apply bd | apply ba)); exact p8 SI⟩, ⟨zb1⟩⟩
      case rest =>
       clear HC7;(try clear c1);(try clear p1);(try clear q1);(try clear hx1);(try clear p2);(try clear c3);(try clear c3b0);(try clear c5);(try clear c5b0);(try clear c6);(try clear c6b0);(try clear p6);(try clear c7);(try clear c10);(try clear Vh);(try clear U8);(try clear Ko);(try clear Kq);(try clear Kr);(try clear CO);(try clear CP);(try clear CR);(try clear CS);(try clear CU);(try clear Kt);(try clear Ku);(try clear Kv);(try clear CV);(try clear CW);(try clear CX);(try clear CZ);(try clear Ba);(try clear XaN);(try clear XaO);(try clear XaP);(try clear XaQ);(try clear XaR);(try clear XaS);(try clear XaT);(try clear XaU);(try clear Xpz);(try clear p2);(try clear Xp0)
       obtain ⟨kq, Pq, rfl, HA, HJ6, SI, HB⟩ := hcut
       cases kq with
       | zero => exact absurd HA.out (by simp [XD.j1])
       | succ kj6 =>
        have H := HA.out; clear HA; simp only [XD.j1] at H
        by_cases c11 : Pq = true
        ·subst c11
         have H1 : (some ZB) = some r := by rw [if_pos rfl] at H; exact H
         clear H; have H := H1; clear H1; obtain rfl := Option.some.inj H
         go_wp2
         go_ret
         exact ⟨zb70, zb1⟩
        ·replace c11 := Bool.eq_false_iff.mpr c11
         subst c11
         have H1 : (if ((Xa l0 (ji4)).f0) = 6 then (XD.l0 kj6 l0 ((Xa l0 (ji4)).f7)) else (XD.l0 kj6 l0 ((Xa l0 (ji4)).f6))) = some r := by rw [if_neg (show ¬ (false = true) by decide)] at H; exact H
         clear H; have H := H1; clear H1
         by_cases c12 : ((Xa l0 (ji4)).f0) = 6
         ·rw [if_pos c12] at H
          have Ph : (((Xa l0 (ji4)).f0) == 6) = true := beq_iff_eq.mpr c12; have XhL : (((Xa l0 (ji4)).f0) != 6) = false := bne_eq_false_iff_eq.mpr c12; clear c12; have H' := az H; clear H; obtain ⟨XaV, XaW, XaX, XhM, XhN, Xp1, Xp2, Xp3⟩ := cz8 SI; obtain ⟨XaY, XaZ, Xba, XhO, XhP, Xp4, Xp5, Xp6⟩ := fz8 SI
          go_wp2
          go_roundg kj6
          case measure => have := HK1.out; have := HJ6.out; omega
          case rel => exact ⟨(((Xa l0 (ji4)).f7)), zb31, H', ⟨zb93⟩, ⟨zb1⟩⟩
         ·rw [if_neg c12] at H
          have Ph : (((Xa l0 (ji4)).f0) == 6) = false := beq_eq_false_iff_ne.mpr c12; have XhL : (((Xa l0 (ji4)).f0) != 6) = true := bne_iff_ne.mpr c12; have H' := az H; clear H; obtain ⟨NV, NW, NY, Rb, Re, XaE, XaF, XaG⟩ := cz8 SI; obtain ⟨NZ, Sa, Sb, Rf, Rh, XaH, XaI, XaJ⟩ := fz8 SI
          go_wp2
          go_roundg kj6
          case measure => have := HK1.out; have := HJ6.out; omega
          case rel => exact ⟨(((Xa l0 (ji4)).f6)), zb31, H', ⟨zb93⟩, ⟨zb1⟩⟩
     ·rw [if_neg c6] at H
      exact absurd H (by simp)
    ·rw [if_neg c5] at H
     exact absurd H (by simp)
   ·rw [if_neg c3] at H
    have c3b0 : decide (0 < ZB) = false := decide_eq_false c3; clear c3; obtain rfl := Option.some.inj H
    go_wp2
    go_ret
    exact ⟨zb4, zb0⟩
mutual
def X9.l0 : Nat → List (S76) → Int → Int → Option (Int)
 | 0, _, _, _ => none
 | k + 1, x0, x3, x4 => if x4 ≤ 3 then ((Yr.f k x0 x4).bind fun Ps => (if Ps > 0 then (X9.j1 k x0 (wrap64 (x3 + 1)) x4 Ps) else (X9.j1 k x0 x3 x4 Ps))) else (some x3)
def X9.j1 : Nat → List (S76) → Int → Int → Int → Option (Int)
 | 0, _, _, _, _ => none
 | k + 1, x0, x3, x4, x5 => (XD.f k x0 x5).bind fun Xmh => (X9.l1 k x0 x3 x4 Xmh)
def X9.l1 : Nat → List (S76) → Int → Int → Int → Option (Int)
 | 0, _, _, _, _ => none
 | k + 1, x0, x3, x4, x5 => if x5 > 0 then (if 0 ≤ (wrap64 (x5 - 1)) then (if (wrap64 (x5 - 1)) < (x0.length : Int) then ((XD.f k x0 ((Xa x0 (wrap64 (x5 - 1))).f6)).bind fun XeK => (X9.l1 k x0 (wrap64 (x3 + 1)) x4 XeK)) else (none)) else (none)) else (X9.l0 k x0 x3 (wrap64 (x4 + 1)))
end
def X9.f (k : Nat) (l0 : List (S76)) : Option (Int) := X9.l0 k l0 0 1
set_option maxHeartbeats 8000000 in
set_option maxRecDepth 100000 in
theorem X9.calls (k : Nat) (A0 : Option Addr) (c0 : Nat) (l0 : List (S76)) (r : Int) (w : World) (hr0 : Kd.C k76 w A0 l0.length l0) (hc0 : l0.length ≤ c0) (h : X9.f k l0 = some r) :
 Calls Tryz.prog 44 #[.slice A0 l0.length c0] w fun e w' => e = .returned (.int .i64 r) ∧ Below w.heap.size w w' := by
 have HR0 := az hr0; have HC0 := az hc0; clear hr0 hc0; have HB := az (Below.refl w.heap.size w); have H : (X9.l0 k l0 0 1) = some r := h; clear h; have H' := az H; clear H
 go_enter Tryz.func44, Tryz.ntmps44
 go_wp2
 go_loopg [3, 4] k (fun kq v3 v4 w' => ∃ (Xl : Int) (X4 : Int), v3 = .int .i64 Xl ∧ v4 = .int .i64 X4 ∧ Aside0 (X9.l0 kq l0 Xl X4 = some r) ∧ Aside0 (kq ≤ k) ∧ Aside0 (Below w.heap.size w w'))
 case atStart => exact ⟨(0), (1), zb5, zb5, H', ⟨Nat.le_refl _⟩, ⟨zb0⟩⟩
 case round =>
  clear H'; obtain ⟨Xl, X4, rfl, rfl, HA, HK1, HB⟩ := hrel
  cases gk with
  | zero => exact absurd HA.out (by simp [X9.l0])
  | succ k1 =>
   have H := HA.out; clear HA; simp only [X9.l0] at H
   by_cases c2 : X4 ≤ 3
   ·rw [if_pos c2] at H
    have c2b0 : decide (X4 ≤ 3) = true := decide_eq_true c2; clear c2; replace H := Option.bind_eq_some_iff.mp H; obtain ⟨Ps, A30, H⟩ := H; replace H : (if Ps > 0 then (X9.j1 k1 l0 (wrap64 (Xl + 1)) X4 Ps) else (X9.j1 k1 l0 Xl X4 Ps)) = some r := H; have A3 := az A30; clear A30; have HC4 := az H; clear H
    go_upto_if 14 with (first | ((with_reducible refine Xo (f := 72) rfl ?_); refine Yx (some 12) rfl rfl Tryz.func72 zb6 rfl #[.slice A0 l0.length c0, .int .i64 X4] rfl zb2 ?_; (with_reducible refine (Yr.calls k1 _ _ l0 X4 Ps _ ?side1 ?side2 A3.out).mono ?_); (case side1 => exact zb15); (case side2 => exact HC0.out); rintro e w' ⟨rfl, ⟨nd, rfl⟩⟩; refine ⟨_, rfl, ?_⟩))
    (try simp only [Act.put, List.setIfInBounds_toArray, List.set_cons_zero, List.set_cons_succ])
    go_cut [3] (fun v3 wc => ∃ (kq : Nat) (Ky : Int), v3 = .int .i64 Ky ∧ Aside0 (X9.j1 kq l0 Ky X4 Ps = some r) ∧ Aside0 (kq ≤ k1) ∧ Aside0 (Below w.heap.size w wc))
    case first =>
     have H := HC4.out; clear HC4
     by_cases c5 : Ps > 0
     ·rw [if_pos c5] at H
      have c5b0 : decide (0 < Ps) = true := decide_eq_true c5; clear c5
      (first | rw [c5b0] | (simp only [Xz, XF]; rw [c5b0]) | skip)
      have H' := az H; clear H
      go_wp2
      go_meet
      case rel => exact ⟨_, (wrap64 (Xl + 1)), zb5, H', ⟨zb50⟩, ⟨zb0⟩⟩
     ·rw [if_neg c5] at H
      have c5b0 : decide (0 < Ps) = false := decide_eq_false c5; clear c5
      (first | rw [c5b0] | (simp only [Xz, XF]; rw [c5b0]) | skip)
      have H' := az H; clear H
      go_wp2
      go_meet
      case rel => exact ⟨_, (Xl), zb5, H', ⟨zb50⟩, ⟨zb0⟩⟩
    case rest =>
     clear HC4;(try clear c2);(try clear c2b0);(try clear p2);(try clear c4);(try clear c5);(try clear c5b0)
     obtain ⟨kq, Ky, rfl, HA, HJ3, HB⟩ := hcut
     cases kq with
     | zero => exact absurd HA.out (by simp [X9.j1])
     | succ kj3 =>
      have H := HA.out; clear HA; simp only [X9.j1] at H; replace H := Option.bind_eq_some_iff.mp H; obtain ⟨Xmh, A60, H⟩ := H; replace H : (X9.l1 kj3 l0 Ky X4 Xmh) = some r := H; have A6 := az A60; clear A60; have H' := az H; clear H
      go_wp2_with (first | ((with_reducible refine Xo (f := 73) rfl ?_); refine Yx (some 19) rfl rfl Tryz.func73 zb6 rfl #[.slice A0 l0.length c0, .int .i64 Ps] rfl zb2 ?_; (with_reducible refine (XD.calls kj3 _ _ l0 Ps Xmh _ ?side1 ?side2 A6.out).mono ?_); (case side1 => exact zb15); (case side2 => exact HC0.out); rintro e w7 ⟨rfl, hb⟩; refine ⟨_, rfl, ?_⟩; replace HB := az (Xc zb0 hb); (try clear hb); (try clear hb2); (try clear hk); (try clear hi)))
      go_loopg [3, 5] kj3 (fun kq v3 v5 w' => ∃ (Ky : Int) (Xcb : Int), v3 = .int .i64 Ky ∧ v5 = .int .i64 Xcb ∧ Aside0 (X9.l1 kq l0 Ky X4 Xcb = some r) ∧ Aside0 (kq ≤ kj3) ∧ Aside0 (Below w.heap.size w w'))
      case atStart => exact ⟨(Ky), (Xmh), zb5, zb5, H', ⟨Nat.le_refl _⟩, ⟨zb0⟩⟩
      case round =>
       clear H';(try clear c2);(try clear c2b0);(try clear p2);(try clear c4);(try clear c5);(try clear c5b0);(try clear p6);(try clear c7);(try clear p2)
       obtain ⟨Ky, Xcb, rfl, rfl, HA, HK3, HB⟩ := hrel
       cases gk with
       | zero => exact absurd HA.out (by simp [X9.l1])
       | succ k3 =>
        have H := HA.out; clear HA; simp only [X9.l1] at H
        by_cases c8 : Xcb > 0
        ·rw [if_pos c8] at H
         have c8b0 : decide (0 < Xcb) = true := decide_eq_true c8; clear c8
         obtain ⟨ji9, hji9⟩ : ∃ j_ : Int, (wrap64 (Xcb - 1)) = j_ := ⟨_, rfl⟩
         replace H : (if 0 ≤ (ji9) then (if (ji9) < (l0.length : Int) then ((XD.f k3 l0 ((Xa l0 (ji9)).f6)).bind fun XeK => (X9.l1 k3 l0 (wrap64 (Ky + 1)) X4 XeK)) else (none)) else (none)) = some r := by first | (rw [hji9] at H; exact H) | (simp only [hji9] at H ⊢; exact H)
         have hji9w : (IntKind.i64.wrap (Xcb - 1)) = ji9 := (Xz _).trans hji9
         by_cases c10 : 0 ≤ (ji9)
         ·rw [if_pos c10] at H
          have Vh : decide (0 ≤ (ji9)) = true := decide_eq_true c10; clear c10
          by_cases c11 : (ji9) < (l0.length : Int)
          ·rw [if_pos c11] at H
           have XbL : decide ((ji9) < (l0.length : Int)) = true := decide_eq_true c11; clear c11; replace H := Option.bind_eq_some_iff.mp H; obtain ⟨XeK, Xmi, H⟩ := H; replace H : (X9.l1 k3 l0 (wrap64 (Ky + 1)) X4 XeK) = some r := H; have A12 := az Xmi; clear Xmi; have H' := az H; clear H; have Xts : 0 ≤ ((ji9) : Int) := of_decide_eq_true zb3; have Xtt : (ji9) < (l0.length : Int) := of_decide_eq_true zb3; obtain ⟨Xv7, e200, XhQ, XhR, XhS, XhT, XhU, XhV, XhW, XhX⟩ := Ym HR0.out (ji9) Xts Xtt
           cases e200
           replace XhQ := cb HB XhQ; replace XhR := cb HB XhR; replace XhS := cb HB XhS; replace XhT := cb HB XhT; replace XhU := cb HB XhU; replace XhV := cb HB XhV; replace XhW := cb HB XhW; replace XhX := cb HB XhX; replace Xts := eq_true Xts; replace Xtt := eq_true Xtt
           go_wp2_with (first | ((with_reducible refine Xo (f := 73) rfl ?_); refine Yx (some 29) rfl rfl Tryz.func73 zb6 rfl #[.slice (some Xv7) l0.length c0, .int .i64 ((Xa l0 (ji9)).f6)] rfl zb71 ?_; (with_reducible refine (XD.calls k3 _ _ l0 ((Xa l0 (ji9)).f6) XeK _ ?side1 ?side2 A12.out).mono ?_); (case side1 => exact zb15); (case side2 => exact HC0.out); rintro e w13 ⟨rfl, hb⟩; refine ⟨_, rfl, ?_⟩; replace HB := az (Xc zb0 hb); (try clear hb); (try clear hb2); (try clear hk); (try clear hi)))
           go_roundg k3
           case measure => have := HK1.out; have := HJ3.out; have := HK3.out; omega
           case rel => exact ⟨(wrap64 (Ky + 1)), (XeK), zb5, zb5, H', ⟨by have := HK1.out; have := HJ3.out; have := HK3.out; omega⟩, ⟨zb0⟩⟩
          ·rw [if_neg c11] at H
           exact absurd H (by simp)
         ·rw [if_neg c10] at H
          exact absurd H (by simp)
        ·rw [if_neg c8] at H
         have c8b0 : decide (0 < Xcb) = false := decide_eq_false c8; clear c8; have H' := az H; clear H
         go_wp2
         go_roundg k3
         case measure => have := HK1.out; have := HJ3.out; have := HK3.out; omega
         case rel => exact ⟨(Ky), (wrap64 (X4 + 1)), zb5, zb5, H', ⟨by have := HK1.out; have := HJ3.out; have := HK3.out; omega⟩, ⟨zb0⟩⟩
   ·rw [if_neg c2] at H
    have c2b0 : decide (X4 ≤ 3) = false := decide_eq_false c2; clear c2; obtain rfl := Option.some.inj H
    go_wp2
    go_ret
    exact ⟨zb4, zb0⟩
end Go.Proofs.YtphnphmbfogmlaaGreat.Pr
