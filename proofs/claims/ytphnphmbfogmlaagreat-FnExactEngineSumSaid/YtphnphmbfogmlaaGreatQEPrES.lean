import Derived.Test.YtphnphmbfogmlaaGreatQEByq
import Derived.Test.YtphnphmbfogmlaaGreatQEPrK
import Derived.Test.YtphnphmbfogmlaaGreatQESx
import Derived.Test.YtphnphmbfogmlaaGreatQEPrM
import Derived.Test.YtphnphmbfogmlaaGreatQEPrGood
import Derived.Test.YtphnphmbfogmlaaGreatQESizE
namespace Go.Proofs.YtphnphmbfogmlaaGreat.Pr
open Go.RowKit Go.PW Go.PL Go.PM
attribute [local go_sem] YO YP Zm Zn Yv Yw YQ YS
set_option linter.unusedVariables false
set_option linter.unusedSimpArgs false
mutual
def Xq.j0 : Nat → Int → Int → Int → Bool → List (S56) → List (S56) → List (S76) → Int → Bool → Option (Int × Int)
 | 0, _, _, _, _, _, _, _, _, _ => none
 | k + 1, x1, x6, x7, x17, Gv, Vz, Gw, Gx, Gy => if x17 = true then (some (0, 0)) else (Xq.l0 k x1 x6 x7 0 Gv Vz Gw Gx Gy)
def Xq.l0 : Nat → Int → Int → Int → Int → List (S56) → List (S56) → List (S76) → Int → Bool → Option (Int × Int)
 | 0, _, _, _, _, _, _, _, _, _ => none
 | k + 1, x1, x6, x7, x8, Gv, Vz, Gw, Gx, Gy => if x8 < 5 then (Xq.l1 k x1 x6 x7 x8 0 Gv Vz Gw Gx Gy) else (some (x6, x7))
def Xq.l1 : Nat → Int → Int → Int → Int → Int → List (S56) → List (S56) → List (S76) → Int → Bool → Option (Int × Int)
 | 0, _, _, _, _, _, _, _, _, _, _ => none
 | k + 1, x1, x6, x7, x8, x9, Gv, Vz, Gw, Gx, Gy => if 0 ≤ x8 then (if x8 < (Vz.length : Int) then (if ((Xb Vz x8).f1) = x1 then (Xq.j3 k x1 x6 x7 x8 x9 (decide (x9 < 3)) Gv Vz Gw Gx Gy) else (Xq.j3 k x1 x6 x7 x8 x9 false Gv Vz Gw Gx Gy)) else (none)) else (none)
def Xq.j3 : Nat → Int → Int → Int → Int → Int → Bool → List (S56) → List (S56) → List (S76) → Int → Bool → Option (Int × Int)
 | 0, _, _, _, _, _, _, _, _, _, _, _ => none
 | k + 1, x1, x6, x7, x8, x9, x33, Gv, Vz, Gw, Gx, Gy => if x33 = true then (if 0 ≤ x8 then (if x8 < (Vz.length : Int) then (if 0 ≤ x9 then (if x9 < (((Xb Vz x8).f2).length : Int) then (if (rd ((Xb Vz x8).f2) x9) = 0 then (Xq.l1 k x1 x6 x7 x8 (wrap64 (x9 + 1)) Gv Vz Gw Gx Gy) else (Xq.l1 k x1 (wrap64 (x6 + 1)) (wrap64 (x7 + (rd ((Xb Vz x8).f2) x9))) x8 (wrap64 (x9 + 1)) Gv Vz Gw Gx Gy)) else (none)) else (none)) else (none)) else (none)) else (Xq.l0 k x1 x6 x7 (wrap64 (x8 + 1)) Gv Vz Gw Gx Gy)
end
def Xq.f (k : Nat) (Xm : List (S56)) (Xh : List (S56)) (Xe : List (S76)) (Xo : Int) (Xp : Bool) (a1 : Int) : Option (Int × Int) := (Xj.f k Xm Xh Xe Xo Xp).bind fun XnY => (if XnY = true then ((Zc.f a1 1 3).bind fun Ie => (Xq.j0 k a1 0 0 (!Ie) Xm Xh Xe Xo Xp)) else (Xq.j0 k a1 0 0 true Xm Xh Xe Xo Xp))
set_option maxHeartbeats 8000000 in
set_option maxRecDepth 100000 in
theorem Xq.calls (k : Nat) (YI : Option Addr) (YB : Nat) (Xm : List (S56)) (YN : Option Addr) (YJ : Nat) (Xh : List (S56)) (XE : Option Addr) (XF : Nat) (Xe : List (S76)) (Xo : Int) (Xp : Bool) (a1 : Int) (r1 : Int) (r2 : Int) (w : World) (hr0_0 : Kd.C k56 w YI Xm.length Xm) (hc0_0 : Xm.length ≤ YB) (hr0_1 : Kd.C k56 w YN Xh.length Xh) (hc0_1 : Xh.length ≤ YJ) (hr0_2 : Kd.C k76 w XE Xe.length Xe) (hc0_2 : Xe.length ≤ XF) (h : Xq.f k Xm Xh Xe Xo Xp a1 = some (r1, r2)) :
 Calls Tryz.prog 13 #[.agg #[.slice YI Xm.length YB, .slice YN Xh.length YJ, .slice XE Xe.length XF, .int .i64 Xo, .bool Xp], .int .i64 a1] w fun e w' => e = .returned (.tuple #[.int .i64 r1, .int .i64 r2]) ∧ Below w.heap.size w w' := by
 have hu31 := Tryz.underlying31; have U3 := az hr0_0; have Wq := az hc0_0; clear hr0_0 hc0_0; have VC := az hr0_1; have Ws := az hc0_1; clear hr0_1 hc0_1; have VU := az hr0_2; have DY := az hc0_2; clear hr0_2 hc0_2; have HB := az (Below.refl w.heap.size w); have H : ((Xj.f k Xm Xh Xe Xo Xp).bind fun XnY => (if XnY = true then ((Zc.f a1 1 3).bind fun Ie => (Xq.j0 k a1 0 0 (!Ie) Xm Xh Xe Xo Xp)) else (Xq.j0 k a1 0 0 true Xm Xh Xe Xo Xp))) = some (r1, r2) := h; clear h; have HC3 := az H; clear H
 go_enter Tryz.func13, Tryz.ntmps13
 go_upto_region 3 with (first | ((with_reducible refine Xn (N := 2) rfl ?_); refine Xl ?hg (N := 2) ?hd (cs := #[.slice YI Xm.length YB, .slice YN Xh.length YJ, .slice XE Xe.length XF, .int .i64 Xo, .bool Xp]) (t := 31) ?hr ?_; (case hd => rfl); (case hg => rfl); (case hr => exact zb10); intro Xfn hg w4 hbox hb; have DX := az (hbox); have XzR := az ((zb129 : w.heap.size ≤ Xfn)); have GE564 := XzR; replace HB := az (Xc zb1 hb); clear hb hbox hg))
 (try simp only [Act.put, List.setIfInBounds_toArray, List.set_cons_zero, List.set_cons_succ])
 go_cut [17] (fun v17 wc => ∃ (kq : Nat) (XjC : Bool), v17 = .bool XjC ∧ Aside0 (Xq.j0 kq a1 0 0 XjC Xm Xh Xe Xo Xp = some (r1, r2)) ∧ Aside0 (kq ≤ k) ∧ Aside0 (wc.heap[Xfn]? = some (.cells #[(.slice YI Xm.length YB), (.slice YN Xh.length YJ), (.slice XE Xe.length XF), .int .i64 Xo, .bool Xp] 31 (0, 0))) ∧ Aside0 (Below w.heap.size w wc))
 case first =>
  have H := HC3.out; clear HC3; replace H := Option.bind_eq_some_iff.mp H; obtain ⟨XnY, A50, H⟩ := H; replace H : (if XnY = true then ((Zc.f a1 1 3).bind fun Ie => (Xq.j0 k a1 0 0 (!Ie) Xm Xh Xe Xo Xp)) else (Xq.j0 k a1 0 0 true Xm Xh Xe Xo Xp)) = some (r1, r2) := H; have A5 := az A50; clear A50
  by_cases c6 : XnY = true
  ·subst c6
   have H1 : ((Zc.f a1 1 3).bind fun Ie => (Xq.j0 k a1 0 0 (!Ie) Xm Xh Xe Xo Xp)) = some (r1, r2) := by rw [if_pos rfl] at H; exact H
   clear H; have H := H1; clear H1; replace H := Option.bind_eq_some_iff.mp H; obtain ⟨Ie, A70, H⟩ := H; replace H : (Xq.j0 k a1 0 0 (!Ie) Xm Xh Xe Xo Xp) = some (r1, r2) := H; have A7 := az A70; clear A70; have H' := az H; clear H; obtain ⟨Fp, Fq, Fs, SA, SB⟩ := cz5 DX; obtain ⟨Fu, Fv, Fw, SC, SE⟩ := fz5 DX
   go_wp2_with (first | ((with_reducible refine Xi (f := 26) rfl ?_); refine XI (some 11) rfl rfl Tryz.func26 zb9 rfl #[.agg #[.slice YI Xm.length YB, .slice YN Xh.length YJ, .slice XE Xe.length XF, .int .i64 Xo, .bool Xp]] rfl zb2 ?_; (with_reducible refine (Xj.calls k _ _ Xm _ _ Xh _ _ Xe Xo Xp true _ ?side1 ?side2 ?side3 ?side4 ?side5 ?side6 A5.out).mono ?_); (case side1 => exact zb7); (case side2 => exact zb115); (case side3 => exact zb8); (case side4 => exact zb123); (case side5 => exact zb5); (case side6 => exact zb92); rintro e w9 ⟨rfl, hb⟩; refine ⟨_, rfl, ?_⟩; replace DX := bb DX (fun h => by (with_reducible repeat (first | apply bn | apply bd | apply ba)); exact h) hb; replace HB := az (Xc zb0 hb); (try clear hb); (try clear hb2); (try clear hk); (try clear hi)) | (go_at_call 30; (with_reducible refine (Zc.calls a1 1 3 Ie _ A7.out).mono ?_); rintro e w' ⟨rfl, ⟨nd, rfl⟩⟩))
   go_meet
   case rel => exact ⟨_, (!Ie), zb6, H', ⟨zb142⟩, ⟨zb38⟩, ⟨zb0⟩⟩
  ·replace c6 := Bool.eq_false_iff.mpr c6
   subst c6
   have H1 : (Xq.j0 k a1 0 0 true Xm Xh Xe Xo Xp) = some (r1, r2) := by rw [if_neg (show ¬ (false = true) by decide)] at H; exact H
   clear H; have H := H1; clear H1; have H' := az H; clear H; obtain ⟨D6, D7, D8, Gz, G5⟩ := cz5 DX; obtain ⟨D9, DC, DD, G6, G7⟩ := fz5 DX
   go_wp2_with (first | ((with_reducible refine Xi (f := 26) rfl ?_); refine XI (some 11) rfl rfl Tryz.func26 zb9 rfl #[.agg #[.slice YI Xm.length YB, .slice YN Xh.length YJ, .slice XE Xe.length XF, .int .i64 Xo, .bool Xp]] rfl zb2 ?_; (with_reducible refine (Xj.calls k _ _ Xm _ _ Xh _ _ Xe Xo Xp false _ ?side1 ?side2 ?side3 ?side4 ?side5 ?side6 A5.out).mono ?_); (case side1 => exact zb7); (case side2 => exact zb115); (case side3 => exact zb8); (case side4 => exact zb123); (case side5 => exact zb5); (case side6 => exact zb92); rintro e w11 ⟨rfl, hb⟩; refine ⟨_, rfl, ?_⟩; replace DX := bb DX (fun h => by (with_reducible repeat (first | apply bn | apply bd | apply ba)); exact h) hb; replace HB := az (Xc zb0 hb); (try clear hb); (try clear hb2); (try clear hk); (try clear hi)))
   go_meet
   case rel => exact ⟨_, (true), zb6, H', ⟨zb142⟩, ⟨zb38⟩, ⟨zb0⟩⟩
 case rest =>
  clear HC3;(try clear c1);(try clear c2);(try clear p2);(try clear c6);(try clear D6);(try clear D7);(try clear D8);(try clear Gz);(try clear G5);(try clear Fp);(try clear Fq);(try clear Fs);(try clear SA);(try clear SB);(try clear D9);(try clear DC);(try clear DD);(try clear G6);(try clear G7);(try clear Fu);(try clear Fv);(try clear Fw);(try clear SC);(try clear SE)
  obtain ⟨kq, XjC, rfl, HA, HJ2, DX, HB⟩ := hcut
  cases kq with
  | zero => exact absurd HA.out (by simp [Xq.j0])
  | succ kj2 =>
   have H := HA.out; clear HA; simp only [Xq.j0] at H
   by_cases c12 : XjC = true
   ·subst c12
    have H1 : (some (0, 0)) = some (r1, r2) := by rw [if_pos rfl] at H; exact H
    clear H; have H := H1; clear H1; simp only [Option.some.injEq, Prod.mk.injEq] at H; obtain ⟨rfl, rfl⟩ := H
    go_wp2
    go_ret2
    exact ⟨zb4, zb0⟩
   ·replace c12 := Bool.eq_false_iff.mpr c12
    subst c12
    have H1 : (Xq.l0 kj2 a1 0 0 0 Xm Xh Xe Xo Xp) = some (r1, r2) := by rw [if_neg (show ¬ (false = true) by decide)] at H; exact H
    clear H; have H := H1; clear H1; have H' := az H; clear H
    go_wp2
    go_loopg [6, 7, 8] kj2 (fun kq v6 v7 v8 w' => ∃ (Wz : Int) (XcM : Int) (JA : Int), v6 = .int .i64 Wz ∧ v7 = .int .i64 XcM ∧ v8 = .int .i64 JA ∧ Aside0 (Xq.l0 kq a1 Wz XcM JA Xm Xh Xe Xo Xp = some (r1, r2)) ∧ Aside0 (kq ≤ kj2) ∧ Aside0 (w'.heap[Xfn]? = some (.cells #[(.slice YI Xm.length YB), (.slice YN Xh.length YJ), (.slice XE Xe.length XF), .int .i64 Xo, .bool Xp] 31 (0, 0))) ∧ Aside0 (Below w.heap.size w w'))
    case atStart => exact ⟨(0), (0), (0), zb6, zb6, zb6, H', ⟨Nat.le_refl _⟩, ⟨zb38⟩, ⟨zb0⟩⟩
    case round =>
     clear H';(try clear c1);(try clear c2);(try clear p2);(try clear c6);(try clear c12);(try clear D6);(try clear D7);(try clear D8);(try clear Gz);(try clear G5);(try clear Fp);(try clear Fq);(try clear Fs);(try clear SA);(try clear SB);(try clear D9);(try clear DC);(try clear DD);(try clear G6);(try clear G7);(try clear Fu);(try clear Fv);(try clear Fw);(try clear SC);(try clear SE);(try clear p2)
     obtain ⟨Wz, XcM, JA, rfl, rfl, rfl, HA, HK2, DX, HB⟩ := hrel
     cases gk with
     | zero => exact absurd HA.out (by simp [Xq.l0])
     | succ k2 =>
      have H := HA.out; clear HA; simp only [Xq.l0] at H
      by_cases c13 : JA < 5
      ·rw [if_pos c13] at H
       have XpH : decide (JA < 5) = true := decide_eq_true c13; clear c13; have H' := az H; clear H
       go_wp2
       go_loopg [6, 7, 9] k2 (fun kq v6 v7 v9 w' => ∃ (W9 : Int) (WA : Int) (DZ : Int), v6 = .int .i64 W9 ∧ v7 = .int .i64 WA ∧ v9 = .int .i64 DZ ∧ Aside0 (Xq.l1 kq a1 W9 WA JA DZ Xm Xh Xe Xo Xp = some (r1, r2)) ∧ Aside0 (kq ≤ k2) ∧ Aside0 (w'.heap[Xfn]? = some (.cells #[(.slice YI Xm.length YB), (.slice YN Xh.length YJ), (.slice XE Xe.length XF), .int .i64 Xo, .bool Xp] 31 (0, 0))) ∧ Aside0 (Below w.heap.size w w'))
       case atStart => exact ⟨(Wz), (XcM), (0), zb6, zb6, zb6, H', ⟨Nat.le_refl _⟩, ⟨zb38⟩, ⟨zb0⟩⟩
       case round =>
        clear H';(try clear c1);(try clear c2);(try clear p2);(try clear c6);(try clear c12);(try clear c13);(try clear XpH);(try clear D6);(try clear D7);(try clear D8);(try clear Gz);(try clear G5);(try clear Fp);(try clear Fq);(try clear Fs);(try clear SA);(try clear SB);(try clear D9);(try clear DC);(try clear DD);(try clear G6);(try clear G7);(try clear Fu);(try clear Fv);(try clear Fw);(try clear SC);(try clear SE);(try clear p2)
        obtain ⟨W9, WA, DZ, rfl, rfl, rfl, HA, HK3, DX, HB⟩ := hrel
        cases gk with
        | zero => exact absurd HA.out (by simp [Xq.l1])
        | succ k3 =>
         have H := HA.out; clear HA; simp only [Xq.l1] at H; have Xxc := az H; clear H
         go_upto_region 9 with (fail)
         go_cut [33] (fun v33 wc => ∃ (kq : Nat) (XcN : Bool), v33 = .bool XcN ∧ Aside0 (Xq.j3 kq a1 W9 WA JA DZ XcN Xm Xh Xe Xo Xp = some (r1, r2)) ∧ Aside0 (kq ≤ k3) ∧ Aside0 (wc.heap[Xfn]? = some (.cells #[(.slice YI Xm.length YB), (.slice YN Xh.length YJ), (.slice XE Xe.length XF), .int .i64 Xo, .bool Xp] 31 (0, 0))) ∧ Aside0 (Below w.heap.size w wc))
         case first =>
          have H := Xxc.out; clear Xxc
          by_cases c15 : 0 ≤ JA
          ·rw [if_pos c15] at H
           have Xfo : decide (0 ≤ JA) = true := decide_eq_true c15; clear c15
           (first | rw [Xfo] | (simp only [X9, XK]; rw [Xfo]) | skip)
           by_cases c16 : JA < (Xh.length : Int)
           ·rw [if_pos c16] at H
            have Xfp : decide (JA < (Xh.length : Int)) = true := decide_eq_true c16; clear c16
            by_cases c17 : ((Xb Xh JA).f1) = a1
            ·rw [if_pos c17] at H
             have Xwo : (((Xb Xh JA).f1) == a1) = true := beq_iff_eq.mpr c17; have Xwp : (((Xb Xh JA).f1) != a1) = false := bne_eq_false_iff_eq.mpr c17; clear c17; have H' := az H; clear H; obtain ⟨EX, EY, EZ, Oa, Ob⟩ := cz5 DX; obtain ⟨Oc, Od, Oe, Og, Oh⟩ := fz5 DX; have Xfq : 0 ≤ (JA : Int) := of_decide_eq_true zb3; have Xfr : JA < (Xh.length : Int) := of_decide_eq_true zb3; obtain ⟨XzS, Xxd, Xxe, Xxf, Kr, Kt, Ku, hl567_2, hi567_2⟩ := ZU VC.out JA Xfq Xfr
             cases Xxf
             replace Kr := cb HB Kr; replace Kt := cb HB Kt; replace Ku := cb HB Ku; have Xsj := az hi567_2; have Xsk := az hl567_2; clear hi567_2 hl567_2; replace Xfq := eq_true Xfq; replace Xfr := eq_true Xfr
             go_wp2
             go_meet
             case rel => exact ⟨_, (decide (DZ < 3)), zb6, H', ⟨by have := HJ2.out; have := HK2.out; have := HK3.out; first | omega | exact Nat.le_refl _⟩, ⟨zb38⟩, ⟨zb0⟩⟩
            ·rw [if_neg c17] at H
             have Xwo : (((Xb Xh JA).f1) == a1) = false := beq_eq_false_iff_ne.mpr c17; have Xwp : (((Xb Xh JA).f1) != a1) = true := bne_iff_ne.mpr c17; have H' := az H; clear H; obtain ⟨Gp, Gq, Gr, Km, Kn⟩ := cz5 DX; obtain ⟨Gs, Gt, Gu, Ko, Kq⟩ := fz5 DX; have Xfq : 0 ≤ (JA : Int) := of_decide_eq_true zb3; have Xfr : JA < (Xh.length : Int) := of_decide_eq_true zb3; obtain ⟨XzS, Xxd, Xxe, Xxf, Kr, Kt, Ku, hl567_2, hi567_2⟩ := ZU VC.out JA Xfq Xfr
             cases Xxf
             replace Kr := cb HB Kr; replace Kt := cb HB Kt; replace Ku := cb HB Ku; have Xsj := az hi567_2; have Xsk := az hl567_2; clear hi567_2 hl567_2; replace Xfq := eq_true Xfq; replace Xfr := eq_true Xfr
             go_wp2
             go_meet
             case rel => exact ⟨_, (false), zb6, H', ⟨by have := HJ2.out; have := HK2.out; have := HK3.out; first | omega | exact Nat.le_refl _⟩, ⟨zb38⟩, ⟨zb0⟩⟩
           ·rw [if_neg c16] at H
            exact absurd H (by simp)
          ·rw [if_neg c15] at H
           exact absurd H (by simp)
         case rest =>
          clear Xxc;(try clear c1);(try clear c2);(try clear p2);(try clear c5);(try clear p5);(try clear q5);(try clear hx5);(try clear c6);(try clear c12);(try clear c13);(try clear XpH);(try clear c15);(try clear Xfo);(try clear c16);(try clear Xfp);(try clear c17);(try clear Xwo);(try clear Xwp);(try clear D6);(try clear D7);(try clear D8);(try clear Gz);(try clear G5);(try clear EX);(try clear EY);(try clear EZ);(try clear Oa);(try clear Ob);(try clear Gp);(try clear Gq);(try clear Gr);(try clear Km);(try clear Kn);(try clear Fp);(try clear Fq);(try clear Fs);(try clear SA);(try clear SB);(try clear D9);(try clear DC);(try clear DD);(try clear G6);(try clear G7);(try clear Oc);(try clear Od);(try clear Oe);(try clear Og);(try clear Oh);(try clear Gs);(try clear Gt);(try clear Gu);(try clear Ko);(try clear Kq);(try clear Fu);(try clear Fv);(try clear Fw);(try clear SC);(try clear SE);(try clear Kr);(try clear Kt);(try clear Ku);(try clear p2);(try clear Xfq);(try clear Xfr)
          obtain ⟨kq, XcN, rfl, HA, HJ13, DX, HB⟩ := hcut
          cases kq with
          | zero => exact absurd HA.out (by simp [Xq.j3])
          | succ XnZ =>
           have H := HA.out; clear HA; simp only [Xq.j3] at H
           by_cases c20 : XcN = true
           ·subst c20
            have H1 : (if 0 ≤ JA then (if JA < (Xh.length : Int) then (if 0 ≤ DZ then (if DZ < (((Xb Xh JA).f2).length : Int) then (if (rd ((Xb Xh JA).f2) DZ) = 0 then (Xq.l1 XnZ a1 W9 WA JA (wrap64 (DZ + 1)) Xm Xh Xe Xo Xp) else (Xq.l1 XnZ a1 (wrap64 (W9 + 1)) (wrap64 (WA + (rd ((Xb Xh JA).f2) DZ))) JA (wrap64 (DZ + 1)) Xm Xh Xe Xo Xp)) else (none)) else (none)) else (none)) else (none)) = some (r1, r2) := by rw [if_pos rfl] at H; exact H
            clear H; have H := H1; clear H1
            by_cases c21 : 0 ≤ JA
            ·rw [if_pos c21] at H
             have Xwq : decide (0 ≤ JA) = true := decide_eq_true c21; clear c21
             by_cases c22 : JA < (Xh.length : Int)
             ·rw [if_pos c22] at H
              have XpI : decide (JA < (Xh.length : Int)) = true := decide_eq_true c22; clear c22
              by_cases c23 : 0 ≤ DZ
              ·rw [if_pos c23] at H
               have Xwr : decide (0 ≤ DZ) = true := decide_eq_true c23; clear c23
               by_cases c24 : DZ < (((Xb Xh JA).f2).length : Int)
               ·rw [if_pos c24] at H
                have XpJ : decide (DZ < (((Xb Xh JA).f2).length : Int)) = true := decide_eq_true c24; clear c24
                by_cases c25 : (rd ((Xb Xh JA).f2) DZ) = 0
                ·rw [if_pos c25] at H
                 have Xws : ((rd ((Xb Xh JA).f2) DZ) == 0) = true := beq_iff_eq.mpr c25; have XzT : ((rd ((Xb Xh JA).f2) DZ) != 0) = false := bne_eq_false_iff_eq.mpr c25; clear c25; have H' := az H; clear H; obtain ⟨XcO, XcP, XcQ, Xsl, Xsm⟩ := cz5 DX; obtain ⟨XcR, XcS, XcT, Xsn, Xso⟩ := fz5 DX; have Xhw : 0 ≤ (JA : Int) := of_decide_eq_true zb3; have Xhx : JA < (Xh.length : Int) := of_decide_eq_true zb3; obtain ⟨Xwt, Xxg, Xxh, Xxi, TV, TW, Kv, hl568_2, hi568_2⟩ := ZU VC.out JA Xhw Xhx
                 cases Xxi
                 replace TV := cb HB TV; replace TW := cb HB TW; replace Kv := cb HB Kv; have XcU := az hi568_2; have Xsp := az hl568_2; clear hi568_2 hl568_2; replace Xhw := eq_true Xhw; replace Xhx := eq_true Xhx; have Xhy : 0 ≤ (DZ : Int) := of_decide_eq_true zb3; have Xhz : DZ < (((Xb Xh JA).f2).length : Int) := of_decide_eq_true zb3; obtain ⟨XzU, Xxj, TY⟩ := Kd.Jh XcU.out DZ Xhy Xhz
                 cases Xxj
                 replace TY := cb HB TY; replace Xhy := eq_true Xhy; replace Xhz := eq_true Xhz
                 go_wp2
                 go_roundg XnZ
                 case measure => have := HJ2.out; have := HK2.out; have := HK3.out; have := HJ13.out; omega
                 case rel => exact ⟨(W9), (WA), (wrap64 (DZ + 1)), zb6, zb6, zb6, H', ⟨zb113⟩, ⟨zb38⟩, ⟨zb0⟩⟩
                ·rw [if_neg c25] at H
                 have Xws : ((rd ((Xb Xh JA).f2) DZ) == 0) = false := beq_eq_false_iff_ne.mpr c25; have XzT : ((rd ((Xb Xh JA).f2) DZ) != 0) = true := bne_iff_ne.mpr c25; have H' := az H; clear H; obtain ⟨XjD, XjE, XjF, XjG, XjH⟩ := cz5 DX; obtain ⟨XjI, XjJ, XjK, XjL, XjM⟩ := fz5 DX; have Xhw : 0 ≤ (JA : Int) := of_decide_eq_true zb3; have Xhx : JA < (Xh.length : Int) := of_decide_eq_true zb3; obtain ⟨Xwt, Xxg, Xxh, Xxi, TV, TW, Kv, hl568_2, hi568_2⟩ := ZU VC.out JA Xhw Xhx
                 cases Xxi
                 replace TV := cb HB TV; replace TW := cb HB TW; replace Kv := cb HB Kv; have XcU := az hi568_2; have Xsp := az hl568_2; clear hi568_2 hl568_2; replace Xhw := eq_true Xhw; replace Xhx := eq_true Xhx; have Xhy : 0 ≤ (DZ : Int) := of_decide_eq_true zb3; have Xhz : DZ < (((Xb Xh JA).f2).length : Int) := of_decide_eq_true zb3; obtain ⟨XzU, Xxj, TY⟩ := Kd.Jh XcU.out DZ Xhy Xhz
                 cases Xxj
                 replace TY := cb HB TY; replace Xhy := eq_true Xhy; replace Xhz := eq_true Xhz; have Xxk : 0 ≤ (JA : Int) := of_decide_eq_true zb3; have Xxl : JA < (Xh.length : Int) := of_decide_eq_true zb3; obtain ⟨XzV, A570_2, c570_2, e570, XjN, XjO, XcV, hl570_2, hi570_2⟩ := ZU VC.out JA Xxk Xxl
                 obtain rfl : Xwt = XzV := (by injection e570)
                 replace XjN := cb HB XjN; replace XjO := cb HB XjO; replace XcV := cb HB XcV; have Xsq := az hi570_2; have X1x := az hl570_2; clear hi570_2 hl570_2; replace Xxk := eq_true Xxk; replace Xxl := eq_true Xxl; have ea_ := Option.some.inj (Kv.symm.trans XcV)
                 injection ea_ with ea_ en_ ec_
                 subst ea_; subst ec_; clear en_; have Xxm : 0 ≤ (DZ : Int) := of_decide_eq_true zb3; have Xxn : DZ < (((Xb Xh JA).f2).length : Int) := of_decide_eq_true zb3; obtain ⟨ad571, e571, XjP⟩ := Kd.Jh Xsq.out DZ Xxm Xxn
                 cases e571
                 replace XjP := cb HB XjP; replace Xxm := eq_true Xxm; replace Xxn := eq_true Xxn
                 go_wp2
                 go_roundg XnZ
                 case measure => have := HJ2.out; have := HK2.out; have := HK3.out; have := HJ13.out; omega
                 case rel => exact ⟨(wrap64 (W9 + 1)), (wrap64 (WA + (rd ((Xb Xh JA).f2) DZ))), (wrap64 (DZ + 1)), zb6, zb6, zb6, H', ⟨zb113⟩, ⟨zb38⟩, ⟨zb0⟩⟩
               ·rw [if_neg c24] at H
                exact absurd H (by simp)
              ·rw [if_neg c23] at H
               exact absurd H (by simp)
             ·rw [if_neg c22] at H
              exact absurd H (by simp)
            ·rw [if_neg c21] at H
             exact absurd H (by simp)
           ·replace c20 := Bool.eq_false_iff.mpr c20
            subst c20
            have H1 : (Xq.l0 XnZ a1 W9 WA (wrap64 (JA + 1)) Xm Xh Xe Xo Xp) = some (r1, r2) := by rw [if_neg (show ¬ (false = true) by decide)] at H; exact H
            clear H; have H := H1; clear H1; have H' := az H; clear H
            go_wp2
            go_roundg XnZ
            case measure => have := HJ2.out; have := HK2.out; have := HK3.out; have := HJ13.out; omega
            case rel => exact ⟨(W9), (WA), (wrap64 (JA + 1)), zb6, zb6, zb6, H', ⟨zb113⟩, ⟨zb38⟩, ⟨zb0⟩⟩
      ·rw [if_neg c13] at H
       have XpH : decide (JA < 5) = false := decide_eq_false c13; clear c13; simp only [Option.some.injEq, Prod.mk.injEq] at H; obtain ⟨rfl, rfl⟩ := H
       go_wp2
       go_ret2
       exact ⟨zb4, zb0⟩
mutual
def Xw.j0 : Nat → Int → Bool → List (S56) → List (S56) → List (S76) → Int → Bool → Option (Int × Int)
 | 0, _, _, _, _, _, _, _ => none
 | k + 1, x1, x19, X1y, XjQ, X1z, X10, X11 => if x19 = true then (some (0, 0)) else (Xw.l0 k x1 0 0 XjQ (XjQ.length : Int) 0)
def Xw.l0 : Nat → Int → Int → Int → List (S56) → Int → Int → Option (Int × Int)
 | 0, _, _, _, _, _, _ => none
 | k + 1, x1, x6, x7, x21, x22, x23 => if x23 < x22 then (if 0 ≤ x23 then (if x23 < (x21.length : Int) then (Xw.l1 k x1 x6 x7 x21 x22 x23 ((Xb x21 x23).f2) (((Xb x21 x23).f2).length : Int) 0 ((Xb x21 x23).f0) ((Xb x21 x23).f1) ((Xb x21 x23).f2)) else (none)) else (none)) else (some (x6, x7))
def Xw.l1 : Nat → Int → Int → Int → List (S56) → Int → Int → List Int → Int → Int → Int → Int → List Int → Option (Int × Int)
 | 0, _, _, _, _, _, _, _, _, _, _, _, _ => none
 | k + 1, x1, x6, x7, x21, x22, x23, x28, x29, x30, XcW, Oi, XcX => if x30 < x29 then (if 0 ≤ x30 then (if x30 < (x28.length : Int) then (if Oi = x1 then (if (rd x28 x30) = 0 then (Xw.l1 k x1 x6 x7 x21 x22 x23 x28 x29 (wrap64 (x30 + 1)) XcW Oi XcX) else (Xw.l1 k x1 (wrap64 (x6 + 1)) (wrap64 (x7 + (rd x28 x30))) x21 x22 x23 x28 x29 (wrap64 (x30 + 1)) XcW Oi XcX)) else (Xw.l1 k x1 x6 x7 x21 x22 x23 x28 x29 (wrap64 (x30 + 1)) XcW Oi XcX)) else (none)) else (none)) else (Xw.l0 k x1 x6 x7 x21 x22 (wrap64 (x23 + 1)))
end
def Xw.f (k : Nat) (Xm : List (S56)) (Xh : List (S56)) (Xe : List (S76)) (Xo : Int) (Xp : Bool) (a1 : Int) : Option (Int × Int) := (Xx.f k Xm Xh Xe Xo Xp).bind fun Xoa => (if Xoa = true then ((Fj.f a1 1 3).bind fun Ig => (Xw.j0 k a1 (!Ig) Xm Xh Xe Xo Xp)) else (Xw.j0 k a1 true Xm Xh Xe Xo Xp))
set_option maxHeartbeats 8000000 in
set_option maxRecDepth 100000 in
theorem Xw.calls (k : Nat) (YI : Option Addr) (YB : Nat) (Xm : List (S56)) (YN : Option Addr) (YJ : Nat) (Xh : List (S56)) (XE : Option Addr) (XF : Nat) (Xe : List (S76)) (Xo : Int) (Xp : Bool) (a1 : Int) (r1 : Int) (r2 : Int) (w : World) (hr0_0 : Kd.C k56 w YI Xm.length Xm) (hc0_0 : Xm.length ≤ YB) (hr0_1 : Kd.C k56 w YN Xh.length Xh) (hc0_1 : Xh.length ≤ YJ) (hr0_2 : Kd.C k76 w XE Xe.length Xe) (hc0_2 : Xe.length ≤ XF) (h : Xw.f k Xm Xh Xe Xo Xp a1 = some (r1, r2)) :
 Calls Tryz.prog 14 #[.agg #[.slice YI Xm.length YB, .slice YN Xh.length YJ, .slice XE Xe.length XF, .int .i64 Xo, .bool Xp], .int .i64 a1] w fun e w' => e = .returned (.tuple #[.int .i64 r1, .int .i64 r2]) ∧ Below w.heap.size w w' := by
 have hu31 := Tryz.underlying31; have hu56 := Tryz.underlying56; have U3 := az hr0_0; have Wq := az hc0_0; clear hr0_0 hc0_0; have VC := az hr0_1; have Ws := az hc0_1; clear hr0_1 hc0_1; have VU := az hr0_2; have DY := az hc0_2; clear hr0_2 hc0_2; have HB := az (Below.refl w.heap.size w); have H : ((Xx.f k Xm Xh Xe Xo Xp).bind fun Xoa => (if Xoa = true then ((Fj.f a1 1 3).bind fun Ig => (Xw.j0 k a1 (!Ig) Xm Xh Xe Xo Xp)) else (Xw.j0 k a1 true Xm Xh Xe Xo Xp))) = some (r1, r2) := h; clear h; have HC3 := az H; clear H
 go_enter Tryz.func14, Tryz.ntmps14
 go_upto_region 1 with (first | ((with_reducible refine Xn (N := 2) rfl ?_); refine Xl ?hg (N := 2) ?hd (cs := #[.slice YI Xm.length YB, .slice YN Xh.length YJ, .slice XE Xe.length XF, .int .i64 Xo, .bool Xp]) (t := 31) ?hr ?_; (case hd => rfl); (case hg => rfl); (case hr => exact zb10); intro XjR hg w4 hbox hb; have Gd := az (hbox); have XzW := az ((zb129 : w.heap.size ≤ XjR)); have GE572 := XzW; replace HB := az (Xc zb1 hb); clear hb hbox hg))
 (try simp only [Act.put, List.setIfInBounds_toArray, List.set_cons_zero, List.set_cons_succ])
 go_cut [19] (fun v19 wc => ∃ (kq : Nat) (XjS : Bool), v19 = .bool XjS ∧ Aside0 (Xw.j0 kq a1 XjS Xm Xh Xe Xo Xp = some (r1, r2)) ∧ Aside0 (kq ≤ k) ∧ Aside0 (wc.heap[XjR]? = some (.cells #[(.slice YI Xm.length YB), (.slice YN Xh.length YJ), (.slice XE Xe.length XF), .int .i64 Xo, .bool Xp] 31 (0, 0))) ∧ Aside0 (Below w.heap.size w wc))
 case first =>
  have H := HC3.out; clear HC3; replace H := Option.bind_eq_some_iff.mp H; obtain ⟨Xoa, A50, H⟩ := H; replace H : (if Xoa = true then ((Fj.f a1 1 3).bind fun Ig => (Xw.j0 k a1 (!Ig) Xm Xh Xe Xo Xp)) else (Xw.j0 k a1 true Xm Xh Xe Xo Xp)) = some (r1, r2) := H; have A5 := az A50; clear A50
  by_cases c6 : Xoa = true
  ·subst c6
   have H1 : ((Fj.f a1 1 3).bind fun Ig => (Xw.j0 k a1 (!Ig) Xm Xh Xe Xo Xp)) = some (r1, r2) := by rw [if_pos rfl] at H; exact H
   clear H; have H := H1; clear H1; replace H := Option.bind_eq_some_iff.mp H; obtain ⟨Ig, A70, H⟩ := H; replace H : (Xw.j0 k a1 (!Ig) Xm Xh Xe Xo Xp) = some (r1, r2) := H; have A7 := az A70; clear A70; have H' := az H; clear H; obtain ⟨Fp, Fq, Fs, SA, SB⟩ := cz5 Gd; obtain ⟨Fu, Fv, Fw, SC, SE⟩ := fz5 Gd
   go_wp2_with (first | ((with_reducible refine Xi (f := 27) rfl ?_); refine XI (some 13) rfl rfl Tryz.func27 zb9 rfl #[.agg #[.slice YI Xm.length YB, .slice YN Xh.length YJ, .slice XE Xe.length XF, .int .i64 Xo, .bool Xp]] rfl zb2 ?_; (with_reducible refine (Xx.calls k _ _ Xm _ _ Xh _ _ Xe Xo Xp true _ ?side1 ?side2 ?side3 ?side4 ?side5 ?side6 A5.out).mono ?_); (case side1 => exact zb7); (case side2 => exact zb115); (case side3 => exact zb8); (case side4 => exact zb123); (case side5 => exact zb5); (case side6 => exact zb92); rintro e w9 ⟨rfl, hb⟩; refine ⟨_, rfl, ?_⟩; replace Gd := bb Gd (fun h => by (with_reducible repeat (first | apply bn | apply bd | apply ba)); exact h) hb; replace HB := az (Xc zb0 hb); (try clear hb); (try clear hb2); (try clear hk); (try clear hi)) | (go_at_call 37; (with_reducible refine (Fj.calls a1 1 3 Ig _ A7.out).mono ?_); rintro e w' ⟨rfl, ⟨nd, rfl⟩⟩))
   go_meet
   case rel => exact ⟨_, (!Ig), zb6, H', ⟨zb142⟩, ⟨zb57⟩, ⟨zb0⟩⟩
  ·replace c6 := Bool.eq_false_iff.mpr c6
   subst c6
   have H1 : (Xw.j0 k a1 true Xm Xh Xe Xo Xp) = some (r1, r2) := by rw [if_neg (show ¬ (false = true) by decide)] at H; exact H
   clear H; have H := H1; clear H1; have H' := az H; clear H; obtain ⟨D6, D7, D8, Gz, G5⟩ := cz5 Gd; obtain ⟨D9, DC, DD, G6, G7⟩ := fz5 Gd
   go_wp2_with (first | ((with_reducible refine Xi (f := 27) rfl ?_); refine XI (some 13) rfl rfl Tryz.func27 zb9 rfl #[.agg #[.slice YI Xm.length YB, .slice YN Xh.length YJ, .slice XE Xe.length XF, .int .i64 Xo, .bool Xp]] rfl zb2 ?_; (with_reducible refine (Xx.calls k _ _ Xm _ _ Xh _ _ Xe Xo Xp false _ ?side1 ?side2 ?side3 ?side4 ?side5 ?side6 A5.out).mono ?_); (case side1 => exact zb7); (case side2 => exact zb115); (case side3 => exact zb8); (case side4 => exact zb123); (case side5 => exact zb5); (case side6 => exact zb92); rintro e w11 ⟨rfl, hb⟩; refine ⟨_, rfl, ?_⟩; replace Gd := bb Gd (fun h => by (with_reducible repeat (first | apply bn | apply bd | apply ba)); exact h) hb; replace HB := az (Xc zb0 hb); (try clear hb); (try clear hb2); (try clear hk); (try clear hi)))
   go_meet
   case rel => exact ⟨_, (true), zb6, H', ⟨zb142⟩, ⟨zb57⟩, ⟨zb0⟩⟩
 case rest =>
  clear HC3;(try clear c1);(try clear c2);(try clear p2);(try clear c6);(try clear D6);(try clear D7);(try clear D8);(try clear Gz);(try clear G5);(try clear Fp);(try clear Fq);(try clear Fs);(try clear SA);(try clear SB);(try clear D9);(try clear DC);(try clear DD);(try clear G6);(try clear G7);(try clear Fu);(try clear Fv);(try clear Fw);(try clear SC);(try clear SE)
  obtain ⟨kq, XjS, rfl, HA, HJ2, Gd, HB⟩ := hcut
  cases kq with
  | zero => exact absurd HA.out (by simp [Xw.j0])
  | succ kj2 =>
   have H := HA.out; clear HA; simp only [Xw.j0] at H
   by_cases c12 : XjS = true
   ·subst c12
    have H1 : (some (0, 0)) = some (r1, r2) := by rw [if_pos rfl] at H; exact H
    clear H; have H := H1; clear H1; simp only [Option.some.injEq, Prod.mk.injEq] at H; obtain ⟨rfl, rfl⟩ := H
    go_wp2
    go_ret2
    exact ⟨zb4, zb0⟩
   ·replace c12 := Bool.eq_false_iff.mpr c12
    subst c12
    have H1 : (Xw.l0 kj2 a1 0 0 Xh (Xh.length : Int) 0) = some (r1, r2) := by rw [if_neg (show ¬ (false = true) by decide)] at H; exact H
    clear H; have H := H1; clear H1; have H' := az H; clear H; obtain ⟨Kw, Ky, Kz, TZ, Ra⟩ := cz5 Gd; obtain ⟨K3, K4, K5, Rb, Re⟩ := fz5 Gd
    go_wp2
    go_loopg [6, 7, 23] kj2 (fun kq v6 v7 v23 w' => ∃ (Wz : Int) (XcM : Int) (Jl : Int), v6 = .int .i64 Wz ∧ v7 = .int .i64 XcM ∧ v23 = .int .i64 Jl ∧ Aside0 (Xw.l0 kq a1 Wz XcM Xh (Xh.length : Int) Jl = some (r1, r2)) ∧ Aside0 (kq ≤ kj2) ∧ Aside0 (w'.heap[XjR]? = some (.cells #[(.slice YI Xm.length YB), (.slice YN Xh.length YJ), (.slice XE Xe.length XF), .int .i64 Xo, .bool Xp] 31 (0, 0))) ∧ Aside0 (Below w.heap.size w w'))
    case atStart => exact ⟨(0), (0), (0), zb6, zb6, zb6, H', ⟨Nat.le_refl _⟩, ⟨zb57⟩, ⟨zb0⟩⟩
    case round =>
     clear H';(try clear c1);(try clear c2);(try clear p2);(try clear c6);(try clear c12);(try clear D6);(try clear D7);(try clear D8);(try clear Gz);(try clear G5);(try clear Kw);(try clear Ky);(try clear Kz);(try clear TZ);(try clear Ra);(try clear Fp);(try clear Fq);(try clear Fs);(try clear SA);(try clear SB);(try clear D9);(try clear DC);(try clear DD);(try clear G6);(try clear G7);(try clear K3);(try clear K4);(try clear K5);(try clear Rb);(try clear Re);(try clear Fu);(try clear Fv);(try clear Fw);(try clear SC);(try clear SE);(try clear p2)
     obtain ⟨Wz, XcM, Jl, rfl, rfl, rfl, HA, HK2, Gd, HB⟩ := hrel
     cases gk with
     | zero => exact absurd HA.out (by simp [Xw.l0])
     | succ k2 =>
      have H := HA.out; clear HA; simp only [Xw.l0] at H
      by_cases c14 : Jl < (Xh.length : Int)
      ·rw [if_pos c14] at H
       have XpK : decide (Jl < (Xh.length : Int)) = true := decide_eq_true c14; clear c14
       by_cases c15 : 0 ≤ Jl
       ·rw [if_pos c15] at H
        have Xfo : decide (0 ≤ Jl) = true := decide_eq_true c15; clear c15
        by_cases c16 : Jl < (Xh.length : Int)
        ·rw [if_pos c16] at H
         have Xfp : decide (Jl < (Xh.length : Int)) = true := decide_eq_true c16; clear c16; have H' := az H; clear H; have Xsr : 0 ≤ (Jl : Int) := of_decide_eq_true zb3; have Xss : Jl < (Xh.length : Int) := of_decide_eq_true zb3; obtain ⟨XzX, Xxo, Xxp, e575, XcY, XcZ, Xda, hl575_2, hi575_2⟩ := ZU VC.out Jl Xsr Xss
         cases e575
         replace XcY := cb HB XcY; replace XcZ := cb HB XcZ; replace Xda := cb HB Xda; have Xdb := az hi575_2; have X12 := az hl575_2; clear hi575_2 hl575_2; replace Xsr := eq_true Xsr; replace Xss := eq_true Xss
         go_wp2_with (first | ((with_reducible refine Xn (N := 9) rfl ?_); refine Xl ?hg (N := 9) ?hd (cs := #[.int .i64 0, .int .i64 0, .slice none 0 0]) (t := 56) ?hr ?_; (case hd => rfl); (case hg => rfl); (case hr => exact zb10); intro Xwu hg w17 hbox hb; have Sa := az (hbox); have XzY := az ((zb131 : w.heap.size ≤ Xwu)); have GE576 := XzY; replace HB := az (Xc zb0 hb); obtain ⟨Sc, K6⟩ := nb Gd hg (fun h => by (with_reducible repeat (first | apply bn | apply bd | apply ba)); exact h); replace Gd := bb Gd (fun h => by (with_reducible repeat (first | apply bn | apply bd | apply ba)); exact h) hb; clear hb hbox hg; have Xwv := K6.out; have Xww := Sc.out; obtain ⟨Gp, Gq, Gr⟩ := cz3 Sa; have Gs := Xd Sa.out 0; have Gt := Xd Sa.out 1; have Gu := Xd Sa.out 2))
         go_loopg [6, 7, 30] k2 (fun kq v6 v7 v30 w' => ∃ (W9 : Int) (WA : Int) (Vw : Int), v6 = .int .i64 W9 ∧ v7 = .int .i64 WA ∧ v30 = .int .i64 Vw ∧ Aside0 (Xw.l1 kq a1 W9 WA Xh (Xh.length : Int) Jl ((Xb Xh Jl).f2) (((Xb Xh Jl).f2).length : Int) Vw ((Xb Xh Jl).f0) ((Xb Xh Jl).f1) ((Xb Xh Jl).f2) = some (r1, r2)) ∧ Aside0 (kq ≤ k2) ∧ Aside0 (w'.heap[XjR]? = some (.cells #[(.slice YI Xm.length YB), (.slice (some XzX) Xh.length YJ), (.slice XE Xe.length XF), .int .i64 Xo, .bool Xp] 31 (0, 0))) ∧ Aside0 (w'.heap[Xwu]? = some (.cells #[.int .i64 ((Xb Xh Jl).f0), .int .i64 ((Xb Xh Jl).f1), (.slice Xxo ((Xb Xh Jl).f2).length Xxp)] 56 (0, 0))) ∧ Aside0 (Below w.heap.size w w'))
         case atStart => exact ⟨(Wz), (XcM), (0), zb6, zb6, zb6, H', ⟨Nat.le_refl _⟩, ⟨by (repeat (first | (with_reducible first | apply bn | apply bd | apply ba) | apply bf Sc)); exact Gd.out⟩, ⟨by (with_reducible repeat (first | apply bn | apply bd | apply ba)); exact p3 Sa⟩, ⟨zb0⟩⟩
         case round =>
          clear H';(try clear c1);(try clear c2);(try clear p2);(try clear c5);(try clear p5);(try clear q5);(try clear hx5);(try clear c6);(try clear c12);(try clear c14);(try clear XpK);(try clear c15);(try clear Xfo);(try clear c16);(try clear Xfp);(try clear c18);(try clear D6);(try clear D7);(try clear D8);(try clear Gz);(try clear G5);(try clear Kw);(try clear Ky);(try clear Kz);(try clear TZ);(try clear Ra);(try clear Gp);(try clear Gq);(try clear Gr);(try clear Fp);(try clear Fq);(try clear Fs);(try clear SA);(try clear SB);(try clear D9);(try clear DC);(try clear DD);(try clear G6);(try clear G7);(try clear K3);(try clear K4);(try clear K5);(try clear Rb);(try clear Re);(try clear Gs);(try clear Gt);(try clear Gu);(try clear Fu);(try clear Fv);(try clear Fw);(try clear SC);(try clear SE);(try clear XcY);(try clear XcZ);(try clear Xda);(try clear p2);(try clear Xsr);(try clear Xss)
          obtain ⟨W9, WA, Vw, rfl, rfl, rfl, HA, HK3, Gd, Sa, HB⟩ := hrel
          cases gk with
          | zero => exact absurd HA.out (by simp [Xw.l1])
          | succ k3 =>
           have H := HA.out; clear HA; simp only [Xw.l1] at H
           by_cases c20 : Vw < (((Xb Xh Jl).f2).length : Int)
           ·rw [if_pos c20] at H
            have Xwx : decide (Vw < (((Xb Xh Jl).f2).length : Int)) = true := decide_eq_true c20; clear c20
            by_cases c21 : 0 ≤ Vw
            ·rw [if_pos c21] at H
             have Xwq : decide (0 ≤ Vw) = true := decide_eq_true c21; clear c21
             by_cases c22 : Vw < (((Xb Xh Jl).f2).length : Int)
             ·rw [if_pos c22] at H
              have XpI : decide (Vw < (((Xb Xh Jl).f2).length : Int)) = true := decide_eq_true c22; clear c22
              by_cases c23 : ((Xb Xh Jl).f1) = a1
              ·rw [if_pos c23] at H
               have Xwr : (((Xb Xh Jl).f1) == a1) = true := beq_iff_eq.mpr c23; have XzZ : (((Xb Xh Jl).f1) != a1) = false := bne_eq_false_iff_eq.mpr c23; clear c23
               by_cases c24 : (rd ((Xb Xh Jl).f2) Vw) = 0
               ·rw [if_pos c24] at H
                have XpJ : ((rd ((Xb Xh Jl).f2) Vw) == 0) = true := beq_iff_eq.mpr c24; have X0a : ((rd ((Xb Xh Jl).f2) Vw) != 0) = false := bne_eq_false_iff_eq.mpr c24; clear c24; have H' := az H; clear H; have Ih : 0 ≤ (Vw : Int) := of_decide_eq_true zb3; have Ii : Vw < (((Xb Xh Jl).f2).length : Int) := of_decide_eq_true zb3; obtain ⟨Xwy, XpL, Nl⟩ := Kd.Jh Xdb.out Vw Ih Ii
                cases XpL
                replace Nl := cb HB Nl; replace Ih := eq_true Ih; replace Ii := eq_true Ii; have hnb25 := K6.out; have hnc25 := Sc.out; obtain ⟨XcO, XcP, XcQ⟩ := cz3 Sa; obtain ⟨XcR, XcS, XcT⟩ := fz3 Sa
                go_wp2
                go_roundg k3
                case measure => have := HJ2.out; have := HK2.out; have := HK3.out; omega
                case rel => exact ⟨(W9), (WA), (wrap64 (Vw + 1)), zb6, zb6, zb6, H', ⟨zb96⟩, ⟨zb57⟩, ⟨zb97⟩, ⟨zb0⟩⟩
               ·rw [if_neg c24] at H
                have XpJ : ((rd ((Xb Xh Jl).f2) Vw) == 0) = false := beq_eq_false_iff_ne.mpr c24; have X0a : ((rd ((Xb Xh Jl).f2) Vw) != 0) = true := bne_iff_ne.mpr c24; have H' := az H; clear H; have Ih : 0 ≤ (Vw : Int) := of_decide_eq_true zb3; have Ii : Vw < (((Xb Xh Jl).f2).length : Int) := of_decide_eq_true zb3; obtain ⟨Xwy, XpL, Nl⟩ := Kd.Jh Xdb.out Vw Ih Ii
                cases XpL
                replace Nl := cb HB Nl; replace Ih := eq_true Ih; replace Ii := eq_true Ii; have X0b := K6.out; have X0c := Sc.out; obtain ⟨XjT, XjU, XjV⟩ := cz3 Sa; obtain ⟨XjW, XjX, XjY⟩ := fz3 Sa
                go_wp2
                go_roundg k3
                case measure => have := HJ2.out; have := HK2.out; have := HK3.out; omega
                case rel => exact ⟨(wrap64 (W9 + 1)), (wrap64 (WA + (rd ((Xb Xh Jl).f2) Vw))), (wrap64 (Vw + 1)), zb6, zb6, zb6, H', ⟨zb96⟩, ⟨zb57⟩, ⟨zb97⟩, ⟨zb0⟩⟩
              ·rw [if_neg c23] at H
               have Xwr : (((Xb Xh Jl).f1) == a1) = false := beq_eq_false_iff_ne.mpr c23; have XzZ : (((Xb Xh Jl).f1) != a1) = true := bne_iff_ne.mpr c23; have H' := az H; clear H; have Ih : 0 ≤ (Vw : Int) := of_decide_eq_true zb3; have Ii : Vw < (((Xb Xh Jl).f2).length : Int) := of_decide_eq_true zb3; obtain ⟨Xwy, XpL, Nl⟩ := Kd.Jh Xdb.out Vw Ih Ii
               cases XpL
               replace Nl := cb HB Nl; replace Ih := eq_true Ih; replace Ii := eq_true Ii; have X0d := K6.out; have X0e := Sc.out; obtain ⟨XjZ, Xka, Xkb⟩ := cz3 Sa; obtain ⟨Xkc, Xkd, Xke⟩ := fz3 Sa
               go_wp2
               go_roundg k3
               case measure => have := HJ2.out; have := HK2.out; have := HK3.out; omega
               case rel => exact ⟨(W9), (WA), (wrap64 (Vw + 1)), zb6, zb6, zb6, H', ⟨zb96⟩, ⟨zb57⟩, ⟨zb97⟩, ⟨zb0⟩⟩
             ·rw [if_neg c22] at H
              exact absurd H (by simp)
            ·rw [if_neg c21] at H
             exact absurd H (by simp)
           ·rw [if_neg c20] at H
            have Xwx : decide (Vw < (((Xb Xh Jl).f2).length : Int)) = false := decide_eq_false c20; clear c20; have H' := az H; clear H
            go_wp2
            go_roundg k3
            case measure => have := HJ2.out; have := HK2.out; have := HK3.out; omega
            case rel => exact ⟨(W9), (WA), (wrap64 (Jl + 1)), zb6, zb6, zb6, H', ⟨zb96⟩, ⟨zb57⟩, ⟨zb0⟩⟩
        ·rw [if_neg c16] at H
         exact absurd H (by simp)
       ·rw [if_neg c15] at H
        exact absurd H (by simp)
      ·rw [if_neg c14] at H
       have XpK : decide (Jl < (Xh.length : Int)) = false := decide_eq_false c14; clear c14; simp only [Option.some.injEq, Prod.mk.injEq] at H; obtain ⟨rfl, rfl⟩ := H
       go_wp2
       go_ret2
       exact ⟨zb4, zb0⟩
end Go.Proofs.YtphnphmbfogmlaaGreat.Pr
