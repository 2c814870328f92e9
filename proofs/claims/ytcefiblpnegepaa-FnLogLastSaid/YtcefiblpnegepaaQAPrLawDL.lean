import Derived.Test.YtcefiblpnegepaaQAByq
import Derived.Test.YtcefiblpnegepaaQASq
import Derived.Test.YtcefiblpnegepaaQASx
import Derived.Test.YtcefiblpnegepaaQADLog
import Derived.Test.YtcefiblpnegepaaQALLastP
namespace Go.Proofs.Ytcefiblpnegepaa.Pr
open Go.RowKit Go.PW Go.PL Go.PM
attribute [local go_sem] YB YC Zc Zd Yn Yo YD YE
set_option linter.unusedVariables false
set_option linter.unusedSimpArgs false
mutual
def XE.j0 : Nat → List (S41) → Int → Int → Bool → Option (Bool)
 | 0, _, _, _, _ => none
 | k + 1, x3, x4, x5, x28 => if x28 = true then ((Jh.f k x3 x4).bind fun XaC => (some (x5 == XaC))) else (XE.l0 k x3 x4 x5 (wrap64 ((x3.length : Int) - 1)))
def XE.l0 : Nat → List (S41) → Int → Int → Int → Option (Bool)
 | 0, _, _, _, _ => none
 | k + 1, x3, x4, x5, x6 => if x6 ≥ 0 then (if 0 ≤ x6 then (if x6 < (x3.length : Int) then (if ((Xa x3 x6).f1) = x4 then (if ((Xa x3 x6).f0) = 4 then (if x5 = 0 then (some true) else (if x5 = (wrap64 (x6 + 1)) then (some (!true)) else (some false))) else (if x5 = 0 then (if ((Xa x3 x6).f0) = 5 then (some true) else (if x5 = (wrap64 (x6 + 1)) then (some (!(((Xa x3 x6).f0) == 5))) else (some false))) else (if x5 = (wrap64 (x6 + 1)) then (some (!(((Xa x3 x6).f0) == 5))) else (some false)))) else (XE.l0 k x3 x4 x5 (wrap64 (x6 - 1)))) else (none)) else (none)) else (some (x5 == 0))
end
def XE.f (k : Nat) (l0 : List Int) : Option (Bool) := if (l0.length : Int) > 1048576 then (some true) else ((X6.f k l0).bind fun Gn => ((Y5.f k Gn.1 Gn.2).bind fun JA => ((Jh.f k Gn.1 Gn.2).bind fun We => (if JA = We then ((Xi.f k Gn.1).bind fun PZ => (XE.j0 k Gn.1 Gn.2 JA (!PZ))) else (XE.j0 k Gn.1 Gn.2 JA true)))))
set_option maxHeartbeats 8000000 in
set_option maxRecDepth 100000 in
theorem XE.calls (k : Nat) (A0 : Option Addr) (c0 : Nat) (l0 : List Int) (r : Bool) (w : World) (hr0 : Kd.C (Kd.int .u8) w A0 l0.length l0) (hc0 : l0.length ≤ c0) (h : XE.f k l0 = some r) :
  Calls Try.prog 17 #[.slice A0 l0.length c0] w fun e w' => e = .returned (.bool r) ∧ Below w.heap.size w w' := by
 have HR0 := az hr0; have HC0 := az hc0; clear hr0 hc0; have HB := az (Below.refl w.heap.size w); have H : (if (l0.length : Int) > 1048576 then (some true) else ((X6.f k l0).bind fun Gn => ((Y5.f k Gn.1 Gn.2).bind fun JA => ((Jh.f k Gn.1 Gn.2).bind fun We => (if JA = We then ((Xi.f k Gn.1).bind fun PZ => (XE.j0 k Gn.1 Gn.2 JA (!PZ))) else (XE.j0 k Gn.1 Gn.2 JA true)))))) = some r := h; clear h
 by_cases c2 : (l0.length : Int) > 1048576
 ·rw [if_pos c2] at H
  have c2b0 : decide (1048576 < (l0.length : Int)) = true := decide_eq_true c2; have c2b1 : decide (1048576 < l0.length) = true := decide_eq_true (by omega); clear c2; obtain rfl := Option.some.inj H
  go_enter Try.func17, Try.ntmps17
  go_wp2
  go_ret
  exact ⟨zb8, zb1⟩
 ·rw [if_neg c2] at H
  have c2b0 : decide (1048576 < (l0.length : Int)) = false := decide_eq_false c2; have c2b1 : decide (1048576 < l0.length) = false := decide_eq_false (by omega); clear c2; replace H := Option.bind_eq_some_iff.mp H; obtain ⟨⟨ZV, Gc⟩, A30, H⟩ := H; replace H : ((Y5.f k ZV Gc).bind fun JA => ((Jh.f k ZV Gc).bind fun We => (if JA = We then ((Xi.f k ZV).bind fun PZ => (XE.j0 k ZV Gc JA (!PZ))) else (XE.j0 k ZV Gc JA true)))) = some r := H; have A3 := az A30; clear A30; replace H := Option.bind_eq_some_iff.mp H; obtain ⟨JA, A40, H⟩ := H; replace H : ((Jh.f k ZV Gc).bind fun We => (if JA = We then ((Xi.f k ZV).bind fun PZ => (XE.j0 k ZV Gc JA (!PZ))) else (XE.j0 k ZV Gc JA true))) = some r := H; have A4 := az A40; clear A40; have HC5 := az H; clear H
  go_enter Try.func17, Try.ntmps17
  go_upto_region 5 with (first | ((with_reducible refine Xg (f := 68) rfl ?_); refine Xz (some 13) rfl rfl Try.func68 zb14 rfl #[.slice A0 l0.length c0] rfl zb0 ?_; (with_reducible refine (X6.calls k _ _ l0 ZV Gc _ ?side1 ?side2 A3.out).mono ?_); (case side1 => exact zb17); (case side2 => exact HC0.out); rintro e w6 ⟨v255, rfl, ho0, hb⟩; refine ⟨_, rfl, ?_⟩; have Wj := az (Kd.Pj ho0 (Xr zb1)); replace HB := az (Xe zb1 hb); (try clear hb); (try clear hb2); (try clear hk); (try clear hi); (try clear ho0); obtain ⟨Ao7, co7, eo7, _⟩ := Kd.CW Wj.out; subst eo7) | ((with_reducible refine Xg (f := 37) rfl ?_); refine Xz (some 18) rfl rfl Try.func37 zb14 rfl #[.slice Ao7 ZV.length co7, .int .i64 Gc] rfl zb0 ?_; (with_reducible refine (Y5.calls k _ _ ZV Gc JA _ ?side1 ?side2 A4.out).mono ?_); (case side1 => exact zb73); (case side2 => exact (Kd.XF Wj.out).2.1); rintro e w8 ⟨rfl, hb⟩; refine ⟨_, rfl, ?_⟩; replace Wj := az (Kd.YL zb58 hb); replace HB := az (Xe zb1 hb); (try clear hb); (try clear hb2); (try clear hk); (try clear hi)))
  (try simp only [Act.put, List.setIfInBounds_toArray, List.set_cons_zero, List.set_cons_succ])
  go_cut [28] (fun v28 wc => ∃ (kq : Nat) (Xde : Bool), v28 = .bool Xde ∧ Aside0 (XE.j0 kq ZV Gc JA Xde = some r) ∧ Aside0 (kq ≤ k) ∧ Aside0 (Kd.Q k41 41 wc w.heap.size (fun _ => True) (.slice Ao7 ZV.length co7) ZV) ∧ Aside0 (Below w.heap.size w wc))
  case first =>
   have H := HC5.out; clear HC5; replace H := Option.bind_eq_some_iff.mp H; obtain ⟨We, A90, H⟩ := H; replace H : (if JA = We then ((Xi.f k ZV).bind fun PZ => (XE.j0 k ZV Gc JA (!PZ))) else (XE.j0 k ZV Gc JA true)) = some r := H; have A9 := az A90; clear A90
   by_cases c10 : JA = We
   ·rw [if_pos c10] at H
    have Fq : (JA == We) = true := beq_iff_eq.mpr c10; have Wy : (JA != We) = false := bne_eq_false_iff_eq.mpr c10; clear c10
    (first | rw [Fq] | (simp only [XB, XK]; rw [Fq]) | skip)
    replace H := Option.bind_eq_some_iff.mp H; obtain ⟨PZ, XfY, H⟩ := H; replace H : (XE.j0 k ZV Gc JA (!PZ)) = some r := H; have A11 := az XfY; clear XfY; have H' := az H; clear H
    go_wp2_with (first | ((with_reducible refine Xg (f := 36) rfl ?_); refine Xz (some 22) rfl rfl Try.func36 zb14 rfl #[.slice Ao7 ZV.length co7, .int .i64 Gc] rfl zb0 ?_; (with_reducible refine (Jh.calls k _ _ ZV Gc We _ ?side1 ?side2 A9.out).mono ?_); (case side1 => exact zb73); (case side2 => exact (Kd.XF Wj.out).2.1); rintro e w12 ⟨rfl, hb⟩; refine ⟨_, rfl, ?_⟩; replace Wj := az (Kd.YL zb58 hb); replace HB := az (Xe zb1 hb); (try clear hb); (try clear hb2); (try clear hk); (try clear hi)) | (go_at_call 32; (with_reducible refine (Xi.calls k _ _ ZV PZ _ ?side1 ?side2 A11.out).mono ?_); (case side1 => exact zb73); (case side2 => exact (Kd.XF Wj.out).2.1); rintro e w13 ⟨rfl, hb⟩; replace Wj := az (Kd.YL zb58 hb); replace HB := az (Xe zb1 hb); (try clear hb); (try clear hb2); (try clear hk); (try clear hi)))
    go_meet
    case rel => exact ⟨_, (!PZ), zb12, H', ⟨zb51⟩, ⟨zb58⟩, ⟨zb1⟩⟩
   ·rw [if_neg c10] at H
    have Fq : (JA == We) = false := beq_eq_false_iff_ne.mpr c10; have Wy : (JA != We) = true := bne_iff_ne.mpr c10
    (first | rw [Fq] | (simp only [XB, XK]; rw [Fq]) | skip)
    have H' := az H; clear H
    go_wp2_with (first | ((with_reducible refine Xg (f := 36) rfl ?_); refine Xz (some 22) rfl rfl Try.func36 zb14 rfl #[.slice Ao7 ZV.length co7, .int .i64 Gc] rfl zb0 ?_; (with_reducible refine (Jh.calls k _ _ ZV Gc We _ ?side1 ?side2 A9.out).mono ?_); (case side1 => exact zb73); (case side2 => exact (Kd.XF Wj.out).2.1); rintro e w14 ⟨rfl, hb⟩; refine ⟨_, rfl, ?_⟩; replace Wj := az (Kd.YL zb58 hb); replace HB := az (Xe zb1 hb); (try clear hb); (try clear hb2); (try clear hk); (try clear hi)))
    go_meet
    case rel => exact ⟨_, (true), zb12, H', ⟨zb51⟩, ⟨zb58⟩, ⟨zb1⟩⟩
  case rest =>
   clear HC5;(try clear c1);(try clear c2);(try clear c2b0);(try clear c2b1);(try clear p2);(try clear c3);(try clear c6);(try clear c10);(try clear Fq);(try clear Wy)
   obtain ⟨kq, Xde, rfl, HA, HJ4, HO_3, HB⟩ := hcut
   cases kq with
   | zero => exact absurd HA.out (by simp [XE.j0])
   | succ kj4 =>
    have H := HA.out; clear HA; simp only [XE.j0] at H
    by_cases c15 : Xde = true
    ·subst c15
     have H1 : ((Jh.f kj4 ZV Gc).bind fun XaC => (some (JA == XaC))) = some r := by rw [if_pos rfl] at H; exact H
     clear H; have H := H1; clear H1; replace H := Option.bind_eq_some_iff.mp H; obtain ⟨XaC, XfD, H⟩ := H; replace H : (some (JA == XaC)) = some r := H; have A16 := az XfD; clear XfD; obtain rfl := Option.some.inj H
     go_wp2_with (first | ((with_reducible refine Xg (f := 36) rfl ?_); refine Xz (some 32) rfl rfl Try.func36 zb14 rfl #[.slice Ao7 ZV.length co7, .int .i64 Gc] rfl zb0 ?_; (with_reducible refine (Jh.calls kj4 _ _ ZV Gc XaC _ ?side1 ?side2 A16.out).mono ?_); (case side1 => exact zb94); (case side2 => exact (Kd.XF HO_3.out).2.1); rintro e w17 ⟨rfl, hb⟩; refine ⟨_, rfl, ?_⟩; replace HO_3 := az (Kd.YL zb32 hb); replace HB := az (Xe zb1 hb); (try clear hb); (try clear hb2); (try clear hk); (try clear hi)))
     go_ret
     exact ⟨zb8, zb1⟩
    ·replace c15 := Bool.eq_false_iff.mpr c15
     subst c15
     have H1 : (XE.l0 kj4 ZV Gc JA (wrap64 ((ZV.length : Int) - 1))) = some r := by rw [if_neg (show ¬ (false = true) by decide)] at H; exact H
     clear H; have H := H1; clear H1; have H' := az H; clear H
     go_wp2
     go_loopg [6] kj4 (fun kq v6 w' => ∃ (YA : Int), v6 = .int .i64 YA ∧ Aside0 (XE.l0 kq ZV Gc JA YA = some r) ∧ Aside0 (kq ≤ kj4) ∧ Aside0 (Kd.Q k41 41 w' w.heap.size (fun _ => True) (.slice Ao7 ZV.length co7) ZV) ∧ Aside0 (Below w.heap.size w w'))
     case atStart => exact ⟨(wrap64 ((ZV.length : Int) - 1)), zb12, H', ⟨Nat.le_refl _⟩, ⟨zb32⟩, ⟨zb1⟩⟩
     case round =>
      clear H';(try clear c1);(try clear c2);(try clear c2b0);(try clear c2b1);(try clear p2);(try clear c3);(try clear c6);(try clear p6);(try clear c10);(try clear Fq);(try clear Wy);(try clear c15);(try clear c17);(try clear p2)
      obtain ⟨YA, rfl, HA, HK2, HO_3, HB⟩ := hrel
      cases gk with
      | zero => exact absurd HA.out (by simp [XE.l0])
      | succ k2 =>
       have H := HA.out; clear HA; simp only [XE.l0] at H
       by_cases c18 : YA ≥ 0
       ·rw [if_pos c18] at H
        have Xmt : decide (0 ≤ YA) = true := decide_eq_true c18; clear c18
        by_cases c19 : 0 ≤ YA
        ·rw [if_pos c19] at H
         have XsY : decide (0 ≤ YA) = true := decide_eq_true c19; clear c19
         by_cases c20 : YA < (ZV.length : Int)
         ·rw [if_pos c20] at H
          have BS : decide (YA < (ZV.length : Int)) = true := decide_eq_true c20; clear c20
          by_cases c21 : ((Xa ZV YA).f1) = Gc
          ·rw [if_pos c21] at H
           have Xmu : (((Xa ZV YA).f1) == Gc) = true := beq_iff_eq.mpr c21; have XsZ : (((Xa ZV YA).f1) != Gc) = false := bne_eq_false_iff_eq.mpr c21; clear c21
           by_cases c22 : ((Xa ZV YA).f0) = 4
           ·rw [if_pos c22] at H
            have OY : (((Xa ZV YA).f0) == 4) = true := beq_iff_eq.mpr c22; have XcY : (((Xa ZV YA).f0) != 4) = false := bne_eq_false_iff_eq.mpr c22; clear c22
            by_cases c23 : JA = 0
            ·rw [if_pos c23] at H
             have XcZ : (JA == 0) = true := beq_iff_eq.mpr c23; have Xda : (JA != 0) = false := bne_eq_false_iff_eq.mpr c23; clear c23; obtain rfl := Option.some.inj H; have DL : 0 ≤ (YA : Int) := of_decide_eq_true zb7; have DN : YA < (ZV.length : Int) := of_decide_eq_true zb7; obtain ⟨Fw, Wz, MK, ML, MM, MN, MO, MP, MQ, MR⟩ := XV (Kd.XF HO_3.out).2.2 YA DL DN
             cases Wz
             replace DL := eq_true DL; replace DN := eq_true DN; have FP : 0 ≤ (YA : Int) := of_decide_eq_true zb7; have FQ : YA < (ZV.length : Int) := of_decide_eq_true zb7; obtain ⟨Mw, Ka, Sc, Sd, Sg, Si, Sj, Sk, Sl, Sm⟩ := XV (Kd.XF HO_3.out).2.2 YA FP FQ
             obtain rfl : Fw = Mw := (by injection Ka)
             replace FP := eq_true FP; replace FQ := eq_true FQ
             go_wp2
             go_ret
             exact ⟨zb8, zb1⟩
            ·rw [if_neg c23] at H
             have XcZ : (JA == 0) = false := beq_eq_false_iff_ne.mpr c23; have Xda : (JA != 0) = true := bne_iff_ne.mpr c23
             by_cases c24 : JA = (wrap64 (YA + 1))
             ·rw [if_pos c24] at H
              have Xmv : (JA == (wrap64 (YA + 1))) = true := beq_iff_eq.mpr c24; have Xta : (JA != (wrap64 (YA + 1))) = false := bne_eq_false_iff_eq.mpr c24; clear c24; obtain rfl := Option.some.inj H; have DL : 0 ≤ (YA : Int) := of_decide_eq_true zb7; have DN : YA < (ZV.length : Int) := of_decide_eq_true zb7; obtain ⟨Fw, Wz, MK, ML, MM, MN, MO, MP, MQ, MR⟩ := XV (Kd.XF HO_3.out).2.2 YA DL DN
              cases Wz
              replace DL := eq_true DL; replace DN := eq_true DN; have FP : 0 ≤ (YA : Int) := of_decide_eq_true zb7; have FQ : YA < (ZV.length : Int) := of_decide_eq_true zb7; obtain ⟨Mw, Ka, Sc, Sd, Sg, Si, Sj, Sk, Sl, Sm⟩ := XV (Kd.XF HO_3.out).2.2 YA FP FQ
              obtain rfl : Fw = Mw := (by injection Ka)
              replace FP := eq_true FP; replace FQ := eq_true FQ
              go_wp2
              go_ret
              exact ⟨zb8, zb1⟩
             ·rw [if_neg c24] at H
              have Xmv : (JA == (wrap64 (YA + 1))) = false := beq_eq_false_iff_ne.mpr c24; have Xta : (JA != (wrap64 (YA + 1))) = true := bne_iff_ne.mpr c24; obtain rfl := Option.some.inj H; have DL : 0 ≤ (YA : Int) := of_decide_eq_true zb7; have DN : YA < (ZV.length : Int) := of_decide_eq_true zb7; obtain ⟨Fw, Wz, MK, ML, MM, MN, MO, MP, MQ, MR⟩ := XV (Kd.XF HO_3.out).2.2 YA DL DN
              cases Wz
              replace DL := eq_true DL; replace DN := eq_true DN; have FP : 0 ≤ (YA : Int) := of_decide_eq_true zb7; have FQ : YA < (ZV.length : Int) := of_decide_eq_true zb7; obtain ⟨Mw, Ka, Sc, Sd, Sg, Si, Sj, Sk, Sl, Sm⟩ := XV (Kd.XF HO_3.out).2.2 YA FP FQ
              obtain rfl : Fw = Mw := (by injection Ka)
              replace FP := eq_true FP; replace FQ := eq_true FQ
              go_wp2
              go_ret
              exact ⟨zb8, zb1⟩
           ·rw [if_neg c22] at H
            have OY : (((Xa ZV YA).f0) == 4) = false := beq_eq_false_iff_ne.mpr c22; have XcY : (((Xa ZV YA).f0) != 4) = true := bne_iff_ne.mpr c22
            by_cases c25 : JA = 0
            ·rw [if_pos c25] at H
             have Xmw : (JA == 0) = true := beq_iff_eq.mpr c25; have Xtb : (JA != 0) = false := bne_eq_false_iff_eq.mpr c25; clear c25
             by_cases c26 : ((Xa ZV YA).f0) = 5
             ·rw [if_pos c26] at H
              have XfZ : (((Xa ZV YA).f0) == 5) = true := beq_iff_eq.mpr c26; have Xga : (((Xa ZV YA).f0) != 5) = false := bne_eq_false_iff_eq.mpr c26; clear c26; obtain rfl := Option.some.inj H; have DL : 0 ≤ (YA : Int) := of_decide_eq_true zb7; have DN : YA < (ZV.length : Int) := of_decide_eq_true zb7; obtain ⟨Fw, Wz, MK, ML, MM, MN, MO, MP, MQ, MR⟩ := XV (Kd.XF HO_3.out).2.2 YA DL DN
              cases Wz
              replace DL := eq_true DL; replace DN := eq_true DN; have FP : 0 ≤ (YA : Int) := of_decide_eq_true zb7; have FQ : YA < (ZV.length : Int) := of_decide_eq_true zb7; obtain ⟨Mw, Ka, Sc, Sd, Sg, Si, Sj, Sk, Sl, Sm⟩ := XV (Kd.XF HO_3.out).2.2 YA FP FQ
              obtain rfl : Fw = Mw := (by injection Ka)
              replace FP := eq_true FP; replace FQ := eq_true FQ; have Sn : 0 ≤ (YA : Int) := of_decide_eq_true zb7; have Sq : YA < (ZV.length : Int) := of_decide_eq_true zb7; obtain ⟨KC, Qr, Cs, Ct, Cu, Cv, Cw, Cx, Cy, Cz⟩ := XV (Kd.XF HO_3.out).2.2 YA Sn Sq
              obtain rfl : Fw = KC := (by injection Qr)
              replace Sn := eq_true Sn; replace Sq := eq_true Sq
              go_wp2
              go_ret
              exact ⟨zb8, zb1⟩
             ·rw [if_neg c26] at H
              have XfZ : (((Xa ZV YA).f0) == 5) = false := beq_eq_false_iff_ne.mpr c26; have Xga : (((Xa ZV YA).f0) != 5) = true := bne_iff_ne.mpr c26
              by_cases c27 : JA = (wrap64 (YA + 1))
              ·rw [if_pos c27] at H
               have Xtc : (JA == (wrap64 (YA + 1))) = true := beq_iff_eq.mpr c27; have Xtd : (JA != (wrap64 (YA + 1))) = false := bne_eq_false_iff_eq.mpr c27; clear c27; obtain rfl := Option.some.inj H; have DL : 0 ≤ (YA : Int) := of_decide_eq_true zb7; have DN : YA < (ZV.length : Int) := of_decide_eq_true zb7; obtain ⟨Fw, Wz, MK, ML, MM, MN, MO, MP, MQ, MR⟩ := XV (Kd.XF HO_3.out).2.2 YA DL DN
               cases Wz
               replace DL := eq_true DL; replace DN := eq_true DN; have FP : 0 ≤ (YA : Int) := of_decide_eq_true zb7; have FQ : YA < (ZV.length : Int) := of_decide_eq_true zb7; obtain ⟨Mw, Ka, Sc, Sd, Sg, Si, Sj, Sk, Sl, Sm⟩ := XV (Kd.XF HO_3.out).2.2 YA FP FQ
               obtain rfl : Fw = Mw := (by injection Ka)
               replace FP := eq_true FP; replace FQ := eq_true FQ; have Sn : 0 ≤ (YA : Int) := of_decide_eq_true zb7; have Sq : YA < (ZV.length : Int) := of_decide_eq_true zb7; obtain ⟨KC, Qr, Cs, Ct, Cu, Cv, Cw, Cx, Cy, Cz⟩ := XV (Kd.XF HO_3.out).2.2 YA Sn Sq
               obtain rfl : Fw = KC := (by injection Qr)
               replace Sn := eq_true Sn; replace Sq := eq_true Sq
               go_wp2
               go_ret
               exact ⟨zb8, zb1⟩
              ·rw [if_neg c27] at H
               have Xtc : (JA == (wrap64 (YA + 1))) = false := beq_eq_false_iff_ne.mpr c27; have Xtd : (JA != (wrap64 (YA + 1))) = true := bne_iff_ne.mpr c27; obtain rfl := Option.some.inj H; have DL : 0 ≤ (YA : Int) := of_decide_eq_true zb7; have DN : YA < (ZV.length : Int) := of_decide_eq_true zb7; obtain ⟨Fw, Wz, MK, ML, MM, MN, MO, MP, MQ, MR⟩ := XV (Kd.XF HO_3.out).2.2 YA DL DN
               cases Wz
               replace DL := eq_true DL; replace DN := eq_true DN; have FP : 0 ≤ (YA : Int) := of_decide_eq_true zb7; have FQ : YA < (ZV.length : Int) := of_decide_eq_true zb7; obtain ⟨Mw, Ka, Sc, Sd, Sg, Si, Sj, Sk, Sl, Sm⟩ := XV (Kd.XF HO_3.out).2.2 YA FP FQ
               obtain rfl : Fw = Mw := (by injection Ka)
               replace FP := eq_true FP; replace FQ := eq_true FQ; have Sn : 0 ≤ (YA : Int) := of_decide_eq_true zb7; have Sq : YA < (ZV.length : Int) := of_decide_eq_true zb7; obtain ⟨KC, Qr, Cs, Ct, Cu, Cv, Cw, Cx, Cy, Cz⟩ := XV (Kd.XF HO_3.out).2.2 YA Sn Sq
               obtain rfl : Fw = KC := (by injection Qr)
               replace Sn := eq_true Sn; replace Sq := eq_true Sq
               go_wp2
               go_ret
               exact ⟨zb8, zb1⟩
            ·rw [if_neg c25] at H
             have Xmw : (JA == 0) = false := beq_eq_false_iff_ne.mpr c25; have Xtb : (JA != 0) = true := bne_iff_ne.mpr c25
             by_cases c28 : JA = (wrap64 (YA + 1))
             ·rw [if_pos c28] at H
              have XfV : (JA == (wrap64 (YA + 1))) = true := beq_iff_eq.mpr c28; have Xte : (JA != (wrap64 (YA + 1))) = false := bne_eq_false_iff_eq.mpr c28; clear c28; obtain rfl := Option.some.inj H; have DL : 0 ≤ (YA : Int) := of_decide_eq_true zb7; have DN : YA < (ZV.length : Int) := of_decide_eq_true zb7; obtain ⟨Fw, Wz, MK, ML, MM, MN, MO, MP, MQ, MR⟩ := XV (Kd.XF HO_3.out).2.2 YA DL DN
              cases Wz
              replace DL := eq_true DL; replace DN := eq_true DN; have FP : 0 ≤ (YA : Int) := of_decide_eq_true zb7; have FQ : YA < (ZV.length : Int) := of_decide_eq_true zb7; obtain ⟨Mw, Ka, Sc, Sd, Sg, Si, Sj, Sk, Sl, Sm⟩ := XV (Kd.XF HO_3.out).2.2 YA FP FQ
              obtain rfl : Fw = Mw := (by injection Ka)
              replace FP := eq_true FP; replace FQ := eq_true FQ; have Sn : 0 ≤ (YA : Int) := of_decide_eq_true zb7; have Sq : YA < (ZV.length : Int) := of_decide_eq_true zb7; obtain ⟨KC, Qr, Cs, Ct, Cu, Cv, Cw, Cx, Cy, Cz⟩ := XV (Kd.XF HO_3.out).2.2 YA Sn Sq
              obtain rfl : Fw = KC := (by injection Qr)
              replace Sn := eq_true Sn; replace Sq := eq_true Sq
              go_wp2
              go_ret
              exact ⟨zb8, zb1⟩
             ·rw [if_neg c28] at H
              have XfV : (JA == (wrap64 (YA + 1))) = false := beq_eq_false_iff_ne.mpr c28; have Xte : (JA != (wrap64 (YA + 1))) = true := bne_iff_ne.mpr c28; obtain rfl := Option.some.inj H; have DL : 0 ≤ (YA : Int) := of_decide_eq_true zb7; have DN : YA < (ZV.length : Int) := of_decide_eq_true zb7; obtain ⟨Fw, Wz, MK, ML, MM, MN, MO, MP, MQ, MR⟩ := XV (Kd.XF HO_3.out).2.2 YA DL DN
              cases Wz
              replace DL := eq_true DL; replace DN := eq_true DN; have FP : 0 ≤ (YA : Int) := of_decide_eq_true zb7; have FQ : YA < (ZV.length : Int) := of_decide_eq_true zb7; obtain ⟨Mw, Ka, Sc, Sd, Sg, Si, Sj, Sk, Sl, Sm⟩ := XV (Kd.XF HO_3.out).2.2 YA FP FQ
              obtain rfl : Fw = Mw := (by injection Ka)
              replace FP := eq_true FP; replace FQ := eq_true FQ; have Sn : 0 ≤ (YA : Int) := of_decide_eq_true zb7; have Sq : YA < (ZV.length : Int) := of_decide_eq_true zb7; obtain ⟨KC, Qr, Cs, Ct, Cu, Cv, Cw, Cx, Cy, Cz⟩ := XV (Kd.XF HO_3.out).2.2 YA Sn Sq
              obtain rfl : Fw = KC := (by injection Qr)
              replace Sn := eq_true Sn; replace Sq := eq_true Sq
              go_wp2
              go_ret
              exact ⟨zb8, zb1⟩
          ·rw [if_neg c21] at H
           have Xmu : (((Xa ZV YA).f1) == Gc) = false := beq_eq_false_iff_ne.mpr c21; have XsZ : (((Xa ZV YA).f1) != Gc) = true := bne_iff_ne.mpr c21; have H' := az H; clear H; have DL : 0 ≤ (YA : Int) := of_decide_eq_true zb7; have DN : YA < (ZV.length : Int) := of_decide_eq_true zb7; obtain ⟨Fw, Wz, MK, ML, MM, MN, MO, MP, MQ, MR⟩ := XV (Kd.XF HO_3.out).2.2 YA DL DN
           cases Wz
           replace DL := eq_true DL; replace DN := eq_true DN
           go_wp2
           go_roundg k2
           case measure => have := HJ4.out; have := HK2.out; omega
           case rel => exact ⟨(wrap64 (YA - 1)), zb12, H', ⟨by have := HJ4.out; have := HK2.out; omega⟩, ⟨zb32⟩, ⟨zb1⟩⟩
         ·rw [if_neg c20] at H
          exact absurd H (by simp)
        ·rw [if_neg c19] at H
         exact absurd H (by simp)
       ·rw [if_neg c18] at H
        have Xmt : decide (0 ≤ YA) = false := decide_eq_false c18; clear c18; obtain rfl := Option.some.inj H
        go_wp2
        go_ret
        exact ⟨zb8, zb1⟩
end Go.Proofs.Ytcefiblpnegepaa.Pr
