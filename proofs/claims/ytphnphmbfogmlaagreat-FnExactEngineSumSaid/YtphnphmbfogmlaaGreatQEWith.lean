import Derived.Test.YtphnphmbfogmlaaGreatQEByq
import Derived.Test.YtphnphmbfogmlaaGreatQESx
import Derived.Test.YtphnphmbfogmlaaGreatQEPrWith
import Derived.Test.YtphnphmbfogmlaaGreatQEL2
namespace Go.Proofs.YtphnphmbfogmlaaGreat.Pr
open Go.RowKit Go.PW Go.PL Go.PM
attribute [local go_sem] YO YP Zm Zn Yv Yw YQ YS
set_option linter.unusedVariables false
set_option linter.unusedSimpArgs false
set_option maxHeartbeats 8000000 in
set_option maxRecDepth 100000 in
theorem Xjt (X4 : Int) (XB : Int) (XE : Option Addr) (XF : Nat) (Xe : List Int) (Zu : Int) (Z5 : Int) (Vq : Int) (Zj : Int) (ZW : Int) (ZR : Int) (Vr : Int) (Vs : Int) (r1 : Int) (r2 : Int) (r3 : List Int) (w : World) (hr0_2 : Kd.C (Kd.int .i64) w XE Xe.length Xe) (hc0_2 : Xe.length ≤ XF) (hs_ : ¬ Zj ≥ 0) (hn_ : ZR = 0) (h : Zx.f X4 XB Xe Zu Z5 Vq Zj ZW ZR Vr Vs = some (r1, r2, r3)) :
 Calls Tryz.prog 69 #[.agg #[.int .i64 X4, .int .i64 XB, .slice XE Xe.length XF], .agg #[.int .i64 Zu, .int .i64 Z5, .int .i64 Vq, .int .i64 Zj, .int .i64 ZW, .int .i64 ZR, .int .i64 Vr, .int .i64 Vs]] w fun e w' => ∃ v2_ : Value, e = .returned (.agg #[.int .i64 r1, .int .i64 r2, v2_]) ∧ Kd.R (Kd.int .i64) 3 w' w.heap.size (fun _ => True) v2_ r3 ∧ Below w.heap.size w w' := by
 have hu56 := Tryz.underlying56; have hu76 := Tryz.underlying76; have VU := zz hr0_2; have DY := zz hc0_2; clear hr0_2 hc0_2; have HB := zz (Below.refl w.heap.size w); have H : ((Ym.f X4 XB Xe).bind fun Qd => (if Zj ≥ 0 then (if 0 ≤ Zj then (if Zj < (Qd.2.2.length : Int) then (some (Qd.1, Qd.2.1, (Qd.2.2.set (Zj : Int).toNat ZR))) else (none)) else (none)) else (if ZR = 0 then (if 3 ≤ 35184372088832 then (some (Qd.1, 0, (List.replicate 3 0))) else (none)) else (some (Qd.1, ZR, Qd.2.2))))) = some (r1, r2, r3) := h; clear h; replace H := Option.bind_eq_some_iff.mp H; obtain ⟨⟨DT, KQ, Dp⟩, A30, H⟩ := H; replace H : (if Zj ≥ 0 then (if 0 ≤ Zj then (if Zj < (Dp.length : Int) then (some (DT, KQ, (Dp.set (Zj : Int).toNat ZR))) else (none)) else (none)) else (if ZR = 0 then (if 3 ≤ 35184372088832 then (some (DT, 0, (List.replicate 3 0))) else (none)) else (some (DT, ZR, Dp)))) = some (r1, r2, r3) := H; have A3 := zz A30; clear A30
 by_cases c4 : Zj ≥ 0
 ·exact absurd c4 hs_
 ·rw [if_neg c4] at H
  have c4b0 : decide (0 ≤ Zj) = false := decide_eq_false c4; clear c4
  by_cases c29 : ZR = 0
  ·rw [if_pos c29] at H
   have c29b0 : (ZR == 0) = true := beq_iff_eq.mpr c29; have c29b1 : (ZR != 0) = false := bne_eq_false_iff_eq.mpr c29; clear c29
   by_cases c30 : 3 ≤ 35184372088832
   ·rw [if_pos c30] at H
    have c30b0 := eq_true c30; have c30b1 : decide (3 ≤ 35184372088832) = true := decide_eq_true c30; clear c30
    obtain ⟨XoB, hy508⟩ : ∃ y_ : List Int, y_ = (List.replicate 3 0) := ⟨_, rfl⟩
    replace H : (some (DT, 0, XoB)) = some (r1, r2, r3) := by first | (rw [hy508]; with_reducible exact H) | (have H2_ := (Option.bind_some _ _).symm.trans H; rw [hy508]; with_reducible exact H2_) | (have H2_ := (Option.bind_some _ _).symm.trans H; with_reducible exact H2_) | with_reducible exact H | (rw [hy508]; exact H) | exact H
    have Ny508 := zz hy508; clear hy508; simp only [Option.some.injEq, Prod.mk.injEq] at H; obtain ⟨rfl, rfl, rfl⟩ := H
    go_enter Tryz.func69, Tryz.ntmps69
    try go_wp2_with (first | ((with_reducible refine Xn (N := 2) rfl ?_); refine Xl ?hg (N := 2) ?hd (cs := #[.int .i64 X4, .int .i64 XB, .slice XE Xe.length XF]) (t := 56) ?hr ?_; (case hd => rfl); (case hg => rfl); (case hr => exact zb10); intro DK hg w31 hbox hb; have n0_ := zz (Xc zb25 hb); have n1_ := zz (hbox); have n2_ := zz ((by rw [hg]; exact (Xv zb25) : w.heap.size ≤ DK)); have n3_ := zz ((by rw [hg]; exact (Xv zb25) : w.heap.size ≤ DK)); clear HB; have HB := n0_; have Vi := n1_; have GW498 := n2_; have Xju := n3_; clear n0_ n1_ n2_ n3_; clear hb hbox hg) | ((with_reducible refine Xn (N := 3) rfl ?_); refine Xl ?hg (N := 3) ?hd (cs := #[.int .i64 Zu, .int .i64 Z5, .int .i64 Vq, .int .i64 Zj, .int .i64 ZW, .int .i64 ZR, .int .i64 Vr, .int .i64 Vs]) (t := 76) ?hr ?_; (case hd => rfl); (case hg => rfl); (case hr => exact zb10); intro VD hg w32 hbox hb; have n0_ := zz (XC (g := DK) (o := .cells #[.int .i64 X4, .int .i64 XB, .slice XE Xe.length XF] 56 (0, 0)) zb17 hb); have n1_ := zz (Xc zb73 hb); have n2_ := zz (hbox); have n3_ := zz ((by rw [hg]; exact (Xv zb73) : w.heap.size ≤ VD)); have n4_ := zz ((by rw [hg]; exact (Xv zb73) : w.heap.size ≤ VD)); have n5_ := zz ((zb135 : DK ≠ VD)); have n6_ := zz ((zb136 : VD ≠ DK)); clear Vi; clear HB; have Vi := n0_; have HB := n1_; have J8 := n2_; have GW499 := n3_; have XpB := n4_; have XoC := n5_; have XoD := n6_; clear n0_ n1_ n2_ n3_ n4_ n5_ n6_; clear hb hbox hg) | ((with_reducible refine Xn (N := 4) rfl ?_); refine Xl ?hg (N := 4) ?hd (cs := #[.int .i64 0, .int .i64 0, .slice none 0 0]) (t := 56) ?hr ?_; (case hd => rfl); (case hg => rfl); (case hr => exact zb10); intro Dn hg w33 hbox hb; have n0_ := zz (XC (g := DK) (o := .cells #[.int .i64 X4, .int .i64 XB, .slice XE Xe.length XF] 56 (0, 0)) zb17 hb); have n1_ := zz (XC (g := VD) (o := .cells #[.int .i64 Zu, .int .i64 Z5, .int .i64 Vq, .int .i64 Zj, .int .i64 ZW, .int .i64 ZR, .int .i64 Vr, .int .i64 Vs] 76 (0, 0)) zb24 hb); have n2_ := zz (Xc zb68 hb); have n3_ := zz (hbox); have n4_ := zz ((by rw [hg]; exact (Xv zb68) : w.heap.size ≤ Dn)); have n5_ := zz ((by rw [hg]; exact (Xv zb68) : w.heap.size ≤ Dn)); have n6_ := zz ((zb135 : DK ≠ Dn)); have n7_ := zz ((zb136 : Dn ≠ DK)); have n8_ := zz ((zb140 : VD ≠ Dn)); have n9_ := zz ((zb141 : Dn ≠ VD)); clear Vi; clear J8; clear HB; have Vi := n0_; have J8 := n1_; have HB := n2_; have V6 := n3_; have GW500 := n4_; have Xwh := n5_; have XoE := n6_; have XoF := n7_; have XoG := n8_; have XoH := n9_; clear n0_ n1_ n2_ n3_ n4_ n5_ n6_ n7_ n8_ n9_; clear hb hbox hg; have X0G := XoC.out; have X0H := XoD.out; have hnb35 := XoE.out; have hnc35 := XoF.out; have XsM : w33.cell? ⟨DK, 0, none⟩ = some (.int .i64 X4) := (Xf Vi.out 0).trans rfl; have XsN : w33.cell? ⟨DK, 1, none⟩ = some (.int .i64 XB) := (Xf Vi.out 1).trans rfl; have XsO : w33.cell? ⟨DK, 2, none⟩ = some (.slice XE Xe.length XF) := (Xf Vi.out 2).trans rfl; have XsP := Xd Vi.out 0; have XsQ := Xd Vi.out 1; have XsR := Xd Vi.out 2) | ((with_reducible refine Xi (f := 96) rfl ?_); refine XI (some 7) rfl rfl Tryz.func96 zb9 rfl #[.agg #[.int .i64 X4, .int .i64 XB, .slice XE Xe.length XF]] rfl zb2 ?_; (with_reducible refine (Ym.calls X4 XB _ _ Xe DT KQ Dp _ ?side1 ?side2 A3.out).mono ?_); (case side1 => exact zb5); (case side2 => exact zb92); rintro e w37 ⟨v504, rfl, ho0, hb⟩; refine ⟨_, rfl, ?_⟩; have n0_ := zz (Kd.Zh ho0 (Xv zb27)); have n1_ := zz (XC (g := DK) (o := .cells #[.int .i64 X4, .int .i64 XB, .slice XE Xe.length XF] 56 (0, 0)) zb17 hb); have n2_ := zz (XC (g := VD) (o := .cells #[.int .i64 Zu, .int .i64 Z5, .int .i64 Vq, .int .i64 Zj, .int .i64 ZW, .int .i64 ZR, .int .i64 Vr, .int .i64 Vs] 76 (0, 0)) zb24 hb); have n3_ := zz (XC (g := Dn) (o := .cells #[.int .i64 0, .int .i64 0, .slice none 0 0] 56 (0, 0)) zb53 hb); have n4_ := zz (Xc zb27 hb); clear Vi; clear J8; clear V6; clear HB; have Fx := n0_; have Vi := n1_; have J8 := n2_; have V6 := n3_; have HB := n4_; clear n0_ n1_ n2_ n3_ n4_; (try clear hb); (try clear hb2); (try clear hk); (try clear hi); (try clear ho0)) | ((with_reducible refine Xn (N := 5) rfl ?_); refine Xl ?hg (N := 5) ?hd (cs := #[.int .i64 0, .int .i64 0, .slice none 0 0]) (t := 56) ?hr ?_; (case hd => rfl); (case hg => rfl); (case hr => exact zb10); intro ZK hg w38 hbox hb; have n0_ := zz (Kd.X3 zb90 hb); have n1_ := zz (XC (g := DK) (o := .cells #[.int .i64 X4, .int .i64 XB, .slice XE Xe.length XF] 56 (0, 0)) zb17 hb); have n2_ := zz (XC (g := VD) (o := .cells #[.int .i64 Zu, .int .i64 Z5, .int .i64 Vq, .int .i64 Zj, .int .i64 ZW, .int .i64 ZR, .int .i64 Vr, .int .i64 Vs] 76 (0, 0)) zb24 hb); have n3_ := zz (XC (g := Dn) (o := .cells #[.int .i64 0, .int .i64 0, .slice none 0 0] 56 (0, 0)) zb53 hb); have n4_ := zz (Xc zb27 hb); have n5_ := zz (hbox); have n6_ := zz ((by rw [hg]; exact (Xv zb27) : w.heap.size ≤ ZK)); have n7_ := zz ((by rw [hg]; exact (Xv zb27) : w.heap.size ≤ ZK)); have n8_ := zz ((zb135 : DK ≠ ZK)); have n9_ := zz ((zb136 : ZK ≠ DK)); have n10_ := zz ((zb140 : VD ≠ ZK)); have n11_ := zz ((zb141 : ZK ≠ VD)); have n12_ := zz ((by rw [hg]; exact Nat.ne_of_lt (Vg (g := Dn) (o := .cells #[.int .i64 0, .int .i64 0, .slice none 0 0] 56 (0, 0)) zb53) : Dn ≠ ZK)); have n13_ := zz ((by rw [hg]; exact Nat.ne_of_gt (Vg (g := Dn) (o := .cells #[.int .i64 0, .int .i64 0, .slice none 0 0] 56 (0, 0)) zb53) : ZK ≠ Dn)); clear Fx; clear Vi; clear J8; clear V6; clear HB; have Fx := n0_; have Vi := n1_; have J8 := n2_; have V6 := n3_; have HB := n4_; have J2 := n5_; have GW506 := n6_; have XzH := n7_; have Fz := n8_; have K9 := n9_; have Fy := n10_; have KA := n11_; have D5 := n12_; have KC := n13_; clear n0_ n1_ n2_ n3_ n4_ n5_ n6_ n7_ n8_ n9_ n10_ n11_ n12_ n13_; clear hb hbox hg; have hnb39 := K9.out; have hnc39 := Fz.out; have hnb40 := KA.out; have hnc40 := Fy.out; have X1a := KC.out; have X1b := D5.out; have Xdo : w38.cell? ⟨ZK, 0, none⟩ = some (.int .i64 0) := (Xf J2.out 0).trans rfl; have Xdp : w38.cell? ⟨ZK, 1, none⟩ = some (.int .i64 0) := (Xf J2.out 1).trans rfl; have Xdq : w38.cell? ⟨ZK, 2, none⟩ = some (.slice none 0 0) := (Xf J2.out 2).trans rfl; have Xdr := Xd J2.out 0; have Xds := Xd J2.out 1; have Xdt := Xd J2.out 2; obtain ⟨NG, NH, eo43⟩ := Kd.YZ Fx.out; subst eo43; have hnb44 := XoG.out; have hnc44 := XoH.out; have Xlq : w38.cell? ⟨VD, 0, none⟩ = some (.int .i64 Zu) := (Xf J8.out 0).trans rfl; have Xlr : w38.cell? ⟨VD, 1, none⟩ = some (.int .i64 Z5) := (Xf J8.out 1).trans rfl; have Xls : w38.cell? ⟨VD, 2, none⟩ = some (.int .i64 Vq) := (Xf J8.out 2).trans rfl; have Xlt : w38.cell? ⟨VD, 3, none⟩ = some (.int .i64 Zj) := (Xf J8.out 3).trans rfl; have Xlu : w38.cell? ⟨VD, 4, none⟩ = some (.int .i64 ZW) := (Xf J8.out 4).trans rfl; have XtP : w38.cell? ⟨VD, 5, none⟩ = some (.int .i64 ZR) := (Xf J8.out 5).trans rfl; have XtQ : w38.cell? ⟨VD, 6, none⟩ = some (.int .i64 Vr) := (Xf J8.out 6).trans rfl; have XtR : w38.cell? ⟨VD, 7, none⟩ = some (.int .i64 Vs) := (Xf J8.out 7).trans rfl; have Xlv := Xd J8.out 0; have Xlw := Xd J8.out 1; have Xlx := Xd J8.out 2; have Xly := Xd J8.out 3; have Xlz := Xd J8.out 4; have XtS := Xd J8.out 5; have XtT := Xd J8.out 6; have XtU := Xd J8.out 7))
    have n0_ : Aside0 (Kd.R (Kd.int .i64) 3 (((w38.setCell ⟨ZK, 0, none⟩ (.int .i64 DT)).setCell ⟨ZK, 1, none⟩ (.int .i64 KQ)).setCell ⟨ZK, 2, none⟩ (.slice NG Dp.length NH)) w.heap.size (fun _ => True) (.slice NG Dp.length NH) Dp) := ⟨by (with_reducible repeat (first | apply Kd.XU | apply Kd.XX | apply Kd.Yj)); exact Kd.Yz (Kd.Zo (p := ⟨ZK, 2, none⟩) (Kd.Zo (p := ⟨ZK, 1, none⟩) (Kd.Zo (p := ⟨ZK, 0, none⟩) (Kd.ZX Fx.out J2.out (by decide)) (fun _ hk => hk.2) (.int .i64 DT)) (fun _ hk => hk.2) (.int .i64 KQ)) (fun _ hk => hk.2) (.slice NG Dp.length NH)) (fun _ hk => trivial)⟩
    have n1_ : Aside0 ((((w38.setCell ⟨ZK, 0, none⟩ (.int .i64 DT)).setCell ⟨ZK, 1, none⟩ (.int .i64 KQ)).setCell ⟨ZK, 2, none⟩ (.slice NG Dp.length NH)).heap[DK]? = some (.cells #[.int .i64 X4, .int .i64 XB, .slice XE Xe.length XF] 56 (0, 0))) := ⟨by (with_reducible repeat (first | refine YY ?_ _ | refine XL ?_ | refine YG ?_ _)); refine Jt ?_ Fz.out _; (with_reducible repeat (first | refine YY ?_ _ | refine XL ?_ | refine YG ?_ _)); refine Jt ?_ Fz.out _; (with_reducible repeat (first | refine YY ?_ _ | refine XL ?_ | refine YG ?_ _)); refine Jt ?_ Fz.out _; (with_reducible repeat (first | refine YY ?_ _ | refine XL ?_ | refine YG ?_ _)); exact Vi.out⟩
    have n2_ : Aside0 ((((w38.setCell ⟨ZK, 0, none⟩ (.int .i64 DT)).setCell ⟨ZK, 1, none⟩ (.int .i64 KQ)).setCell ⟨ZK, 2, none⟩ (.slice NG Dp.length NH)).heap[VD]? = some (.cells #[.int .i64 Zu, .int .i64 Z5, .int .i64 Vq, .int .i64 Zj, .int .i64 ZW, .int .i64 ZR, .int .i64 Vr, .int .i64 Vs] 76 (0, 0))) := ⟨by (with_reducible repeat (first | refine YY ?_ _ | refine XL ?_ | refine YG ?_ _)); refine Jt ?_ Fy.out _; (with_reducible repeat (first | refine YY ?_ _ | refine XL ?_ | refine YG ?_ _)); refine Jt ?_ Fy.out _; (with_reducible repeat (first | refine YY ?_ _ | refine XL ?_ | refine YG ?_ _)); refine Jt ?_ Fy.out _; (with_reducible repeat (first | refine YY ?_ _ | refine XL ?_ | refine YG ?_ _)); exact J8.out⟩
    have n3_ : Aside0 ((((w38.setCell ⟨ZK, 0, none⟩ (.int .i64 DT)).setCell ⟨ZK, 1, none⟩ (.int .i64 KQ)).setCell ⟨ZK, 2, none⟩ (.slice NG Dp.length NH)).heap[Dn]? = some (.cells #[.int .i64 0, .int .i64 0, .slice none 0 0] 56 (0, 0))) := ⟨by (with_reducible repeat (first | refine YY ?_ _ | refine XL ?_ | refine YG ?_ _)); refine Jt ?_ D5.out _; (with_reducible repeat (first | refine YY ?_ _ | refine XL ?_ | refine YG ?_ _)); refine Jt ?_ D5.out _; (with_reducible repeat (first | refine YY ?_ _ | refine XL ?_ | refine YG ?_ _)); refine Jt ?_ D5.out _; (with_reducible repeat (first | refine YY ?_ _ | refine XL ?_ | refine YG ?_ _)); exact V6.out⟩
    have n4_ : Aside0 ((((w38.setCell ⟨ZK, 0, none⟩ (.int .i64 DT)).setCell ⟨ZK, 1, none⟩ (.int .i64 KQ)).setCell ⟨ZK, 2, none⟩ (.slice NG Dp.length NH)).heap[ZK]? = some (.cells #[.int .i64 DT, .int .i64 KQ, .slice NG Dp.length NH] 56 (0, 0))) := ⟨by (with_reducible repeat (first | refine YY ?_ _ | refine XL ?_ | refine YG ?_ _)); refine XY (cs := #[.int .i64 DT, .int .i64 KQ, .slice none 0 0]) ?_ 2 _ rfl; (with_reducible repeat (first | refine YY ?_ _ | refine XL ?_ | refine YG ?_ _)); refine XY (cs := #[.int .i64 DT, .int .i64 0, .slice none 0 0]) ?_ 1 _ rfl; (with_reducible repeat (first | refine YY ?_ _ | refine XL ?_ | refine YG ?_ _)); refine XY (cs := #[.int .i64 0, .int .i64 0, .slice none 0 0]) ?_ 0 _ rfl; (with_reducible repeat (first | refine YY ?_ _ | refine XL ?_ | refine YG ?_ _)); exact J2.out⟩
    have n5_ : Aside0 (Below w.heap.size w (((w38.setCell ⟨ZK, 0, none⟩ (.int .i64 DT)).setCell ⟨ZK, 1, none⟩ (.int .i64 KQ)).setCell ⟨ZK, 2, none⟩ (.slice NG Dp.length NH))) := ⟨zb14⟩
    (try clear Fx)
    (try clear Vi)
    (try clear J8)
    (try clear V6)
    (try clear J2)
    (try clear HB)
    generalize (((w38.setCell ⟨ZK, 0, none⟩ (.int .i64 DT)).setCell ⟨ZK, 1, none⟩ (.int .i64 KQ)).setCell ⟨ZK, 2, none⟩ (.slice NG Dp.length NH)) = w46 at n0_ n1_ n2_ n3_ n4_ n5_ ⊢; have Fx := n0_; have Vi := n1_; have J8 := n2_; have V6 := n3_; have J2 := n4_; have HB := n5_; clear n0_ n1_ n2_ n3_ n4_ n5_; have n0_ := zz (Kd.Yj Fx.out); have n1_ := zz (XL Vi.out); have n2_ := zz (XL J8.out); have n3_ := zz (XL V6.out); have n4_ := zz (XL J2.out); have n5_ := zz (Vm HB.out); clear Fx; clear Vi; clear J8; clear V6; clear J2; clear HB; have Fx := n0_; have Vi := n1_; have J8 := n2_; have V6 := n3_; have J2 := n4_; have HB := n5_; clear n0_ n1_ n2_ n3_ n4_ n5_; refine Y5 (n := 5) (S := fun w' => True) (ds := []) #[false, false, false, false, false] zb9 rfl rfl trivial (fun hHeld => ?_); generalize w46.drew = w47 at Fx Vi J8 V6 J2 HB hHeld ⊢; refine Sz (i := 1) (N := some 27) (v := ?_) (a' := ?_) #[false, true, false, false, false] rfl rfl zb9 (fun _ _ _ h => h) (Or.inl ⟨by rfl, ?_⟩) ?_ ?_; rotate_left
    ·intro w'
     go_simp
     with_reducible rfl
    rotate_left
    ·simp only [Act.put, List.setIfInBounds_toArray, List.set_cons_zero, List.set_cons_succ, X9, XK]
     rfl
    refine XgR (σ := Value) 2 #[true, true, true, false, false] (fun s_ => [(26, s_)]) (fun s_ w' => (Kd.R (Kd.int .i64) 3 w' w.heap.size (fun k_ => some k_ ≠ (s_ : Value).ownBlock) (.slice NG Dp.length NH) Dp) ∧ (Kd.R (Kd.int .i64) 3 w' w.heap.size (fun k_ => some k_ ≠ (.slice NG Dp.length NH : Value).ownBlock) s_ XoB) ∧ (w'.heap[DK]? = some (.cells #[.int .i64 X4, .int .i64 XB, .slice XE Xe.length XF] 56 (0, 0))) ∧ (w'.heap[VD]? = some (.cells #[.int .i64 Zu, .int .i64 Z5, .int .i64 Vq, .int .i64 Zj, .int .i64 ZW, .int .i64 ZR, .int .i64 Vr, .int .i64 Vs] 76 (0, 0))) ∧ (w'.heap[Dn]? = some (.cells #[.int .i64 0, .int .i64 0, .slice none 0 0] 56 (0, 0))) ∧ (w'.heap[ZK]? = some (.cells #[.int .i64 DT, .int .i64 0, .slice NG Dp.length NH] 56 (0, 0))) ∧ (Below w.heap.size w w')) ?_ ?_; rotate_left
    ·intro hCont
     refine XoZ (i := 0) (j := 2) (Ni := some 26) (Nj := none) #[true, true, false, false, false] #[false, true, true, false, false] rfl rfl rfl rfl zb9 (by decide) (by decide) (fun K hK => ?_) (fun K hK => ?_)
     ·skip
      refine Kd.E8 (Kd.int .i64) _ 3 (by rfl) (N := 26) rfl 37 _ _ rfl 3 rfl rfl Tryz.underlying37 (.int .i64 0) 8 info3 rfl (by decide) (by omega) 0 (ok := fun _ => True) (okp := fun _ => True) rfl (fun _ hk => hk) trivial (by omega) (by omega) (Below.refl _ _) (Nat.le_refl _) ?_; intro XoI w48 ho49 hb hg_ hnew_; clear hg_ hnew_
      (first | rw [← Ny508.out] at ho49 | (simp only [Int.reduceToNat] at ho49; rw [← Ny508.out] at ho49))
      have n0_ := zz (Kd.JU zb90 (Kd.Vt ho49) hb); have n1_ := zz (Kd.Zh (Kd.DW ho49 (Kd.Ur zb90)) (Xv zb14)); have n2_ := zz (XC (g := DK) (o := .cells #[.int .i64 X4, .int .i64 XB, .slice XE Xe.length XF] 56 (0, 0)) zb17 hb); have n3_ := zz (XC (g := VD) (o := .cells #[.int .i64 Zu, .int .i64 Z5, .int .i64 Vq, .int .i64 Zj, .int .i64 ZW, .int .i64 ZR, .int .i64 Vr, .int .i64 Vs] 76 (0, 0)) zb24 hb); have n4_ := zz (XC (g := Dn) (o := .cells #[.int .i64 0, .int .i64 0, .slice none 0 0] 56 (0, 0)) zb53 hb); have n5_ := zz (XC (g := ZK) (o := .cells #[.int .i64 DT, .int .i64 KQ, .slice NG Dp.length NH] 56 (0, 0)) zb147 hb); have n6_ := zz (Xc zb14 hb); clear Fx; clear Vi; clear J8; clear V6; clear J2; clear HB; have Fx := n0_; have XaX := n1_; have Vi := n2_; have J8 := n3_; have V6 := n4_; have J2 := n5_; have HB := n6_; clear n0_ n1_ n2_ n3_ n4_ n5_ n6_; clear hb ho49; refine hK.out _ _ trivial (fun hHeld => ?_); clear hK K; refine XZ (a' := ?_) ?_ ?_; rotate_left
      ·show Act.put _ (some 26) _ = _
       simp only [Act.put, List.setIfInBounds_toArray, List.set_cons_zero, List.set_cons_succ, X9, XK]
       rfl
      refine Zy (i := 2) (N := none) #[true, true, true, false, false] rfl rfl zb9 (by decide) (fun K hK => ?_); have hs50 : w48.cell? ⟨ZK, 1, none⟩ = some (.int .i64 KQ) := (Xf J2.out 1).trans rfl; have hfs50 := Xd J2.out 1; have hns50_0 := Fz.out; have hns50_1 := Fy.out; have hns50_2 := D5.out; have hms50_0 := K9.out; have hms50_1 := KA.out; have hms50_2 := KC.out; refine Li (w1 := ?_) (by rfl) rfl ?_ ?_; rotate_left
      ·go_simp
       rfl
      refine hK.out _ _ trivial (fun hHeld => ?_); clear hK K; exact XZ zb23 (hCont (XoI) _ ⟨(by (with_reducible repeat (first | apply Kd.XU | apply Kd.XX | apply Kd.Yj)); exact Kd.Yz (Kd.Zo (p := ⟨ZK, 1, none⟩) (Kd.ZX Fx.out J2.out (by decide)) (fun _ hk => hk.2) (.int .i64 0)) (fun _ hk => hk.1.2)), (by (with_reducible repeat (first | apply Kd.XU | apply Kd.XX | apply Kd.Yj)); exact Kd.Yz (Kd.Zo (p := ⟨ZK, 1, none⟩) (Kd.ZX XaX.out J2.out (by decide)) (fun _ hk => hk.2) (.int .i64 0)) (fun _ hk => hk.1.2)), zb139, zb138, zb137, zb76, zb14⟩)
     ·skip
      have hs48 : w47.cell? ⟨ZK, 1, none⟩ = some (.int .i64 KQ) := (Xf J2.out 1).trans rfl; have hfs48 := Xd J2.out 1; have hns48_0 := Fz.out; have hns48_1 := Fy.out; have hns48_2 := D5.out; have hms48_0 := K9.out; have hms48_1 := KA.out; have hms48_2 := KC.out; refine Li (w1 := ?_) (by rfl) rfl ?_ ?_; rotate_left
      ·go_simp
       rfl
      refine hK.out _ _ trivial (fun hHeld => ?_); clear hK K; refine Zy (i := 0) (N := some 26) #[true, true, true, false, false] rfl rfl zb9 (by decide) (fun K hK => ?_); refine Kd.E8 (Kd.int .i64) _ 3 (by rfl) (N := 26) rfl 37 _ _ rfl 3 rfl rfl Tryz.underlying37 (.int .i64 0) 8 info3 rfl (by decide) (by omega) 0 (ok := fun _ => True) (okp := fun _ => True) rfl (fun _ hk => hk) trivial (by omega) (by omega) (Below.refl _ _) (Nat.le_refl _) ?_; intro XoI w49 ho50 hb hg_ hnew_; clear hg_ hnew_
      (first | rw [← Ny508.out] at ho50 | (simp only [Int.reduceToNat] at ho50; rw [← Ny508.out] at ho50))
      have n0_ := zz (Kd.JU zb83 (Kd.Vt ho50) hb); have n1_ := zz (Kd.Zh (Kd.DW ho50 (Kd.Ur zb83)) (Xv zb14)); have n2_ := zz (XC (g := DK) (o := .cells #[.int .i64 X4, .int .i64 XB, .slice XE Xe.length XF] 56 (0, 0)) zb139 hb); have n3_ := zz (XC (g := VD) (o := .cells #[.int .i64 Zu, .int .i64 Z5, .int .i64 Vq, .int .i64 Zj, .int .i64 ZW, .int .i64 ZR, .int .i64 Vr, .int .i64 Vs] 76 (0, 0)) zb138 hb); have n4_ := zz (XC (g := Dn) (o := .cells #[.int .i64 0, .int .i64 0, .slice none 0 0] 56 (0, 0)) zb137 hb); have n5_ := zz (XC (g := ZK) (o := .cells #[.int .i64 DT, .int .i64 0, .slice NG Dp.length NH] 56 (0, 0)) zb76 hb); have n6_ := zz (Xc zb14 hb); clear Fx; clear Vi; clear J8; clear V6; clear J2; clear HB; have Fx := n0_; have XaX := n1_; have Vi := n2_; have J8 := n3_; have V6 := n4_; have J2 := n5_; have HB := n6_; clear n0_ n1_ n2_ n3_ n4_ n5_ n6_; clear hb ho50; refine hK.out _ _ trivial (fun hHeld => ?_); clear hK K; refine XZ (a' := ?_) ?_ ?_; rotate_left
      ·show Act.put _ (some 26) _ = _
       simp only [Act.put, List.setIfInBounds_toArray, List.set_cons_zero, List.set_cons_succ, X9, XK]
       rfl
      exact XZ zb23 (hCont (XoI) _ ⟨(by (with_reducible repeat (first | apply Kd.XU | apply Kd.XX | apply Kd.Yj)); exact Kd.Yz Fx.out (fun _ hk => hk.2)), (by (with_reducible repeat (first | apply Kd.XU | apply Kd.XX | apply Kd.Yj)); exact Kd.Yz XaX.out (fun _ hk => hk.2)), zb17, zb24, zb53, zb147, zb14⟩)
    rintro XoI w51 ⟨h0_, h1_, h2_, h3_, h4_, h5_, h6_⟩
    have n0_ : Aside0 (Kd.R (Kd.int .i64) 3 w51 w.heap.size (fun k_ => some k_ ≠ (XoI : Value).ownBlock) (.slice NG Dp.length NH) Dp) := ⟨h0_⟩
    have n1_ : Aside0 (Kd.R (Kd.int .i64) 3 w51 w.heap.size (fun k_ => some k_ ≠ (.slice NG Dp.length NH : Value).ownBlock) XoI XoB) := ⟨h1_⟩
    have n2_ : Aside0 (w51.heap[DK]? = some (.cells #[.int .i64 X4, .int .i64 XB, .slice XE Xe.length XF] 56 (0, 0))) := ⟨h2_⟩
    have n3_ : Aside0 (w51.heap[VD]? = some (.cells #[.int .i64 Zu, .int .i64 Z5, .int .i64 Vq, .int .i64 Zj, .int .i64 ZW, .int .i64 ZR, .int .i64 Vr, .int .i64 Vs] 76 (0, 0))) := ⟨h3_⟩
    have n4_ : Aside0 (w51.heap[Dn]? = some (.cells #[.int .i64 0, .int .i64 0, .slice none 0 0] 56 (0, 0))) := ⟨h4_⟩
    have n5_ : Aside0 (w51.heap[ZK]? = some (.cells #[.int .i64 DT, .int .i64 0, .slice NG Dp.length NH] 56 (0, 0))) := ⟨h5_⟩
    have n6_ : Aside0 (Below w.heap.size w w51) := ⟨h6_⟩
    clear Fx; clear Vi; clear J8; clear V6; clear J2; clear HB; clear h0_ h1_ h2_ h3_ h4_ h5_ h6_; have Fx := n0_; have XaX := n1_; have Vi := n2_; have J8 := n3_; have V6 := n4_; have J2 := n5_; have HB := n6_; clear n0_ n1_ n2_ n3_ n4_ n5_ n6_; have hHeld := trivial; obtain ⟨XyA, XyB, eo52⟩ := Kd.YZ XaX.out
    (first | subst eo52 | (injection eo52 with f1_ f2_ f3_; have f4_ := f1_.symm; have f5_ := f3_.symm; clear f1_ f2_ f3_; subst f4_; subst f5_))
    refine XZ (a' := ?_) ?_ ?_; rotate_left
    ·simp only [Wh, Act.put, List.setIfInBounds_toArray, List.set_cons_zero, List.set_cons_succ]
     rfl
    refine Sz (i := 3) (N := some 28) (v := ?_) (a' := ?_) #[true, true, true, true, false] rfl rfl zb9 (fun _ _ _ h => h) (Or.inl ⟨by rfl, ?_⟩) ?_ ?_; rotate_left
    ·intro w'
     go_simp
     with_reducible rfl
    rotate_left
    ·simp only [Act.put, List.setIfInBounds_toArray, List.set_cons_zero, List.set_cons_succ, X9, XK]
     rfl
    refine Zy (i := 4) (N := none) #[true, true, true, true, true] rfl rfl zb9 (by decide) (fun K hK => ?_); have hs53 : w51.cell? ⟨ZK, 2, none⟩ = some (.slice NG Dp.length NH) := (Xf J2.out 2).trans rfl; have hfs53 := Xd J2.out 2; have hns53_0 := Fz.out; have hns53_1 := Fy.out; have hns53_2 := D5.out; have hms53_0 := K9.out; have hms53_1 := KA.out; have hms53_2 := KC.out; refine Li (w1 := ?_) (by rfl) rfl ?_ ?_; rotate_left
    ·go_simp
     rfl
    refine hK.out _ _ trivial (fun hHeld => ?_); clear hK K; refine Zl zb9 ?_; have Xuf : w51.cell? ⟨ZK, 0, none⟩ = some (.int .i64 DT) := (Xf J2.out 0).trans rfl; have Xug : w51.cell? ⟨ZK, 1, none⟩ = some (.int .i64 0) := (Xf J2.out 1).trans rfl; have Xuh : w51.cell? ⟨ZK, 2, none⟩ = some (.slice NG Dp.length NH) := (Xf J2.out 2).trans rfl; have Xui := Xd J2.out 0; have Xuj := Xd J2.out 1; have Xuk := Xd J2.out 2; have Xul : w51.cell? ⟨Dn, 0, none⟩ = some (.int .i64 0) := (Xf V6.out 0).trans rfl; have Xum : w51.cell? ⟨Dn, 1, none⟩ = some (.int .i64 0) := (Xf V6.out 1).trans rfl; have Xun : w51.cell? ⟨Dn, 2, none⟩ = some (.slice none 0 0) := (Xf V6.out 2).trans rfl; have Xuo := Xd V6.out 0; have Xup := Xd V6.out 1; have Xuq := Xd V6.out 2
    try go_wp2
    refine bodyPost_ret (results_cell_row rfl _ _ Dn 56 #[.int .i64 DT, .int .i64 0, .slice XyA XoB.length XyB] (0, 0) _ rfl (by (with_reducible repeat (first | refine YY ?_ _ | refine XL ?_ | refine YG ?_ _)); refine XY (cs := #[.int .i64 DT, .int .i64 0, .slice none 0 0]) ?_ 2 _ rfl; (with_reducible repeat (first | refine YY ?_ _ | refine XL ?_ | refine YG ?_ _)); refine XY (cs := #[.int .i64 DT, .int .i64 0, .slice none 0 0]) ?_ 1 _ rfl; (with_reducible repeat (first | refine YY ?_ _ | refine XL ?_ | refine YG ?_ _)); refine XY (cs := #[.int .i64 0, .int .i64 0, .slice none 0 0]) ?_ 0 _ rfl; (with_reducible repeat (first | refine YY ?_ _ | refine XL ?_ | refine YG ?_ _)); refine Jt ?_ D5.out _; (with_reducible repeat (first | refine YY ?_ _ | refine XL ?_ | refine YG ?_ _)); exact V6.out) Tryz.underlying56 rfl zb9) rfl ?_; exact ⟨_, zb4, by (with_reducible repeat (first | apply Kd.XU | apply Kd.XX | apply Kd.Yj)); exact Kd.Yz (Kd.Zo (p := ⟨Dn, 2, none⟩) (Kd.Zo (p := ⟨Dn, 1, none⟩) (Kd.Zo (p := ⟨Dn, 0, none⟩) (Kd.Zo (p := ⟨ZK, 2, none⟩) (Kd.ZX (Kd.ZX XaX.out J2.out (by decide)) V6.out (by decide)) (fun _ hk => hk.1.2) (.slice XyA XoB.length XyB)) (fun _ hk => hk.2) (.int .i64 DT)) (fun _ hk => hk.2) (.int .i64 0)) (fun _ hk => hk.2) (.slice XyA XoB.length XyB)) (fun _ hk => trivial), zb14⟩
   ·rw [if_neg c30] at H
    exact absurd H (by simp)
  ·exact absurd hn_ c29
end Go.Proofs.YtphnphmbfogmlaaGreat.Pr
namespace Go.Proofs.YtphnphmbfogmlaaGreat.Pr
open Go.RowKit Go.PW Go.PL Go.PM Go.Proofs.YtphnphmbfogmlaaGreat.T
set_option linter.unusedSimpArgs false
set_option linter.unusedVariables false
set_option maxHeartbeats 4000000 in
set_option maxRecDepth 100000 in
theorem Zx.calls (X4 : Int) (XB : Int) (XE : Option Addr) (XF : Nat) (Xe : List Int) (Zu : Int) (Z5 : Int) (Vq : Int) (Zj : Int) (ZW : Int) (ZR : Int) (Vr : Int) (Vs : Int) (r1 : Int) (r2 : Int) (r3 : List Int) (w : World) (hr0_2 : Kd.C (Kd.int .i64) w XE Xe.length Xe) (hc0_2 : Xe.length ≤ XF) (h : Zx.f X4 XB Xe Zu Z5 Vq Zj ZW ZR Vr Vs = some (r1, r2, r3)) :
 Calls Tryz.prog 69 #[.agg #[.int .i64 X4, .int .i64 XB, .slice XE Xe.length XF], .agg #[.int .i64 Zu, .int .i64 Z5, .int .i64 Vq, .int .i64 Zj, .int .i64 ZW, .int .i64 ZR, .int .i64 Vr, .int .i64 Vs]] w fun e w' => ∃ v2_ : Value, e = .returned (.agg #[.int .i64 r1, .int .i64 r2, v2_]) ∧ Kd.R (Kd.int .i64) 3 w' w.heap.size (fun _ => True) v2_ r3 ∧ Below w.heap.size w w' := by
 have H0 := zz h
 unfold Zx.f at h
 obtain ⟨⟨t0, t1, t2⟩, hcp, h1⟩ := Option.bind_eq_some_iff.mp h; clear h
 dsimp only at h1
 have HCP := zz hcp; have HC := zz hr0_2; have HC0 := zz hc0_2; have H := zz h1; clear hcp hr0_2 hc0_2 h1
 by_cases hs : Zj ≥ 0
 ·have HB0 := zz (Below.refl w.heap.size w)
  have HZ0 := zz (Nat.le_refl w.heap.size)
  go_enter Tryz.func69, Tryz.ntmps69
  have hsb : decide (0 ≤ Zj) = true := decide_eq_true hs; clear hs; have h := H.out; rw [if_pos (of_decide_eq_true hsb), if_pos (of_decide_eq_true hsb)] at h
  by_cases hi : Zj < (t2.length : Int)
  rotate_left
  ·rw [if_neg hi] at h
   exact absurd h (by simp)
  rw [if_pos hi] at h; simp only [Option.some.injEq, Prod.mk.injEq] at h; obtain ⟨rfl, rfl, rfl⟩ := h; have HI := zz hi; clear hi
  go_wp2_with fail
  refine (Ym.calls X4 XB _ _ Xe t0 t1 t2 _ (Us HC.out (bl3 _ _ _)) HC0.out HCP.out).mono ?_; rintro e w1 ⟨v, rfl, hR, hb⟩; obtain ⟨hc1, hf1⟩ := Ga hb; have hz1 := hb.size
  (try simp at hz1)
  have HB1 : Aside0 (Below w.heap.size w w1) := ⟨Yu zb28 zb84 hb⟩
  have HZ1 := zz (HB1.out.size); have HT1 := zz hb; clear hb
  have hy1_0 : w.heap.size < w1.heap.size := (by omega)
  have hy1_1 : w.heap.size + 1 < w1.heap.size := (by omega)
  have hy1_2 : w.heap.size + 1 + 1 < w1.heap.size := (by omega)
  obtain ⟨A1, c1, rfl, hcc1, hC1⟩ := MQ hR
  have HRI : Aside0 (RI w1 (w.heap.size + 3) w1.heap.size (.slice A1 t2.length c1) t2) := ⟨Sq (Xcb hR) zb39⟩
  obtain ⟨ad, rfl, hcell⟩ := Kd.Jh hC1 Zj (of_decide_eq_true hsb) HI.out; obtain ⟨go, rfl⟩ := Kd.XiG hR; have hgo := HRI.out.1 go rfl
  try simp at hgo
  obtain ⟨hy28, hz28⟩ := Kd.XeL 0 hR Zj (of_decide_eq_true hsb) HI.out
  have hgo1 : go < w1.heap.size := by omega
  have hgo2 : w.heap.size ≤ go := by omega
  have hgo3 : w.heap.size + 1 ≠ go := by omega
  have hgo4 : w.heap.size + 1 + 1 ≠ go := by omega
  have hgo5 : w1.heap.size ≠ go := by omega
  have hq1 := eq_true (show (0 : Int) ≤ Zj from of_decide_eq_true hsb); have hq2 := eq_true HI.out; clear hR hC1 hcell
  go_wp2
  refine bodyPost_ret (v := .agg #[.int .i64 t0, .int .i64 t1, .slice (some ⟨go, 0, none⟩) t2.length c1]) (by simp [results, Tryz.results69, go_sem, *]) rfl ⟨_, rfl, ?_, ?_⟩
  ·refine QC (n := w.heap.size + 3) (m := w1.heap.size) ?_ zb39
   repeat (first | (with_reducible exact (Kd.XgK HRI.out Zj ZR).1) | (exact (Kd.XgK HRI.out Zj ZR).1; done) | (refine QB ?_ zb39 _) | (with_reducible refine PN ?_ _) | (with_reducible refine PO ?_ _) | (with_reducible refine RY ?_))
  ·repeat (first | (with_reducible exact HB1.out) | (with_reducible refine X0 ?_ _) | (with_reducible refine Yh ?_ _) | (with_reducible refine X6 ?_) | (refine Xz ?_ (by have := HZ1.out; omega)))
 ·have hsb : decide (0 ≤ Zj) = false := decide_eq_false hs
  have h := H.out; rw [if_neg hs] at h; clear hs
  by_cases hn : ZR = 0
  ·skip
   exact Xjt X4 XB XE XF Xe Zu Z5 Vq Zj ZW ZR Vr Vs r1 r2 r3 w HC.out HC0.out (of_decide_eq_false hsb) hn H0.out
  ·have hnb : (ZR == 0) = false := by simp [hn]
   rw [if_neg hn] at h; clear hn; simp only [Option.some.injEq, Prod.mk.injEq] at h; obtain ⟨rfl, rfl, rfl⟩ := h; have HB0 := zz (Below.refl w.heap.size w); have HZ0 := zz (Nat.le_refl w.heap.size)
   go_enter Tryz.func69, Tryz.ntmps69
   go_wp2_with fail
   refine (Ym.calls X4 XB _ _ Xe t0 t1 t2 _ (Us HC.out (bl3 _ _ _)) HC0.out HCP.out).mono ?_; rintro e w1 ⟨v, rfl, hR, hb⟩; obtain ⟨hc1, hf1⟩ := Ga hb; have hz1 := hb.size
   (try simp at hz1)
   have HB1 : Aside0 (Below w.heap.size w w1) := ⟨Yu zb28 zb84 hb⟩
   have HZ1 := zz (HB1.out.size); have HT1 := zz hb; clear hb
   have hy1_0 : w.heap.size < w1.heap.size := (by omega)
   have hy1_1 : w.heap.size + 1 < w1.heap.size := (by omega)
   have hy1_2 : w.heap.size + 1 + 1 < w1.heap.size := (by omega)
   obtain ⟨A1, c1, rfl, hcc1, hC1⟩ := MQ hR
   have HRI : Aside0 (RI w1 (w.heap.size + 3) w1.heap.size (.slice A1 t2.length c1) t2) := ⟨Sq (Xcb hR) zb39⟩
   clear hR hC1
   go_wp2
   refine bodyPost_ret (v := .agg #[.int .i64 t0, .int .i64 ZR, .slice A1 t2.length c1]) (by simp [results, Tryz.results69, go_sem, *]) rfl ⟨_, rfl, ?_, ?_⟩
   ·refine QC (n := w.heap.size + 3) (m := w1.heap.size) ?_ zb39
    repeat (first | (with_reducible exact HRI.out) | (exact HRI.out; done) | (refine QB ?_ zb39 _) | (with_reducible refine PN ?_ _) | (with_reducible refine PO ?_ _) | (with_reducible refine RY ?_))
   ·repeat (first | (with_reducible exact HB1.out) | (with_reducible refine X0 ?_ _) | (with_reducible refine Yh ?_ _) | (with_reducible refine X6 ?_) | (refine Xz ?_ (by have := HZ1.out; omega)))
end Go.Proofs.YtphnphmbfogmlaaGreat.Pr
