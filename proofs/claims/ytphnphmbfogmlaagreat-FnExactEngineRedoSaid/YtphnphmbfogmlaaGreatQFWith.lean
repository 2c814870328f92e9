import Derived.Test.YtphnphmbfogmlaaGreatQFByq
import Derived.Test.YtphnphmbfogmlaaGreatQFSx
import Derived.Test.YtphnphmbfogmlaaGreatQFL2
import Derived.Test.YtphnphmbfogmlaaGreatQFPrWith
namespace Go.Proofs.YtphnphmbfogmlaaGreat.Pr
open Go.RowKit Go.PW Go.PL Go.PM
attribute [local go_sem] Y3 Y4 YN YO Ya Yb Y5 Y6
set_option linter.unusedVariables false
set_option linter.unusedSimpArgs false
set_option maxHeartbeats 8000000 in
set_option maxRecDepth 100000 in
theorem XfV (Xu : Int) (Xy : Int) (Yg : Option Addr) (Yh : Nat) (Xm : List Int) (Zd : Int) (Zk : Int) (Vd : Int) (YU : Int) (ZI : Int) (ZA : Int) (Ve : Int) (Vf : Int) (r1 : Int) (r2 : Int) (r3 : List Int) (w : World) (hr0_2 : Kd.C (Kd.int .i64) w Yg Xm.length Xm) (hc0_2 : Xm.length ≤ Yh) (hs_ : ¬ YU ≥ 0) (hn_ : ZA = 0) (h : Zg.f Xu Xy Xm Zd Zk Vd YU ZI ZA Ve Vf = some (r1, r2, r3)) :
 Calls Tryz.prog 69 #[.agg #[.int .i64 Xu, .int .i64 Xy, .slice Yg Xm.length Yh], .agg #[.int .i64 Zd, .int .i64 Zk, .int .i64 Vd, .int .i64 YU, .int .i64 ZI, .int .i64 ZA, .int .i64 Ve, .int .i64 Vf]] w fun e w' => ∃ v2_ : Value, e = .returned (.agg #[.int .i64 r1, .int .i64 r2, v2_]) ∧ Kd.R (Kd.int .i64) 3 w' w.heap.size (fun _ => True) v2_ r3 ∧ Below w.heap.size w w' := by
 have hu56 := Tryz.underlying56; have hu76 := Tryz.underlying76; have U6 := zz hr0_2; have JI := zz hc0_2; clear hr0_2 hc0_2; have HB := zz (Below.refl w.heap.size w); have H : ((Yf.f Xu Xy Xm).bind fun BB => (if YU ≥ 0 then (if 0 ≤ YU then (if YU < (BB.2.2.length : Int) then (some (BB.1, BB.2.1, (BB.2.2.set (YU : Int).toNat ZA))) else (none)) else (none)) else (if ZA = 0 then (if 3 ≤ 35184372088832 then (some (BB.1, 0, (List.replicate 3 0))) else (none)) else (some (BB.1, ZA, BB.2.2))))) = some (r1, r2, r3) := h; clear h; replace H := Option.bind_eq_some_iff.mp H; obtain ⟨⟨FB, S9, DY⟩, A30, H⟩ := H; replace H : (if YU ≥ 0 then (if 0 ≤ YU then (if YU < (DY.length : Int) then (some (FB, S9, (DY.set (YU : Int).toNat ZA))) else (none)) else (none)) else (if ZA = 0 then (if 3 ≤ 35184372088832 then (some (FB, 0, (List.replicate 3 0))) else (none)) else (some (FB, ZA, DY)))) = some (r1, r2, r3) := H; have A3 := zz A30; clear A30
 by_cases c4 : YU ≥ 0
 ·exact absurd c4 hs_
 ·rw [if_neg c4] at H
  have c4b0 : decide (0 ≤ YU) = false := decide_eq_false c4; clear c4
  by_cases c29 : ZA = 0
  ·rw [if_pos c29] at H
   have c29b0 : (ZA == 0) = true := beq_iff_eq.mpr c29; have c29b1 : (ZA != 0) = false := bne_eq_false_iff_eq.mpr c29; clear c29
   by_cases c30 : 3 ≤ 35184372088832
   ·rw [if_pos c30] at H
    have c30b0 := eq_true c30; have c30b1 : decide (3 ≤ 35184372088832) = true := decide_eq_true c30; clear c30
    obtain ⟨Xk6, hy508⟩ : ∃ y_ : List Int, y_ = (List.replicate 3 0) := ⟨_, rfl⟩
    replace H : (some (FB, 0, Xk6)) = some (r1, r2, r3) := by first | (rw [hy508]; with_reducible exact H) | (have H2_ := (Option.bind_some _ _).symm.trans H; rw [hy508]; with_reducible exact H2_) | (have H2_ := (Option.bind_some _ _).symm.trans H; with_reducible exact H2_) | with_reducible exact H | (rw [hy508]; exact H) | exact H
    have Ny508 := zz hy508; clear hy508; simp only [Option.some.injEq, Prod.mk.injEq] at H; obtain ⟨rfl, rfl, rfl⟩ := H
    go_enter Tryz.func69, Tryz.ntmps69
    try go_wp2_with (first | ((with_reducible refine Xp (N := 2) rfl ?_); refine Xn ?hg (N := 2) ?hd (cs := #[.int .i64 Xu, .int .i64 Xy, .slice Yg Xm.length Yh]) (t := 56) ?hr ?_; (case hd => rfl); (case hg => rfl); (case hr => exact zb7); intro Dc hg w31 hbox hb; have n0_ := zz (Xc zb26 hb); have n1_ := zz (hbox); have n2_ := zz ((by rw [hg]; exact (XA zb26) : w.heap.size ≤ Dc)); have n3_ := zz ((by rw [hg]; exact (XA zb26) : w.heap.size ≤ Dc)); clear HB; have HB := n0_; have JU := n1_; have GW498 := n2_; have XfW := n3_; clear n0_ n1_ n2_ n3_; clear hb hbox hg) | ((with_reducible refine Xp (N := 3) rfl ?_); refine Xn ?hg (N := 3) ?hd (cs := #[.int .i64 Zd, .int .i64 Zk, .int .i64 Vd, .int .i64 YU, .int .i64 ZI, .int .i64 ZA, .int .i64 Ve, .int .i64 Vf]) (t := 76) ?hr ?_; (case hd => rfl); (case hg => rfl); (case hr => exact zb7); intro Vo hg w32 hbox hb; have n0_ := zz (Xk (g := Dc) (o := .cells #[.int .i64 Xu, .int .i64 Xy, .slice Yg Xm.length Yh] 56 (0, 0)) zb17 hb); have n1_ := zz (Xc zb57 hb); have n2_ := zz (hbox); have n3_ := zz ((by rw [hg]; exact (XA zb57) : w.heap.size ≤ Vo)); have n4_ := zz ((by rw [hg]; exact (XA zb57) : w.heap.size ≤ Vo)); have n5_ := zz ((zb100 : Dc ≠ Vo)); have n6_ := zz ((zb101 : Vo ≠ Dc)); clear JU; clear HB; have JU := n0_; have HB := n1_; have Jr := n2_; have GW499 := n3_; have Xl7 := n4_; have Xk7 := n5_; have Xk8 := n6_; clear n0_ n1_ n2_ n3_ n4_ n5_ n6_; clear hb hbox hg) | ((with_reducible refine Xp (N := 4) rfl ?_); refine Xn ?hg (N := 4) ?hd (cs := #[.int .i64 0, .int .i64 0, .slice none 0 0]) (t := 56) ?hr ?_; (case hd => rfl); (case hg => rfl); (case hr => exact zb7); intro VQ hg w33 hbox hb; have n0_ := zz (Xk (g := Dc) (o := .cells #[.int .i64 Xu, .int .i64 Xy, .slice Yg Xm.length Yh] 56 (0, 0)) zb17 hb); have n1_ := zz (Xk (g := Vo) (o := .cells #[.int .i64 Zd, .int .i64 Zk, .int .i64 Vd, .int .i64 YU, .int .i64 ZI, .int .i64 ZA, .int .i64 Ve, .int .i64 Vf] 76 (0, 0)) zb25 hb); have n2_ := zz (Xc zb52 hb); have n3_ := zz (hbox); have n4_ := zz ((by rw [hg]; exact (XA zb52) : w.heap.size ≤ VQ)); have n5_ := zz ((by rw [hg]; exact (XA zb52) : w.heap.size ≤ VQ)); have n6_ := zz ((zb100 : Dc ≠ VQ)); have n7_ := zz ((zb101 : VQ ≠ Dc)); have n8_ := zz ((zb105 : Vo ≠ VQ)); have n9_ := zz ((zb106 : VQ ≠ Vo)); clear JU; clear Jr; clear HB; have JU := n0_; have Jr := n1_; have HB := n2_; have Vj := n3_; have GW500 := n4_; have XrS := n5_; have Xk9 := n6_; have XkA := n7_; have XkB := n8_; have XkC := n9_; clear n0_ n1_ n2_ n3_ n4_ n5_ n6_ n7_ n8_ n9_; clear hb hbox hg; have XvG := Xk7.out; have XvH := Xk8.out; have hnb35 := Xk9.out; have hnc35 := XkA.out; have X37 : w33.cell? ⟨Dc, 0, none⟩ = some (.int .i64 Xu) := (Xd JU.out 0).trans rfl; have X38 : w33.cell? ⟨Dc, 1, none⟩ = some (.int .i64 Xy) := (Xd JU.out 1).trans rfl; have X39 : w33.cell? ⟨Dc, 2, none⟩ = some (.slice Yg Xm.length Yh) := (Xd JU.out 2).trans rfl; have X3A := Xe JU.out 0; have X3B := Xe JU.out 1; have X3C := Xe JU.out 2) | ((with_reducible refine Xo (f := 96) rfl ?_); refine Yx (some 7) rfl rfl Tryz.func96 zb6 rfl #[.agg #[.int .i64 Xu, .int .i64 Xy, .slice Yg Xm.length Yh]] rfl zb2 ?_; (with_reducible refine (Yf.calls Xu Xy _ _ Xm FB S9 DY _ ?side1 ?side2 A3.out).mono ?_); (case side1 => exact zb8); (case side2 => exact JI.out); rintro e w37 ⟨v504, rfl, ho0, hb⟩; refine ⟨_, rfl, ?_⟩; have n0_ := zz (Kd.YY ho0 (XA zb28)); have n1_ := zz (Xk (g := Dc) (o := .cells #[.int .i64 Xu, .int .i64 Xy, .slice Yg Xm.length Yh] 56 (0, 0)) zb17 hb); have n2_ := zz (Xk (g := Vo) (o := .cells #[.int .i64 Zd, .int .i64 Zk, .int .i64 Vd, .int .i64 YU, .int .i64 ZI, .int .i64 ZA, .int .i64 Ve, .int .i64 Vf] 76 (0, 0)) zb25 hb); have n3_ := zz (Xk (g := VQ) (o := .cells #[.int .i64 0, .int .i64 0, .slice none 0 0] 56 (0, 0)) zb43 hb); have n4_ := zz (Xc zb28 hb); clear JU; clear Jr; clear Vj; clear HB; have Dm := n0_; have JU := n1_; have Jr := n2_; have Vj := n3_; have HB := n4_; clear n0_ n1_ n2_ n3_ n4_; (try clear hb); (try clear hb2); (try clear hk); (try clear hi); (try clear ho0)) | ((with_reducible refine Xp (N := 5) rfl ?_); refine Xn ?hg (N := 5) ?hd (cs := #[.int .i64 0, .int .i64 0, .slice none 0 0]) (t := 56) ?hr ?_; (case hd => rfl); (case hg => rfl); (case hr => exact zb7); intro Zw hg w38 hbox hb; have n0_ := zz (Kd.Xr zb67 hb); have n1_ := zz (Xk (g := Dc) (o := .cells #[.int .i64 Xu, .int .i64 Xy, .slice Yg Xm.length Yh] 56 (0, 0)) zb17 hb); have n2_ := zz (Xk (g := Vo) (o := .cells #[.int .i64 Zd, .int .i64 Zk, .int .i64 Vd, .int .i64 YU, .int .i64 ZI, .int .i64 ZA, .int .i64 Ve, .int .i64 Vf] 76 (0, 0)) zb25 hb); have n3_ := zz (Xk (g := VQ) (o := .cells #[.int .i64 0, .int .i64 0, .slice none 0 0] 56 (0, 0)) zb43 hb); have n4_ := zz (Xc zb28 hb); have n5_ := zz (hbox); have n6_ := zz ((by rw [hg]; exact (XA zb28) : w.heap.size ≤ Zw)); have n7_ := zz ((by rw [hg]; exact (XA zb28) : w.heap.size ≤ Zw)); have n8_ := zz ((zb100 : Dc ≠ Zw)); have n9_ := zz ((zb101 : Zw ≠ Dc)); have n10_ := zz ((zb105 : Vo ≠ Zw)); have n11_ := zz ((zb106 : Zw ≠ Vo)); have n12_ := zz ((by rw [hg]; exact Nat.ne_of_lt (Z5 (g := VQ) (o := .cells #[.int .i64 0, .int .i64 0, .slice none 0 0] 56 (0, 0)) zb43) : VQ ≠ Zw)); have n13_ := zz ((by rw [hg]; exact Nat.ne_of_gt (Z5 (g := VQ) (o := .cells #[.int .i64 0, .int .i64 0, .slice none 0 0] 56 (0, 0)) zb43) : Zw ≠ VQ)); clear Dm; clear JU; clear Jr; clear Vj; clear HB; have Dm := n0_; have JU := n1_; have Jr := n2_; have Vj := n3_; have HB := n4_; have Jf := n5_; have GW506 := n6_; have XuY := n7_; have Dp := n8_; have Sg := n9_; have Dn := n10_; have Si := n11_; have Da := n12_; have Sj := n13_; clear n0_ n1_ n2_ n3_ n4_ n5_ n6_ n7_ n8_ n9_ n10_ n11_ n12_ n13_; clear hb hbox hg; have hnb39 := Sg.out; have hnc39 := Dp.out; have hnb40 := Si.out; have hnc40 := Dn.out; have XvY := Sj.out; have XvZ := Da.out; have Xik : w38.cell? ⟨Zw, 0, none⟩ = some (.int .i64 0) := (Xd Jf.out 0).trans rfl; have Xil : w38.cell? ⟨Zw, 1, none⟩ = some (.int .i64 0) := (Xd Jf.out 1).trans rfl; have Xim : w38.cell? ⟨Zw, 2, none⟩ = some (.slice none 0 0) := (Xd Jf.out 2).trans rfl; have Xin := Xe Jf.out 0; have Xio := Xe Jf.out 1; have Xip := Xe Jf.out 2; obtain ⟨UR, UT, eo43⟩ := Kd.Y2 Dm.out; subst eo43; have hnb44 := XkB.out; have hnc44 := XkC.out; have Xhz : w38.cell? ⟨Vo, 0, none⟩ = some (.int .i64 Zd) := (Xd Jr.out 0).trans rfl; have Xh0 : w38.cell? ⟨Vo, 1, none⟩ = some (.int .i64 Zk) := (Xd Jr.out 1).trans rfl; have Xh1 : w38.cell? ⟨Vo, 2, none⟩ = some (.int .i64 Vd) := (Xd Jr.out 2).trans rfl; have Xh2 : w38.cell? ⟨Vo, 3, none⟩ = some (.int .i64 YU) := (Xd Jr.out 3).trans rfl; have Xh3 : w38.cell? ⟨Vo, 4, none⟩ = some (.int .i64 ZI) := (Xd Jr.out 4).trans rfl; have XoS : w38.cell? ⟨Vo, 5, none⟩ = some (.int .i64 ZA) := (Xd Jr.out 5).trans rfl; have XoT : w38.cell? ⟨Vo, 6, none⟩ = some (.int .i64 Ve) := (Xd Jr.out 6).trans rfl; have XoU : w38.cell? ⟨Vo, 7, none⟩ = some (.int .i64 Vf) := (Xd Jr.out 7).trans rfl; have Xh4 := Xe Jr.out 0; have Xh5 := Xe Jr.out 1; have Xh6 := Xe Jr.out 2; have Xh7 := Xe Jr.out 3; have Xh8 := Xe Jr.out 4; have XoV := Xe Jr.out 5; have XoW := Xe Jr.out 6; have XoX := Xe Jr.out 7))
    have n0_ : Aside0 (Kd.R (Kd.int .i64) 3 (((w38.setCell ⟨Zw, 0, none⟩ (.int .i64 FB)).setCell ⟨Zw, 1, none⟩ (.int .i64 S9)).setCell ⟨Zw, 2, none⟩ (.slice UR DY.length UT)) w.heap.size (fun _ => True) (.slice UR DY.length UT) DY) := ⟨by (with_reducible repeat (first | apply Kd.Yp | apply Kd.Y0 | apply Kd.YC)); exact Kd.XZ (Kd.YZ (p := ⟨Zw, 2, none⟩) (Kd.YZ (p := ⟨Zw, 1, none⟩) (Kd.YZ (p := ⟨Zw, 0, none⟩) (Kd.ZY Dm.out Jf.out (by decide)) (fun _ hk => hk.2) (.int .i64 FB)) (fun _ hk => hk.2) (.int .i64 S9)) (fun _ hk => hk.2) (.slice UR DY.length UT)) (fun _ hk => trivial)⟩
    have n1_ : Aside0 ((((w38.setCell ⟨Zw, 0, none⟩ (.int .i64 FB)).setCell ⟨Zw, 1, none⟩ (.int .i64 S9)).setCell ⟨Zw, 2, none⟩ (.slice UR DY.length UT)).heap[Dc]? = some (.cells #[.int .i64 Xu, .int .i64 Xy, .slice Yg Xm.length Yh] 56 (0, 0))) := ⟨by (with_reducible repeat (first | refine YE ?_ _ | refine XB ?_ | refine Ye ?_ _)); refine ZJ ?_ Dp.out _; (with_reducible repeat (first | refine YE ?_ _ | refine XB ?_ | refine Ye ?_ _)); refine ZJ ?_ Dp.out _; (with_reducible repeat (first | refine YE ?_ _ | refine XB ?_ | refine Ye ?_ _)); refine ZJ ?_ Dp.out _; (with_reducible repeat (first | refine YE ?_ _ | refine XB ?_ | refine Ye ?_ _)); exact JU.out⟩
    have n2_ : Aside0 ((((w38.setCell ⟨Zw, 0, none⟩ (.int .i64 FB)).setCell ⟨Zw, 1, none⟩ (.int .i64 S9)).setCell ⟨Zw, 2, none⟩ (.slice UR DY.length UT)).heap[Vo]? = some (.cells #[.int .i64 Zd, .int .i64 Zk, .int .i64 Vd, .int .i64 YU, .int .i64 ZI, .int .i64 ZA, .int .i64 Ve, .int .i64 Vf] 76 (0, 0))) := ⟨by (with_reducible repeat (first | refine YE ?_ _ | refine XB ?_ | refine Ye ?_ _)); refine ZJ ?_ Dn.out _; (with_reducible repeat (first | refine YE ?_ _ | refine XB ?_ | refine Ye ?_ _)); refine ZJ ?_ Dn.out _; (with_reducible repeat (first | refine YE ?_ _ | refine XB ?_ | refine Ye ?_ _)); refine ZJ ?_ Dn.out _; (with_reducible repeat (first | refine YE ?_ _ | refine XB ?_ | refine Ye ?_ _)); exact Jr.out⟩
    have n3_ : Aside0 ((((w38.setCell ⟨Zw, 0, none⟩ (.int .i64 FB)).setCell ⟨Zw, 1, none⟩ (.int .i64 S9)).setCell ⟨Zw, 2, none⟩ (.slice UR DY.length UT)).heap[VQ]? = some (.cells #[.int .i64 0, .int .i64 0, .slice none 0 0] 56 (0, 0))) := ⟨by (with_reducible repeat (first | refine YE ?_ _ | refine XB ?_ | refine Ye ?_ _)); refine ZJ ?_ Da.out _; (with_reducible repeat (first | refine YE ?_ _ | refine XB ?_ | refine Ye ?_ _)); refine ZJ ?_ Da.out _; (with_reducible repeat (first | refine YE ?_ _ | refine XB ?_ | refine Ye ?_ _)); refine ZJ ?_ Da.out _; (with_reducible repeat (first | refine YE ?_ _ | refine XB ?_ | refine Ye ?_ _)); exact Vj.out⟩
    have n4_ : Aside0 ((((w38.setCell ⟨Zw, 0, none⟩ (.int .i64 FB)).setCell ⟨Zw, 1, none⟩ (.int .i64 S9)).setCell ⟨Zw, 2, none⟩ (.slice UR DY.length UT)).heap[Zw]? = some (.cells #[.int .i64 FB, .int .i64 S9, .slice UR DY.length UT] 56 (0, 0))) := ⟨by (with_reducible repeat (first | refine YE ?_ _ | refine XB ?_ | refine Ye ?_ _)); refine XX (cs := #[.int .i64 FB, .int .i64 S9, .slice none 0 0]) ?_ 2 _ rfl; (with_reducible repeat (first | refine YE ?_ _ | refine XB ?_ | refine Ye ?_ _)); refine XX (cs := #[.int .i64 FB, .int .i64 0, .slice none 0 0]) ?_ 1 _ rfl; (with_reducible repeat (first | refine YE ?_ _ | refine XB ?_ | refine Ye ?_ _)); refine XX (cs := #[.int .i64 0, .int .i64 0, .slice none 0 0]) ?_ 0 _ rfl; (with_reducible repeat (first | refine YE ?_ _ | refine XB ?_ | refine Ye ?_ _)); exact Jf.out⟩
    have n5_ : Aside0 (Below w.heap.size w (((w38.setCell ⟨Zw, 0, none⟩ (.int .i64 FB)).setCell ⟨Zw, 1, none⟩ (.int .i64 S9)).setCell ⟨Zw, 2, none⟩ (.slice UR DY.length UT))) := ⟨zb13⟩
    (try clear Dm)
    (try clear JU)
    (try clear Jr)
    (try clear Vj)
    (try clear Jf)
    (try clear HB)
    generalize (((w38.setCell ⟨Zw, 0, none⟩ (.int .i64 FB)).setCell ⟨Zw, 1, none⟩ (.int .i64 S9)).setCell ⟨Zw, 2, none⟩ (.slice UR DY.length UT)) = w46 at n0_ n1_ n2_ n3_ n4_ n5_ ⊢; have Dm := n0_; have JU := n1_; have Jr := n2_; have Vj := n3_; have Jf := n4_; have HB := n5_; clear n0_ n1_ n2_ n3_ n4_ n5_; have n0_ := zz (Kd.YC Dm.out); have n1_ := zz (XB JU.out); have n2_ := zz (XB Jr.out); have n3_ := zz (XB Vj.out); have n4_ := zz (XB Jf.out); have n5_ := zz (Jh HB.out); clear Dm; clear JU; clear Jr; clear Vj; clear Jf; clear HB; have Dm := n0_; have JU := n1_; have Jr := n2_; have Vj := n3_; have Jf := n4_; have HB := n5_; clear n0_ n1_ n2_ n3_ n4_ n5_; refine Yw (n := 5) (S := fun w' => True) (ds := []) #[false, false, false, false, false] zb6 rfl rfl trivial (fun hHeld => ?_); generalize w46.drew = w47 at Dm JU Jr Vj Jf HB hHeld ⊢; refine MO (i := 1) (N := some 27) (v := ?_) (a' := ?_) #[false, true, false, false, false] rfl rfl zb6 (fun _ _ _ h => h) (Or.inl ⟨by rfl, ?_⟩) ?_ ?_; rotate_left
    ·intro w'
     go_simp
     with_reducible rfl
    rotate_left
    ·simp only [Act.put, List.setIfInBounds_toArray, List.set_cons_zero, List.set_cons_succ, Xz, XF]
     rfl
    refine Xds (σ := Value) 2 #[true, true, true, false, false] (fun s_ => [(26, s_)]) (fun s_ w' => (Kd.R (Kd.int .i64) 3 w' w.heap.size (fun k_ => some k_ ≠ (s_ : Value).ownBlock) (.slice UR DY.length UT) DY) ∧ (Kd.R (Kd.int .i64) 3 w' w.heap.size (fun k_ => some k_ ≠ (.slice UR DY.length UT : Value).ownBlock) s_ Xk6) ∧ (w'.heap[Dc]? = some (.cells #[.int .i64 Xu, .int .i64 Xy, .slice Yg Xm.length Yh] 56 (0, 0))) ∧ (w'.heap[Vo]? = some (.cells #[.int .i64 Zd, .int .i64 Zk, .int .i64 Vd, .int .i64 YU, .int .i64 ZI, .int .i64 ZA, .int .i64 Ve, .int .i64 Vf] 76 (0, 0))) ∧ (w'.heap[VQ]? = some (.cells #[.int .i64 0, .int .i64 0, .slice none 0 0] 56 (0, 0))) ∧ (w'.heap[Zw]? = some (.cells #[.int .i64 FB, .int .i64 0, .slice UR DY.length UT] 56 (0, 0))) ∧ (Below w.heap.size w w')) ?_ ?_; rotate_left
    ·intro hCont
     refine XkU (i := 0) (j := 2) (Ni := some 26) (Nj := none) #[true, true, false, false, false] #[false, true, true, false, false] rfl rfl rfl rfl zb6 (by decide) (by decide) (fun K hK => ?_) (fun K hK => ?_)
     ·skip
      refine Kd.Ty (Kd.int .i64) _ 3 (by rfl) (N := 26) rfl 37 _ _ rfl 3 rfl rfl Tryz.underlying37 (.int .i64 0) 8 info3 rfl (by decide) (by omega) 0 (ok := fun _ => True) (okp := fun _ => True) rfl (fun _ hk => hk) trivial (by omega) (by omega) (Below.refl _ _) (Nat.le_refl _) ?_; intro XkD w48 ho49 hb hg_ hnew_; clear hg_ hnew_
      (first | rw [← Ny508.out] at ho49 | (simp only [Int.reduceToNat] at ho49; rw [← Ny508.out] at ho49))
      have n0_ := zz (Kd.FV zb67 (Kd.FX ho49) hb); have n1_ := zz (Kd.YY (Kd.Pe ho49 (Kd.N7 zb67)) (XA zb13)); have n2_ := zz (Xk (g := Dc) (o := .cells #[.int .i64 Xu, .int .i64 Xy, .slice Yg Xm.length Yh] 56 (0, 0)) zb17 hb); have n3_ := zz (Xk (g := Vo) (o := .cells #[.int .i64 Zd, .int .i64 Zk, .int .i64 Vd, .int .i64 YU, .int .i64 ZI, .int .i64 ZA, .int .i64 Ve, .int .i64 Vf] 76 (0, 0)) zb25 hb); have n4_ := zz (Xk (g := VQ) (o := .cells #[.int .i64 0, .int .i64 0, .slice none 0 0] 56 (0, 0)) zb43 hb); have n5_ := zz (Xk (g := Zw) (o := .cells #[.int .i64 FB, .int .i64 S9, .slice UR DY.length UT] 56 (0, 0)) zb111 hb); have n6_ := zz (Xc zb13 hb); clear Dm; clear JU; clear Jr; clear Vj; clear Jf; clear HB; have Dm := n0_; have OT := n1_; have JU := n2_; have Jr := n3_; have Vj := n4_; have Jf := n5_; have HB := n6_; clear n0_ n1_ n2_ n3_ n4_ n5_ n6_; clear hb ho49; refine hK.out _ _ trivial (fun hHeld => ?_); clear hK K; refine XQ (a' := ?_) ?_ ?_; rotate_left
      ·show Act.put _ (some 26) _ = _
       simp only [Act.put, List.setIfInBounds_toArray, List.set_cons_zero, List.set_cons_succ, Xz, XF]
       rfl
      refine Zj (i := 2) (N := none) #[true, true, true, false, false] rfl rfl zb6 (by decide) (fun K hK => ?_); have hs50 : w48.cell? ⟨Zw, 1, none⟩ = some (.int .i64 S9) := (Xd Jf.out 1).trans rfl; have hfs50 := Xe Jf.out 1; have hns50_0 := Dp.out; have hns50_1 := Dn.out; have hns50_2 := Da.out; have hms50_0 := Sg.out; have hms50_1 := Si.out; have hms50_2 := Sj.out; refine SX (w1 := ?_) (by rfl) rfl ?_ ?_; rotate_left
      ·go_simp
       rfl
      refine hK.out _ _ trivial (fun hHeld => ?_); clear hK K; exact XQ zb24 (hCont (XkD) _ ⟨(by (with_reducible repeat (first | apply Kd.Yp | apply Kd.Y0 | apply Kd.YC)); exact Kd.XZ (Kd.YZ (p := ⟨Zw, 1, none⟩) (Kd.ZY Dm.out Jf.out (by decide)) (fun _ hk => hk.2) (.int .i64 0)) (fun _ hk => hk.1.2)), (by (with_reducible repeat (first | apply Kd.Yp | apply Kd.Y0 | apply Kd.YC)); exact Kd.XZ (Kd.YZ (p := ⟨Zw, 1, none⟩) (Kd.ZY OT.out Jf.out (by decide)) (fun _ hk => hk.2) (.int .i64 0)) (fun _ hk => hk.1.2)), zb104, zb103, zb102, zb58, zb13⟩)
     ·skip
      have hs48 : w47.cell? ⟨Zw, 1, none⟩ = some (.int .i64 S9) := (Xd Jf.out 1).trans rfl; have hfs48 := Xe Jf.out 1; have hns48_0 := Dp.out; have hns48_1 := Dn.out; have hns48_2 := Da.out; have hms48_0 := Sg.out; have hms48_1 := Si.out; have hms48_2 := Sj.out; refine SX (w1 := ?_) (by rfl) rfl ?_ ?_; rotate_left
      ·go_simp
       rfl
      refine hK.out _ _ trivial (fun hHeld => ?_); clear hK K; refine Zj (i := 0) (N := some 26) #[true, true, true, false, false] rfl rfl zb6 (by decide) (fun K hK => ?_); refine Kd.Ty (Kd.int .i64) _ 3 (by rfl) (N := 26) rfl 37 _ _ rfl 3 rfl rfl Tryz.underlying37 (.int .i64 0) 8 info3 rfl (by decide) (by omega) 0 (ok := fun _ => True) (okp := fun _ => True) rfl (fun _ hk => hk) trivial (by omega) (by omega) (Below.refl _ _) (Nat.le_refl _) ?_; intro XkD w49 ho50 hb hg_ hnew_; clear hg_ hnew_
      (first | rw [← Ny508.out] at ho50 | (simp only [Int.reduceToNat] at ho50; rw [← Ny508.out] at ho50))
      have n0_ := zz (Kd.FV zb61 (Kd.FX ho50) hb); have n1_ := zz (Kd.YY (Kd.Pe ho50 (Kd.N7 zb61)) (XA zb13)); have n2_ := zz (Xk (g := Dc) (o := .cells #[.int .i64 Xu, .int .i64 Xy, .slice Yg Xm.length Yh] 56 (0, 0)) zb104 hb); have n3_ := zz (Xk (g := Vo) (o := .cells #[.int .i64 Zd, .int .i64 Zk, .int .i64 Vd, .int .i64 YU, .int .i64 ZI, .int .i64 ZA, .int .i64 Ve, .int .i64 Vf] 76 (0, 0)) zb103 hb); have n4_ := zz (Xk (g := VQ) (o := .cells #[.int .i64 0, .int .i64 0, .slice none 0 0] 56 (0, 0)) zb102 hb); have n5_ := zz (Xk (g := Zw) (o := .cells #[.int .i64 FB, .int .i64 0, .slice UR DY.length UT] 56 (0, 0)) zb58 hb); have n6_ := zz (Xc zb13 hb); clear Dm; clear JU; clear Jr; clear Vj; clear Jf; clear HB; have Dm := n0_; have OT := n1_; have JU := n2_; have Jr := n3_; have Vj := n4_; have Jf := n5_; have HB := n6_; clear n0_ n1_ n2_ n3_ n4_ n5_ n6_; clear hb ho50; refine hK.out _ _ trivial (fun hHeld => ?_); clear hK K; refine XQ (a' := ?_) ?_ ?_; rotate_left
      ·show Act.put _ (some 26) _ = _
       simp only [Act.put, List.setIfInBounds_toArray, List.set_cons_zero, List.set_cons_succ, Xz, XF]
       rfl
      exact XQ zb24 (hCont (XkD) _ ⟨(by (with_reducible repeat (first | apply Kd.Yp | apply Kd.Y0 | apply Kd.YC)); exact Kd.XZ Dm.out (fun _ hk => hk.2)), (by (with_reducible repeat (first | apply Kd.Yp | apply Kd.Y0 | apply Kd.YC)); exact Kd.XZ OT.out (fun _ hk => hk.2)), zb17, zb25, zb43, zb111, zb13⟩)
    rintro XkD w51 ⟨h0_, h1_, h2_, h3_, h4_, h5_, h6_⟩
    have n0_ : Aside0 (Kd.R (Kd.int .i64) 3 w51 w.heap.size (fun k_ => some k_ ≠ (XkD : Value).ownBlock) (.slice UR DY.length UT) DY) := ⟨h0_⟩
    have n1_ : Aside0 (Kd.R (Kd.int .i64) 3 w51 w.heap.size (fun k_ => some k_ ≠ (.slice UR DY.length UT : Value).ownBlock) XkD Xk6) := ⟨h1_⟩
    have n2_ : Aside0 (w51.heap[Dc]? = some (.cells #[.int .i64 Xu, .int .i64 Xy, .slice Yg Xm.length Yh] 56 (0, 0))) := ⟨h2_⟩
    have n3_ : Aside0 (w51.heap[Vo]? = some (.cells #[.int .i64 Zd, .int .i64 Zk, .int .i64 Vd, .int .i64 YU, .int .i64 ZI, .int .i64 ZA, .int .i64 Ve, .int .i64 Vf] 76 (0, 0))) := ⟨h3_⟩
    have n4_ : Aside0 (w51.heap[VQ]? = some (.cells #[.int .i64 0, .int .i64 0, .slice none 0 0] 56 (0, 0))) := ⟨h4_⟩
    have n5_ : Aside0 (w51.heap[Zw]? = some (.cells #[.int .i64 FB, .int .i64 0, .slice UR DY.length UT] 56 (0, 0))) := ⟨h5_⟩
    have n6_ : Aside0 (Below w.heap.size w w51) := ⟨h6_⟩
    clear Dm; clear JU; clear Jr; clear Vj; clear Jf; clear HB; clear h0_ h1_ h2_ h3_ h4_ h5_ h6_; have Dm := n0_; have OT := n1_; have JU := n2_; have Jr := n3_; have Vj := n4_; have Jf := n5_; have HB := n6_; clear n0_ n1_ n2_ n3_ n4_ n5_ n6_; have hHeld := trivial; obtain ⟨XtP, XtQ, eo52⟩ := Kd.Y2 OT.out
    (first | subst eo52 | (injection eo52 with f1_ f2_ f3_; have f4_ := f1_.symm; have f5_ := f3_.symm; clear f1_ f2_ f3_; subst f4_; subst f5_))
    refine XQ (a' := ?_) ?_ ?_; rotate_left
    ·simp only [M9, Act.put, List.setIfInBounds_toArray, List.set_cons_zero, List.set_cons_succ]
     rfl
    refine MO (i := 3) (N := some 28) (v := ?_) (a' := ?_) #[true, true, true, true, false] rfl rfl zb6 (fun _ _ _ h => h) (Or.inl ⟨by rfl, ?_⟩) ?_ ?_; rotate_left
    ·intro w'
     go_simp
     with_reducible rfl
    rotate_left
    ·simp only [Act.put, List.setIfInBounds_toArray, List.set_cons_zero, List.set_cons_succ, Xz, XF]
     rfl
    refine Zj (i := 4) (N := none) #[true, true, true, true, true] rfl rfl zb6 (by decide) (fun K hK => ?_); have hs53 : w51.cell? ⟨Zw, 2, none⟩ = some (.slice UR DY.length UT) := (Xd Jf.out 2).trans rfl; have hfs53 := Xe Jf.out 2; have hns53_0 := Dp.out; have hns53_1 := Dn.out; have hns53_2 := Da.out; have hms53_0 := Sg.out; have hms53_1 := Si.out; have hms53_2 := Sj.out; refine SX (w1 := ?_) (by rfl) rfl ?_ ?_; rotate_left
    ·go_simp
     rfl
    refine hK.out _ _ trivial (fun hHeld => ?_); clear hK K; refine YX zb6 ?_; have Xpi : w51.cell? ⟨Zw, 0, none⟩ = some (.int .i64 FB) := (Xd Jf.out 0).trans rfl; have Xpj : w51.cell? ⟨Zw, 1, none⟩ = some (.int .i64 0) := (Xd Jf.out 1).trans rfl; have Xpk : w51.cell? ⟨Zw, 2, none⟩ = some (.slice UR DY.length UT) := (Xd Jf.out 2).trans rfl; have Xpl := Xe Jf.out 0; have Xpm := Xe Jf.out 1; have Xpn := Xe Jf.out 2; have Xpo : w51.cell? ⟨VQ, 0, none⟩ = some (.int .i64 0) := (Xd Vj.out 0).trans rfl; have Xpp : w51.cell? ⟨VQ, 1, none⟩ = some (.int .i64 0) := (Xd Vj.out 1).trans rfl; have Xpq : w51.cell? ⟨VQ, 2, none⟩ = some (.slice none 0 0) := (Xd Vj.out 2).trans rfl; have Xpr := Xe Vj.out 0; have Xps := Xe Vj.out 1; have Xpt := Xe Vj.out 2
    try go_wp2
    refine bodyPost_ret (results_cell_row rfl _ _ VQ 56 #[.int .i64 FB, .int .i64 0, .slice XtP Xk6.length XtQ] (0, 0) _ rfl (by (with_reducible repeat (first | refine YE ?_ _ | refine XB ?_ | refine Ye ?_ _)); refine XX (cs := #[.int .i64 FB, .int .i64 0, .slice none 0 0]) ?_ 2 _ rfl; (with_reducible repeat (first | refine YE ?_ _ | refine XB ?_ | refine Ye ?_ _)); refine XX (cs := #[.int .i64 FB, .int .i64 0, .slice none 0 0]) ?_ 1 _ rfl; (with_reducible repeat (first | refine YE ?_ _ | refine XB ?_ | refine Ye ?_ _)); refine XX (cs := #[.int .i64 0, .int .i64 0, .slice none 0 0]) ?_ 0 _ rfl; (with_reducible repeat (first | refine YE ?_ _ | refine XB ?_ | refine Ye ?_ _)); refine ZJ ?_ Da.out _; (with_reducible repeat (first | refine YE ?_ _ | refine XB ?_ | refine Ye ?_ _)); exact Vj.out) Tryz.underlying56 rfl zb6) rfl ?_; exact ⟨_, zb4, by (with_reducible repeat (first | apply Kd.Yp | apply Kd.Y0 | apply Kd.YC)); exact Kd.XZ (Kd.YZ (p := ⟨VQ, 2, none⟩) (Kd.YZ (p := ⟨VQ, 1, none⟩) (Kd.YZ (p := ⟨VQ, 0, none⟩) (Kd.YZ (p := ⟨Zw, 2, none⟩) (Kd.ZY (Kd.ZY OT.out Jf.out (by decide)) Vj.out (by decide)) (fun _ hk => hk.1.2) (.slice XtP Xk6.length XtQ)) (fun _ hk => hk.2) (.int .i64 FB)) (fun _ hk => hk.2) (.int .i64 0)) (fun _ hk => hk.2) (.slice XtP Xk6.length XtQ)) (fun _ hk => trivial), zb13⟩
   ·rw [if_neg c30] at H
    exact absurd H (by simp)
  ·exact absurd hn_ c29
end Go.Proofs.YtphnphmbfogmlaaGreat.Pr
namespace Go.Proofs.YtphnphmbfogmlaaGreat.Pr
open Go.RowKit Go.PW Go.PL Go.PM Go.Proofs.YtphnphmbfogmlaaGreat.T
set_option linter.unusedSimpArgs false
set_option linter.unusedVariables false
set_option maxHeartbeats 4000000 in
set_option maxRecDepth 100000 in
theorem Zg.calls (Xu : Int) (Xy : Int) (Yg : Option Addr) (Yh : Nat) (Xm : List Int) (Zd : Int) (Zk : Int) (Vd : Int) (YU : Int) (ZI : Int) (ZA : Int) (Ve : Int) (Vf : Int) (r1 : Int) (r2 : Int) (r3 : List Int) (w : World) (hr0_2 : Kd.C (Kd.int .i64) w Yg Xm.length Xm) (hc0_2 : Xm.length ≤ Yh) (h : Zg.f Xu Xy Xm Zd Zk Vd YU ZI ZA Ve Vf = some (r1, r2, r3)) :
 Calls Tryz.prog 69 #[.agg #[.int .i64 Xu, .int .i64 Xy, .slice Yg Xm.length Yh], .agg #[.int .i64 Zd, .int .i64 Zk, .int .i64 Vd, .int .i64 YU, .int .i64 ZI, .int .i64 ZA, .int .i64 Ve, .int .i64 Vf]] w fun e w' => ∃ v2_ : Value, e = .returned (.agg #[.int .i64 r1, .int .i64 r2, v2_]) ∧ Kd.R (Kd.int .i64) 3 w' w.heap.size (fun _ => True) v2_ r3 ∧ Below w.heap.size w w' := by
 have H0 := zz h
 unfold Zg.f at h
 obtain ⟨⟨t0, t1, t2⟩, hcp, h1⟩ := Option.bind_eq_some_iff.mp h; clear h
 dsimp only at h1
 have HCP := zz hcp; have HC := zz hr0_2; have HC0 := zz hc0_2; have H := zz h1; clear hcp hr0_2 hc0_2 h1
 by_cases hs : YU ≥ 0
 ·have HB0 := zz (Below.refl w.heap.size w)
  have HZ0 := zz (Nat.le_refl w.heap.size)
  go_enter Tryz.func69, Tryz.ntmps69
  have hsb : decide (0 ≤ YU) = true := decide_eq_true hs; clear hs; have h := H.out; rw [if_pos (of_decide_eq_true hsb), if_pos (of_decide_eq_true hsb)] at h
  by_cases hi : YU < (t2.length : Int)
  rotate_left
  ·rw [if_neg hi] at h
   exact absurd h (by simp)
  rw [if_pos hi] at h; simp only [Option.some.injEq, Prod.mk.injEq] at h; obtain ⟨rfl, rfl, rfl⟩ := h; have HI := zz hi; clear hi
  go_wp2_with fail
  refine (Yf.calls Xu Xy _ _ Xm t0 t1 t2 _ (FP HC.out (bl3 _ _ _)) HC0.out HCP.out).mono ?_; rintro e w1 ⟨v, rfl, hR, hb⟩; obtain ⟨hc1, hf1⟩ := DU hb; have hz1 := hb.size
  (try simp at hz1)
  have HB1 : Aside0 (Below w.heap.size w w1) := ⟨Yn zb29 zb62 hb⟩
  have HZ1 := zz (HB1.out.size); have HT1 := zz hb; clear hb
  have hy1_0 : w.heap.size < w1.heap.size := (by omega)
  have hy1_1 : w.heap.size + 1 < w1.heap.size := (by omega)
  have hy1_2 : w.heap.size + 1 + 1 < w1.heap.size := (by omega)
  obtain ⟨A1, c1, rfl, hcc1, hC1⟩ := U0 hR
  have HRI : Aside0 (RI w1 (w.heap.size + 3) w1.heap.size (.slice A1 t2.length c1) t2) := ⟨Ml (Qr hR) zb36⟩
  obtain ⟨ad, rfl, hcell⟩ := Kd.Jn hC1 YU (of_decide_eq_true hsb) HI.out; obtain ⟨go, rfl⟩ := Kd.Xfp hR; have hgo := HRI.out.1 go rfl
  try simp at hgo
  obtain ⟨hy28, hz28⟩ := Kd.RP 0 hR YU (of_decide_eq_true hsb) HI.out
  have hgo1 : go < w1.heap.size := by omega
  have hgo2 : w.heap.size ≤ go := by omega
  have hgo3 : w.heap.size + 1 ≠ go := by omega
  have hgo4 : w.heap.size + 1 + 1 ≠ go := by omega
  have hgo5 : w1.heap.size ≠ go := by omega
  have hq1 := eq_true (show (0 : Int) ≤ YU from of_decide_eq_true hsb); have hq2 := eq_true HI.out; clear hR hC1 hcell
  go_wp2
  refine bodyPost_ret (v := .agg #[.int .i64 t0, .int .i64 t1, .slice (some ⟨go, 0, none⟩) t2.length c1]) (by simp [results, Tryz.results69, go_sem, *]) rfl ⟨_, rfl, ?_, ?_⟩
  ·refine Eo (n := w.heap.size + 3) (m := w1.heap.size) ?_ zb36
   repeat (first | (with_reducible exact (Kd.Xdj HRI.out YU ZA).1) | (exact (Kd.Xdj HRI.out YU ZA).1; done) | (refine En ?_ zb36 _) | (with_reducible refine NC ?_ _) | (with_reducible refine ND ?_ _) | (with_reducible refine PT ?_))
  ·repeat (first | (with_reducible exact HB1.out) | (with_reducible refine Xj ?_ _) | (with_reducible refine XN ?_ _) | (with_reducible refine Xx ?_) | (refine Xq ?_ (by have := HZ1.out; omega)))
 ·have hsb : decide (0 ≤ YU) = false := decide_eq_false hs
  have h := H.out; rw [if_neg hs] at h; clear hs
  by_cases hn : ZA = 0
  ·skip
   exact XfV Xu Xy Yg Yh Xm Zd Zk Vd YU ZI ZA Ve Vf r1 r2 r3 w HC.out HC0.out (of_decide_eq_false hsb) hn H0.out
  ·have hnb : (ZA == 0) = false := by simp [hn]
   rw [if_neg hn] at h; clear hn; simp only [Option.some.injEq, Prod.mk.injEq] at h; obtain ⟨rfl, rfl, rfl⟩ := h; have HB0 := zz (Below.refl w.heap.size w); have HZ0 := zz (Nat.le_refl w.heap.size)
   go_enter Tryz.func69, Tryz.ntmps69
   go_wp2_with fail
   refine (Yf.calls Xu Xy _ _ Xm t0 t1 t2 _ (FP HC.out (bl3 _ _ _)) HC0.out HCP.out).mono ?_; rintro e w1 ⟨v, rfl, hR, hb⟩; obtain ⟨hc1, hf1⟩ := DU hb; have hz1 := hb.size
   (try simp at hz1)
   have HB1 : Aside0 (Below w.heap.size w w1) := ⟨Yn zb29 zb62 hb⟩
   have HZ1 := zz (HB1.out.size); have HT1 := zz hb; clear hb
   have hy1_0 : w.heap.size < w1.heap.size := (by omega)
   have hy1_1 : w.heap.size + 1 < w1.heap.size := (by omega)
   have hy1_2 : w.heap.size + 1 + 1 < w1.heap.size := (by omega)
   obtain ⟨A1, c1, rfl, hcc1, hC1⟩ := U0 hR
   have HRI : Aside0 (RI w1 (w.heap.size + 3) w1.heap.size (.slice A1 t2.length c1) t2) := ⟨Ml (Qr hR) zb36⟩
   clear hR hC1
   go_wp2
   refine bodyPost_ret (v := .agg #[.int .i64 t0, .int .i64 ZA, .slice A1 t2.length c1]) (by simp [results, Tryz.results69, go_sem, *]) rfl ⟨_, rfl, ?_, ?_⟩
   ·refine Eo (n := w.heap.size + 3) (m := w1.heap.size) ?_ zb36
    repeat (first | (with_reducible exact HRI.out) | (exact HRI.out; done) | (refine En ?_ zb36 _) | (with_reducible refine NC ?_ _) | (with_reducible refine ND ?_ _) | (with_reducible refine PT ?_))
   ·repeat (first | (with_reducible exact HB1.out) | (with_reducible refine Xj ?_ _) | (with_reducible refine XN ?_ _) | (with_reducible refine Xx ?_) | (refine Xq ?_ (by have := HZ1.out; omega)))
end Go.Proofs.YtphnphmbfogmlaaGreat.Pr
