import Derived.Test.YtphnphmbfogmlaaGreatQEByq
import Derived.Test.YtphnphmbfogmlaaGreatQEPrK
import Derived.Test.YtphnphmbfogmlaaGreatQESx
namespace Go.Proofs.YtphnphmbfogmlaaGreat.Pr
open Go.RowKit Go.PW Go.PL Go.PM
attribute [local go_sem] YO YP Zm Zn Yv Yw YQ YS
set_option linter.unusedVariables false
set_option linter.unusedSimpArgs false
def Zc.f (a0 : Int) (a1 : Int) (a2 : Int) : Option (Bool) := if a0 ≥ a1 then (some (decide (a0 ≤ a2))) else (some false)
set_option maxHeartbeats 8000000 in
set_option maxRecDepth 100000 in
theorem Zc.calls (a0 : Int) (a1 : Int) (a2 : Int) (r : Bool) (w : World) (h : Zc.f a0 a1 a2 = some r) :
 Calls Tryz.prog 30 #[.int .i64 a0, .int .i64 a1, .int .i64 a2] w fun e w' => e = .returned (.bool r) ∧ Jc w w' := by
 have H : (if a0 ≥ a1 then (some (decide (a0 ≤ a2))) else (some false)) = some r := h; clear h
 by_cases c4 : a0 ≥ a1
 ·rw [if_pos c4] at H
  have c4b0 : decide (a1 ≤ a0) = true := decide_eq_true c4; clear c4; obtain rfl := Option.some.inj H
  go_enter Tryz.func30, Tryz.ntmps30
  go_wp2
  go_ret
  exact ⟨zb6, zb11⟩
 ·rw [if_neg c4] at H
  have c4b0 : decide (a1 ≤ a0) = false := decide_eq_false c4; clear c4; obtain rfl := Option.some.inj H
  go_enter Tryz.func30, Tryz.ntmps30
  go_wp2
  go_ret
  exact ⟨zb6, zb11⟩
def JZ.f (X4 : Int) (XB : Int) (Xe : List Int) : Option (Int × Int × List Int) := (some (([] : List Int) : List Int)).bind fun IB => (if IB.length + Xe.length < 17592186044416 then (some (X4, XB, (IB ++ Xe))) else (none))
set_option maxHeartbeats 8000000 in
set_option maxRecDepth 100000 in
theorem JZ.calls (X4 : Int) (XB : Int) (XE : Option Addr) (XF : Nat) (Xe : List Int) (r1 : Int) (r2 : Int) (r3 : List Int) (w : World) (hr0_2 : Kd.C (Kd.int .i64) w XE Xe.length Xe) (hc0_2 : Xe.length ≤ XF) (h : JZ.f X4 XB Xe = some (r1, r2, r3)) :
 Calls Tryz.prog 95 #[.agg #[.int .i64 X4, .int .i64 XB, .slice XE Xe.length XF]] w fun e w' => ∃ v2_ : Value, e = .returned (.agg #[.int .i64 r1, .int .i64 r2, v2_]) ∧ Kd.R (Kd.int .i64) 3 w' w.heap.size (fun _ => True) v2_ r3 ∧ Below w.heap.size w w' := by
 have hu56 := Tryz.underlying56; have VU := az hr0_2; have DY := az hc0_2; clear hr0_2 hc0_2; have HB := az (Below.refl w.heap.size w); have H : ((some (([] : List Int) : List Int)).bind fun IB => (if IB.length + Xe.length < 17592186044416 then (some (X4, XB, (IB ++ Xe))) else (none))) = some (r1, r2, r3) := h; clear h
 obtain ⟨IB, hy111⟩ : ∃ y_ : List Int, y_ = (([] : List Int)) := ⟨_, rfl⟩
 replace H : (if IB.length + Xe.length < 17592186044416 then (some (X4, XB, (IB ++ Xe))) else (none)) = some (r1, r2, r3) := by first | (rw [hy111]; with_reducible exact H) | (have H2_ := (Option.bind_some _ _).symm.trans H; rw [hy111]; with_reducible exact H2_) | (have H2_ := (Option.bind_some _ _).symm.trans H; with_reducible exact H2_) | with_reducible exact H | (rw [hy111]; exact H) | exact H
 have Ny111 := az hy111; clear hy111
 by_cases c2 : IB.length + Xe.length < 17592186044416
 ·rw [if_pos c2] at H
  have LMc2 := az c2; clear c2
  obtain ⟨Xus, hy114⟩ : ∃ y_ : List Int, y_ = (IB ++ Xe) := ⟨_, rfl⟩
  replace H : (some (X4, XB, Xus)) = some (r1, r2, r3) := by first | (rw [hy114]; with_reducible exact H) | (have H2_ := (Option.bind_some _ _).symm.trans H; rw [hy114]; with_reducible exact H2_) | (have H2_ := (Option.bind_some _ _).symm.trans H; with_reducible exact H2_) | with_reducible exact H | (rw [hy114]; exact H) | exact H
  have Ny114 := az hy114; clear hy114; simp only [Option.some.injEq, Prod.mk.injEq] at H; obtain ⟨rfl, rfl, rfl⟩ := H
  go_enter Tryz.func95, Tryz.ntmps95
  go_wp2_with (first | ((with_reducible refine Xn (N := 1) rfl ?_); refine Xl ?hg (N := 1) ?hd (cs := #[.int .i64 X4, .int .i64 XB, .slice XE Xe.length XF]) (t := 56) ?hr ?_; (case hd => rfl); (case hg => rfl); (case hr => exact zb10); intro Xqs hg w3 hbox hb; have MK := az (hbox); have X04 := az ((zb129 : w.heap.size ≤ Xqs)); have GE109 := X04; replace HB := az (Xc zb1 hb); clear hb hbox hg) | ((with_reducible refine Xn (N := 2) rfl ?_); refine Xl ?hg (N := 2) ?hd (cs := #[.int .i64 0, .int .i64 0, .slice none 0 0]) (t := 56) ?hr ?_; (case hd => rfl); (case hg => rfl); (case hr => exact zb10); intro XaR hg w4 hbox hb; have Pn := az (hbox); have X05 := az ((zb131 : w.heap.size ≤ XaR)); have GE110 := X05; replace HB := az (Xc zb0 hb); obtain ⟨Xop, XaS⟩ := nb MK hg (fun h => by (with_reducible repeat (first | apply bn | apply bd | apply ba)); exact h); replace MK := bb MK (fun h => by (with_reducible repeat (first | apply bn | apply bd | apply ba)); exact h) hb; clear hb hbox hg) | ((with_reducible refine Xn (N := 3) rfl ?_); refine Kd.XfQ (Kd.int .i64) _ 3 ?hg (N := 3) ?hd (xs := ([] : List Int)) (inner := []) (ok := fun _ => True) (okp := fun _ => True) ?hr ?hp (fun _ hk => hk) trivial (Below.refl _ _) (Nat.le_refl _) (by simp) ?_; (case hd => rfl); (case hg => rfl); (case hr => exact zb10); (case hp => exact (ZJ.none _ _)); intro v112 w5 ho6 hb hg_ hnew_; clear hg_ hnew_; (first | rw [← Ny111.out] at ho6 | (simp only [Int.reduceToNat] at ho6; rw [← Ny111.out] at ho6)); have Xl2 := az (Kd.Zh ho6 (Xv zb0)); replace MK := bb MK (fun h => by (with_reducible repeat (first | apply bn | apply bd | apply ba)); exact h) hb; replace Pn := bb Pn (fun h => by (with_reducible repeat (first | apply bn | apply bd | apply ba)); exact h) hb; replace HB := az (Xc zb0 hb); clear hb ho6; have hnb7 := Xop.out; have hnc7 := XaS.out; obtain ⟨Fp, Fq, Fs⟩ := cz3 MK; have Fu := Xd MK.out 0; have Fv := Xd MK.out 1; have Fw := Xd MK.out 2) | ((with_reducible refine JV (b := .append) (xs := #[.tmp 3, .tmp 5]) rfl ?_); at_builtin; refine Kd.Le (Kd.int .i64) (w0 := w) w.heap.size rfl (.tmp 3) (.tmp 5) 37 3 (.int .i64 0) 8 rfl Tryz.underlying37 info3 rfl (by decide) (by omega) v112 IB Xe _ _ _ (fun _ => True) (fun _ => False) rfl rfl ?aO ?aR (fun _ _ h => h) (fun _ h => h.elim) ?aF ?aB ?aS ?aL ?_; (case aR => exact zb5); (case aB => exact zb0); (case aF => exact (fun _ _ => trivial)); (case aO => exact (by (with_reducible repeat (first | apply Kd.XU | apply Kd.XX | apply Kd.Yj)); exact Xl2.out)); (case aS => exact (Xv zb0)); (case aL => have := LMc2.out; omega); intro v115 w9 ho hb hg hat; rw [← Ny114.out] at ho; replace MK := az (Gn (g := Xqs) (o := .cells #[.int .i64 X4, .int .i64 XB, .slice XE Xe.length XF] 56 (0, 0)) (by (with_reducible repeat (first | apply bn | apply bd | apply ba)); exact MK.out) hg (Kd.Xrl Xl2.out MK.out (by decide))); replace Pn := az (Gn (g := XaR) (o := .cells #[.int .i64 0, .int .i64 0, .slice none 0 0] 56 (0, 0)) (by (with_reducible repeat (first | apply bn | apply bd | apply ba)); exact Pn.out) hg (Kd.Xrl Xl2.out Pn.out (by decide))); replace HB := az (hb); have Xw5 := az (ho); clear Xl2; clear ho hb hg hat; obtain ⟨Xij, Cw, eo10⟩ := Kd.YZ Xw5.out; subst eo10; obtain ⟨EP, ER, ES⟩ := cz3 MK; obtain ⟨ET, EU, EW⟩ := fz3 MK; obtain ⟨X4r, X4s, X4t⟩ := cz3 Pn; have X4u := Xd Pn.out 0; have X4v := Xd Pn.out 1; have X4w := Xd Pn.out 2))
  refine bodyPost_ret (results_cell_row rfl _ _ XaR 56 #[.int .i64 X4, .int .i64 XB, .slice Xij Xus.length Cw] (0, 0) _ rfl (by (with_reducible repeat (first | apply bn | apply bd | apply ba)); refine XY (cs := #[.int .i64 X4, .int .i64 XB, .slice none 0 0]) ?_ 2 _ rfl; (with_reducible repeat (first | apply bn | apply bd | apply ba)); refine XY (cs := #[.int .i64 X4, .int .i64 0, .slice none 0 0]) ?_ 1 _ rfl; (with_reducible repeat (first | apply bn | apply bd | apply ba)); refine XY (cs := #[.int .i64 0, .int .i64 0, .slice none 0 0]) ?_ 0 _ rfl; (repeat (first | (with_reducible first | apply bn | apply bd | apply ba) | apply bf XaS)); exact Pn.out) Tryz.underlying56 rfl zb9) rfl ?_; exact ⟨_, zb4, by (with_reducible repeat (first | apply Kd.XU | apply Kd.XX | apply Kd.Yj)); exact Kd.Yz (Kd.Zo (p := ⟨XaR, 2, none⟩) (Kd.Zo (p := ⟨XaR, 1, none⟩) (Kd.Zo (p := ⟨XaR, 0, none⟩) (Kd.Zo (p := ⟨Xqs, 2, none⟩) (Kd.ZX (Kd.ZX Xw5.out MK.out (by decide)) Pn.out (by decide)) (fun _ hk => hk.1.2) (.slice Xij Xus.length Cw)) (fun _ hk => hk.2) (.int .i64 X4)) (fun _ hk => hk.2) (.int .i64 XB)) (fun _ hk => hk.2) (.slice Xij Xus.length Cw)) (fun _ hk => trivial), zb0⟩
 ·rw [if_neg c2] at H
  exact absurd H (by simp)
def Jg.f (a0 : Int) : Option (Bool) := if a0 = 1 then (some true) else (if a0 = 2 then (some true) else (some (a0 == 6)))
set_option maxHeartbeats 8000000 in
set_option maxRecDepth 100000 in
theorem Jg.calls (a0 : Int) (r : Bool) (w : World) (h : Jg.f a0 = some r) :
 Calls Tryz.prog 65 #[.int .i64 a0] w fun e w' => e = .returned (.bool r) ∧ Jc w w' := by
 have H : (if a0 = 1 then (some true) else (if a0 = 2 then (some true) else (some (a0 == 6)))) = some r := h; clear h
 by_cases c2 : a0 = 1
 ·rw [if_pos c2] at H
  have c2b0 : (a0 == 1) = true := beq_iff_eq.mpr c2; have c2b1 : (a0 != 1) = false := bne_eq_false_iff_eq.mpr c2; clear c2; obtain rfl := Option.some.inj H
  go_enter Tryz.func65, Tryz.ntmps65
  go_wp2
  go_ret
  exact ⟨zb6, zb11⟩
 ·rw [if_neg c2] at H
  have c2b0 : (a0 == 1) = false := beq_eq_false_iff_ne.mpr c2; have c2b1 : (a0 != 1) = true := bne_iff_ne.mpr c2
  by_cases c3 : a0 = 2
  ·rw [if_pos c3] at H
   have c3b0 : (a0 == 2) = true := beq_iff_eq.mpr c3; have c3b1 : (a0 != 2) = false := bne_eq_false_iff_eq.mpr c3; clear c3; obtain rfl := Option.some.inj H
   go_enter Tryz.func65, Tryz.ntmps65
   go_wp2
   go_ret
   exact ⟨zb6, zb11⟩
  ·rw [if_neg c3] at H
   have c3b0 : (a0 == 2) = false := beq_eq_false_iff_ne.mpr c3; have c3b1 : (a0 != 2) = true := bne_iff_ne.mpr c3; obtain rfl := Option.some.inj H
   go_enter Tryz.func65, Tryz.ntmps65
   go_wp2
   go_ret
   exact ⟨zb6, zb11⟩
def VY.f (X4 : Int) (XB : Int) (Xe : List Int) (Zu : Int) (Z5 : Int) (Vq : Int) (Zj : Int) (ZW : Int) (ZR : Int) (Vr : Int) (Vs : Int) (a2 : Int) : Option (Int × Int × List Int) := (JZ.f X4 XB Xe).bind fun Xl3 => (if Zj ≥ 0 then (if 0 ≤ Zj then (if Zj < (Xl3.2.2.length : Int) then (some (a2, Xl3.2.1, (Xl3.2.2.set (Zj : Int).toNat ZR))) else (none)) else (none)) else (if ZR = 0 then (if 3 ≤ 35184372088832 then (some (a2, ZR, (List.replicate 3 0))) else (none)) else (some (a2, ZR, Xl3.2.2))))
mutual
def XM.j0 : Nat → Bool → Int → Int → List Int → Option (Bool)
 | 0, _, _, _, _ => none
 | k + 1, x19, O7, Rs, SN => if x19 = true then (some false) else (XM.l0 k 0 O7 Rs SN)
def XM.l0 : Nat → Int → Int → Int → List Int → Option (Bool)
 | 0, _, _, _, _ => none
 | k + 1, x3, O7, Rs, SN => if x3 < (SN.length : Int) then (if 0 ≤ x3 then ((Zc.f (rd SN x3) 0 9).bind fun t160 => (if t160 = true then (if Rs = 0 then (if (rd SN x3) = 0 then (XM.l0 k (wrap64 (x3 + 1)) O7 Rs SN) else (some false)) else (XM.l0 k (wrap64 (x3 + 1)) O7 Rs SN)) else (some false))) else (none)) else (some true)
end
def XM.f (k : Nat) (X4 : Int) (XB : Int) (Xe : List Int) : Option (Bool) := (Zc.f X4 0 150).bind fun t157 => (if t157 = true then ((Zc.f XB 0 3).bind fun t158 => (if t158 = true then (XM.j0 k ((Xe.length : Int) != 3) X4 XB Xe) else (XM.j0 k true X4 XB Xe))) else (XM.j0 k true X4 XB Xe))
theorem XM.Dz : ∀ k, (∀ y0 y1 y2 y3, LeO (XM.j0 k y0 y1 y2 y3) (XM.j0 (k + 1) y0 y1 y2 y3)) ∧ (∀ y0 y1 y2 y3, LeO (XM.l0 k y0 y1 y2 y3) (XM.l0 (k + 1) y0 y1 y2 y3))
 | 0 => ⟨fun _ _ _ _ r h => by simp [XM.j0] at h, fun _ _ _ _ r h => by simp [XM.l0] at h⟩
 | k + 1 => by
  obtain ⟨ih0, ih1⟩ := XM.Dz k; refine ⟨?_, ?_⟩
  ·intro y0 y1 y2 y3
   unfold XM.j0
   repeat' first
   | (with_reducible exact ih0 _ _ _ _)
   | (with_reducible exact ih1 _ _ _ _)
   | (with_reducible exact LeO.refl _)
   | (with_reducible exact LeO.none _)
   | (with_reducible refine LeO.ite ?_ ?_)
   | (with_reducible refine LeO.bind ?_ (fun _ => ?_))
   | exact ih0 _ _ _ _
   | exact ih1 _ _ _ _
   | exact LeO.none _
   | refine LeO.ite ?_ ?_
   | refine LeO.bind ?_ (fun _ => ?_)
  ·intro y0 y1 y2 y3
   unfold XM.l0
   repeat' first
   | (with_reducible exact ih0 _ _ _ _)
   | (with_reducible exact ih1 _ _ _ _)
   | (with_reducible exact LeO.refl _)
   | (with_reducible exact LeO.none _)
   | (with_reducible refine LeO.ite ?_ ?_)
   | (with_reducible refine LeO.bind ?_ (fun _ => ?_))
   | exact ih0 _ _ _ _
   | exact ih1 _ _ _ _
   | exact LeO.none _
   | refine LeO.ite ?_ ?_
   | refine LeO.bind ?_ (fun _ => ?_)
theorem XM.mono : ∀ a0 a1 a2 k, LeO (XM.f k a0 a1 a2) (XM.f (k + 1) a0 a1 a2) := by
 intro a0 a1 a2 k; obtain ⟨ih0, ih1⟩ := XM.Dz k
 unfold XM.f
 repeat' first
  | (with_reducible exact ih0 _ _ _ _)
  | (with_reducible exact ih1 _ _ _ _)
  | (with_reducible exact LeO.refl _)
  | (with_reducible exact LeO.none _)
  | (with_reducible refine LeO.ite ?_ ?_)
  | (with_reducible refine LeO.bind ?_ (fun _ => ?_))
  | exact ih0 _ _ _ _
  | exact ih1 _ _ _ _
  | exact LeO.none _
  | refine LeO.ite ?_ ?_
  | refine LeO.bind ?_ (fun _ => ?_)
def Z4.j0 : Nat → Bool → Int → Int → Int → Int → Int → Int → Int → Int → Option (Bool)
 | 0, _, _, _, _, _, _, _, _, _ => none
 | k + 1, x13, X4x, X4y, X4z, Xut, Xl4, Xl5, X40, X41 => if x13 = true then (some false) else (if Xut < 0 then ((Zc.f Xl4 0 3).bind fun t167 => (if t167 = true then ((Zc.f Xl5 0 3).bind fun t168 => (some t168)) else (some false))) else ((Zc.f Xl4 0 9).bind fun t169 => (if t169 = true then ((Zc.f Xl5 0 9).bind fun t170 => (some t170)) else (some false))))
def Z4.f (k : Nat) (X4 : Int) (XB : Int) (Jb : Int) (Xo : Int) (Xp : Int) (J5 : Int) (Jn : Int) (J9 : Int) : Option (Bool) := (Zc.f Jb 0 4).bind fun t165 => (if t165 = true then ((Zc.f Xo (-1) 2).bind fun t166 => (Z4.j0 k (!t166) X4 XB Jb Xo Xp J5 Jn J9)) else (Z4.j0 k true X4 XB Jb Xo Xp J5 Jn J9))
theorem Z4.Dz : ∀ k, (∀ y0 y1 y2 y3 y4 y5 y6 y7 y8, LeO (Z4.j0 k y0 y1 y2 y3 y4 y5 y6 y7 y8) (Z4.j0 (k + 1) y0 y1 y2 y3 y4 y5 y6 y7 y8))
 | 0 => fun _ _ _ _ _ _ _ _ _ r h => by simp [Z4.j0] at h
 | k + 1 => by
  have ih0 := Z4.Dz k
  ·intro y0 y1 y2 y3 y4 y5 y6 y7 y8
   unfold Z4.j0
   repeat' first
   | (with_reducible exact ih0 _ _ _ _ _ _ _ _ _)
   | (with_reducible exact LeO.refl _)
   | (with_reducible exact LeO.none _)
   | (with_reducible refine LeO.ite ?_ ?_)
   | (with_reducible refine LeO.bind ?_ (fun _ => ?_))
   | exact ih0 _ _ _ _ _ _ _ _ _
   | exact LeO.none _
   | refine LeO.ite ?_ ?_
   | refine LeO.bind ?_ (fun _ => ?_)
theorem Z4.mono : ∀ a0 a1 a2 a3 a4 a5 a6 a7 k, LeO (Z4.f k a0 a1 a2 a3 a4 a5 a6 a7) (Z4.f (k + 1) a0 a1 a2 a3 a4 a5 a6 a7) := by
 intro a0 a1 a2 a3 a4 a5 a6 a7 k; have ih0 := Z4.Dz k
 unfold Z4.f
 repeat' first
  | (with_reducible exact ih0 _ _ _ _ _ _ _ _ _)
  | (with_reducible exact LeO.refl _)
  | (with_reducible exact LeO.none _)
  | (with_reducible refine LeO.ite ?_ ?_)
  | (with_reducible refine LeO.bind ?_ (fun _ => ?_))
  | exact ih0 _ _ _ _ _ _ _ _ _
  | exact LeO.none _
  | refine LeO.ite ?_ ?_
  | refine LeO.bind ?_ (fun _ => ?_)
def Zk.j0 : Nat → Bool → Int → Int → Int → Int → Int → Int → Int → Int → Option (Bool)
 | 0, _, _, _, _, _, _, _, _, _ => none
 | k + 1, x18, M3, XdZ, K7, Np, SQ, K8, Xea, Nq => if x18 = true then (some false) else (if M3 = 1 then ((Z4.f k M3 XdZ K7 Np SQ K8 Xea Nq).bind fun t175 => (if t175 = true then (if Np ≥ 0 then (some (Nq == 0)) else (some false)) else (some false))) else (if M3 = 2 then ((Z4.f k M3 XdZ K7 Np SQ K8 Xea Nq).bind fun t176 => (if t176 = true then (if Np < 0 then (some (Nq == 0)) else (some false)) else (some false))) else (if M3 = 6 then ((Z4.f k M3 XdZ K7 Np SQ K8 Xea Nq).bind fun t177 => (if t177 = true then (some (SQ == 0)) else (some false))) else (if M3 = 3 then ((Zc.f K7 0 4).bind fun t178 => (if t178 = true then (if Np = 0 then (if SQ = 0 then (if K8 = 0 then (some (Nq == 0)) else (some false)) else (some false)) else (some false)) else (some false))) else (if M3 = 4 then (if K7 = 0 then (if Np = 0 then (if SQ = 0 then (if K8 = 0 then (some (Nq == 0)) else (some false)) else (some false)) else (some false)) else (some false)) else (if M3 = 5 then (if K7 = 0 then (if Np = 0 then (if SQ = 0 then (if K8 = 0 then (some (Nq == 0)) else (some false)) else (some false)) else (some false)) else (some false)) else (some false)))))))
def Zk.f (k : Nat) (X4 : Int) (XB : Int) (Jb : Int) (Xo : Int) (Xp : Int) (J5 : Int) (Jn : Int) (J9 : Int) : Option (Bool) := (Zc.f XB 1 3).bind fun t172 => (if t172 = true then ((Zc.f Jn 0 150).bind fun t173 => (if t173 = true then ((Zc.f J9 0 150).bind fun t174 => (Zk.j0 k (!t174) X4 XB Jb Xo Xp J5 Jn J9)) else (Zk.j0 k true X4 XB Jb Xo Xp J5 Jn J9))) else (Zk.j0 k true X4 XB Jb Xo Xp J5 Jn J9))
theorem Zk.Dz : ∀ k, (∀ y0 y1 y2 y3 y4 y5 y6 y7 y8, LeO (Zk.j0 k y0 y1 y2 y3 y4 y5 y6 y7 y8) (Zk.j0 (k + 1) y0 y1 y2 y3 y4 y5 y6 y7 y8))
 | 0 => fun _ _ _ _ _ _ _ _ _ r h => by simp [Zk.j0] at h
 | k + 1 => by
  have ih0 := Zk.Dz k
  ·intro y0 y1 y2 y3 y4 y5 y6 y7 y8
   unfold Zk.j0
   repeat' first
   | (with_reducible exact ih0 _ _ _ _ _ _ _ _ _)
   | (with_reducible exact Z4.mono _ _ _ _ _ _ _ _ _)
   | (with_reducible exact LeO.refl _)
   | (with_reducible exact LeO.none _)
   | (with_reducible refine LeO.ite ?_ ?_)
   | (with_reducible refine LeO.bind ?_ (fun _ => ?_))
   | exact ih0 _ _ _ _ _ _ _ _ _
   | exact Z4.mono _ _ _ _ _ _ _ _ _
   | exact LeO.none _
   | refine LeO.ite ?_ ?_
   | refine LeO.bind ?_ (fun _ => ?_)
theorem Zk.mono : ∀ a0 a1 a2 a3 a4 a5 a6 a7 k, LeO (Zk.f k a0 a1 a2 a3 a4 a5 a6 a7) (Zk.f (k + 1) a0 a1 a2 a3 a4 a5 a6 a7) := by
 intro a0 a1 a2 a3 a4 a5 a6 a7 k; have ih0 := Zk.Dz k
 unfold Zk.f
 repeat' first
  | (with_reducible exact ih0 _ _ _ _ _ _ _ _ _)
  | (with_reducible exact Z4.mono _ _ _ _ _ _ _ _ _)
  | (with_reducible exact LeO.refl _)
  | (with_reducible exact LeO.none _)
  | (with_reducible refine LeO.ite ?_ ?_)
  | (with_reducible refine LeO.bind ?_ (fun _ => ?_))
  | exact ih0 _ _ _ _ _ _ _ _ _
  | exact Z4.mono _ _ _ _ _ _ _ _ _
  | exact LeO.none _
  | refine LeO.ite ?_ ?_
  | refine LeO.bind ?_ (fun _ => ?_)
def Fj.f (a0 : Int) (a1 : Int) (a2 : Int) : Option (Bool) := if a0 ≥ a1 then (some (decide (a0 ≤ a2))) else (some false)
set_option maxHeartbeats 8000000 in
set_option maxRecDepth 100000 in
theorem Fj.calls (a0 : Int) (a1 : Int) (a2 : Int) (r : Bool) (w : World) (h : Fj.f a0 a1 a2 = some r) :
 Calls Tryz.prog 37 #[.int .i64 a0, .int .i64 a1, .int .i64 a2] w fun e w' => e = .returned (.bool r) ∧ Jc w w' := by
 have H : (if a0 ≥ a1 then (some (decide (a0 ≤ a2))) else (some false)) = some r := h; clear h
 by_cases c4 : a0 ≥ a1
 ·rw [if_pos c4] at H
  have c4b0 : decide (a1 ≤ a0) = true := decide_eq_true c4; clear c4; obtain rfl := Option.some.inj H
  go_enter Tryz.func37, Tryz.ntmps37
  go_wp2
  go_ret
  exact ⟨zb6, zb11⟩
 ·rw [if_neg c4] at H
  have c4b0 : decide (a1 ≤ a0) = false := decide_eq_false c4; clear c4; obtain rfl := Option.some.inj H
  go_enter Tryz.func37, Tryz.ntmps37
  go_wp2
  go_ret
  exact ⟨zb6, zb11⟩
def ZG.f (l0 : List Int) : Option (List Int) := (some (([] : List Int) : List Int)).bind fun y365 => (if y365.length + l0.length < 17592186044416 then (some (y365 ++ l0)) else (none))
def Js.f (X4 : Int) (XB : Int) (Jb : Int) (Xo : Int) (Xp : Int) (J5 : Int) (Jn : Int) (J9 : Int) : Option (Bool) := if X4 = 1 then (some true) else (if X4 = 2 then (some true) else (some (X4 == 6)))
set_option maxHeartbeats 8000000 in
set_option maxRecDepth 100000 in
theorem Js.calls (X4 : Int) (XB : Int) (Jb : Int) (Xo : Int) (Xp : Int) (J5 : Int) (Jn : Int) (J9 : Int) (r : Bool) (w : World) (h : Js.f X4 XB Jb Xo Xp J5 Jn J9 = some r) :
 Calls Tryz.prog 68 #[.agg #[.int .i64 X4, .int .i64 XB, .int .i64 Jb, .int .i64 Xo, .int .i64 Xp, .int .i64 J5, .int .i64 Jn, .int .i64 J9]] w fun e w' => e = .returned (.bool r) ∧ Below w.heap.size w w' := by
 have hu76 := Tryz.underlying76; have HB := az (Below.refl w.heap.size w); have H : (if X4 = 1 then (some true) else (if X4 = 2 then (some true) else (some (X4 == 6)))) = some r := h; clear h
 by_cases c2 : X4 = 1
 ·rw [if_pos c2] at H
  have c2b0 : (X4 == 1) = true := beq_iff_eq.mpr c2; have c2b1 : (X4 != 1) = false := bne_eq_false_iff_eq.mpr c2; clear c2; obtain rfl := Option.some.inj H
  go_enter Tryz.func68, Tryz.ntmps68
  go_wp2_with (first | ((with_reducible refine Xn (N := 1) rfl ?_); refine Xl ?hg (N := 1) ?hd (cs := #[.int .i64 X4, .int .i64 XB, .int .i64 Jb, .int .i64 Xo, .int .i64 Xp, .int .i64 J5, .int .i64 Jn, .int .i64 J9]) (t := 76) ?hr ?_; (case hd => rfl); (case hg => rfl); (case hr => exact zb10); intro XfB hg w3 hbox hb; have Po := az (hbox); have XfC := az ((zb129 : w.heap.size ≤ XfB)); have Xw6 := XfC; replace HB := az (Xc zb1 hb); clear hb hbox hg; obtain ⟨hcz4_0, hcz4_1, hcz4_2, hcz4_3, hcz4_4, hcz4_5, hcz4_6, hcz4_7⟩ := cz8 Po; obtain ⟨hfz4_0, hfz4_1, hfz4_2, hfz4_3, hfz4_4, hfz4_5, hfz4_6⟩ := fz7 Po; have hfz4_7 := Xd Po.out 7))
  go_ret
  exact ⟨zb4, zb0⟩
 ·rw [if_neg c2] at H
  have c2b0 : (X4 == 1) = false := beq_eq_false_iff_ne.mpr c2; have c2b1 : (X4 != 1) = true := bne_iff_ne.mpr c2
  by_cases c5 : X4 = 2
  ·rw [if_pos c5] at H
   have c5b0 : (X4 == 2) = true := beq_iff_eq.mpr c5; have c5b1 : (X4 != 2) = false := bne_eq_false_iff_eq.mpr c5; clear c5; obtain rfl := Option.some.inj H
   go_enter Tryz.func68, Tryz.ntmps68
   go_wp2_with (first | ((with_reducible refine Xn (N := 1) rfl ?_); refine Xl ?hg (N := 1) ?hd (cs := #[.int .i64 X4, .int .i64 XB, .int .i64 Jb, .int .i64 Xo, .int .i64 Xp, .int .i64 J5, .int .i64 Jn, .int .i64 J9]) (t := 76) ?hr ?_; (case hd => rfl); (case hg => rfl); (case hr => exact zb10); intro XfB hg w6 hbox hb; have Po := az (hbox); have XfC := az ((zb129 : w.heap.size ≤ XfB)); have Xw6 := XfC; replace HB := az (Xc zb1 hb); clear hb hbox hg; obtain ⟨Xc9, XcA, XcB, XcC, XcD, Xhp, Xhq, Xhr⟩ := cz8 Po; obtain ⟨XcE, XcF, XcG, XcH, XcI, Xhs, Xht⟩ := fz7 Po; have Xhu := Xd Po.out 7))
   go_ret
   exact ⟨zb4, zb0⟩
  ·rw [if_neg c5] at H
   have c5b0 : (X4 == 2) = false := beq_eq_false_iff_ne.mpr c5; have c5b1 : (X4 != 2) = true := bne_iff_ne.mpr c5; obtain rfl := Option.some.inj H
   go_enter Tryz.func68, Tryz.ntmps68
   go_wp2_with (first | ((with_reducible refine Xn (N := 1) rfl ?_); refine Xl ?hg (N := 1) ?hd (cs := #[.int .i64 X4, .int .i64 XB, .int .i64 Jb, .int .i64 Xo, .int .i64 Xp, .int .i64 J5, .int .i64 Jn, .int .i64 J9]) (t := 76) ?hr ?_; (case hd => rfl); (case hg => rfl); (case hr => exact zb10); intro XfB hg w8 hbox hb; have Po := az (hbox); have XfC := az ((zb129 : w.heap.size ≤ XfB)); have Xw6 := XfC; replace HB := az (Xc zb1 hb); clear hb hbox hg; obtain ⟨WY, WZ, Pb, LC, LD, I1, I4, I5⟩ := cz8 Po; obtain ⟨Pd, Pe, Pf, LF, LG, I6, I7⟩ := fz7 Po; have I8 := Xd Po.out 7))
   go_ret
   exact ⟨zb4, zb0⟩
mutual
def Yf.j0 : Nat → Bool → Int → Int → List Int → Option (Bool)
 | 0, _, _, _, _ => none
 | k + 1, x19, O8, Rt, SS => if x19 = true then (some false) else (Yf.l0 k 0 O8 Rt SS)
def Yf.l0 : Nat → Int → Int → Int → List Int → Option (Bool)
 | 0, _, _, _, _ => none
 | k + 1, x3, O8, Rt, SS => if x3 < (SS.length : Int) then (if 0 ≤ x3 then ((Zc.f (rd SS x3) 0 9).bind fun t451 => (if t451 = true then (if Rt = 0 then (if (rd SS x3) = 0 then (Yf.l0 k (wrap64 (x3 + 1)) O8 Rt SS) else (some false)) else (Yf.l0 k (wrap64 (x3 + 1)) O8 Rt SS)) else (some false))) else (none)) else (some true)
end
def Yf.f (k : Nat) (X4 : Int) (XB : Int) (Xe : List Int) : Option (Bool) := (Zc.f X4 0 150).bind fun t448 => (if t448 = true then ((Zc.f XB 0 3).bind fun t449 => (if t449 = true then (Yf.j0 k ((Xe.length : Int) != 3) X4 XB Xe) else (Yf.j0 k true X4 XB Xe))) else (Yf.j0 k true X4 XB Xe))
theorem Yf.Dz : ∀ k, (∀ y0 y1 y2 y3, LeO (Yf.j0 k y0 y1 y2 y3) (Yf.j0 (k + 1) y0 y1 y2 y3)) ∧ (∀ y0 y1 y2 y3, LeO (Yf.l0 k y0 y1 y2 y3) (Yf.l0 (k + 1) y0 y1 y2 y3))
 | 0 => ⟨fun _ _ _ _ r h => by simp [Yf.j0] at h, fun _ _ _ _ r h => by simp [Yf.l0] at h⟩
 | k + 1 => by
  obtain ⟨ih0, ih1⟩ := Yf.Dz k; refine ⟨?_, ?_⟩
  ·intro y0 y1 y2 y3
   unfold Yf.j0
   repeat' first
   | (with_reducible exact ih0 _ _ _ _)
   | (with_reducible exact ih1 _ _ _ _)
   | (with_reducible exact LeO.refl _)
   | (with_reducible exact LeO.none _)
   | (with_reducible refine LeO.ite ?_ ?_)
   | (with_reducible refine LeO.bind ?_ (fun _ => ?_))
   | exact ih0 _ _ _ _
   | exact ih1 _ _ _ _
   | exact LeO.none _
   | refine LeO.ite ?_ ?_
   | refine LeO.bind ?_ (fun _ => ?_)
  ·intro y0 y1 y2 y3
   unfold Yf.l0
   repeat' first
   | (with_reducible exact ih0 _ _ _ _)
   | (with_reducible exact ih1 _ _ _ _)
   | (with_reducible exact LeO.refl _)
   | (with_reducible exact LeO.none _)
   | (with_reducible refine LeO.ite ?_ ?_)
   | (with_reducible refine LeO.bind ?_ (fun _ => ?_))
   | exact ih0 _ _ _ _
   | exact ih1 _ _ _ _
   | exact LeO.none _
   | refine LeO.ite ?_ ?_
   | refine LeO.bind ?_ (fun _ => ?_)
theorem Yf.mono : ∀ a0 a1 a2 k, LeO (Yf.f k a0 a1 a2) (Yf.f (k + 1) a0 a1 a2) := by
 intro a0 a1 a2 k; obtain ⟨ih0, ih1⟩ := Yf.Dz k
 unfold Yf.f
 repeat' first
  | (with_reducible exact ih0 _ _ _ _)
  | (with_reducible exact ih1 _ _ _ _)
  | (with_reducible exact LeO.refl _)
  | (with_reducible exact LeO.none _)
  | (with_reducible refine LeO.ite ?_ ?_)
  | (with_reducible refine LeO.bind ?_ (fun _ => ?_))
  | exact ih0 _ _ _ _
  | exact ih1 _ _ _ _
  | exact LeO.none _
  | refine LeO.ite ?_ ?_
  | refine LeO.bind ?_ (fun _ => ?_)
end Go.Proofs.YtphnphmbfogmlaaGreat.Pr
