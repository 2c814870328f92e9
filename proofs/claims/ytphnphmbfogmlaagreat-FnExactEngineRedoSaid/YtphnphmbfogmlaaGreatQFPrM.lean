import Derived.Test.YtphnphmbfogmlaaGreatQFByq
import Derived.Test.YtphnphmbfogmlaaGreatQFPrK
import Derived.Test.YtphnphmbfogmlaaGreatQFSx
namespace Go.Proofs.YtphnphmbfogmlaaGreat.Pr
open Go.RowKit Go.PW Go.PL Go.PM
attribute [local go_sem] Y3 Y4 YN YO Ya Yb Y5 Y6
set_option linter.unusedVariables false
set_option linter.unusedSimpArgs false
def Zu.f (a0 : Int) (a1 : Int) (a2 : Int) : Option (Bool) := if a0 ≥ a1 then (some (decide (a0 ≤ a2))) else (some false)
set_option maxHeartbeats 8000000 in
set_option maxRecDepth 100000 in
theorem Zu.calls (a0 : Int) (a1 : Int) (a2 : Int) (r : Bool) (w : World) (h : Zu.f a0 a1 a2 = some r) :
 Calls Tryz.prog 30 #[.int .i64 a0, .int .i64 a1, .int .i64 a2] w fun e w' => e = .returned (.bool r) ∧ ZE w w' := by
 have H : (if a0 ≥ a1 then (some (decide (a0 ≤ a2))) else (some false)) = some r := h; clear h
 by_cases c4 : a0 ≥ a1
 ·rw [if_pos c4] at H
  have c4b0 : decide (a1 ≤ a0) = true := decide_eq_true c4; clear c4; obtain rfl := Option.some.inj H
  go_enter Tryz.func30, Tryz.ntmps30
  go_wp2
  go_ret
  exact ⟨zb5, zb9⟩
 ·rw [if_neg c4] at H
  have c4b0 : decide (a1 ≤ a0) = false := decide_eq_false c4; clear c4; obtain rfl := Option.some.inj H
  go_enter Tryz.func30, Tryz.ntmps30
  go_wp2
  go_ret
  exact ⟨zb5, zb9⟩
def JC.f (Xu : Int) (Xy : Int) (Xm : List Int) : Option (Int × Int × List Int) := (some (([] : List Int) : List Int)).bind fun Bd => (if Bd.length + Xm.length < 17592186044416 then (some (Xu, Xy, (Bd ++ Xm))) else (none))
set_option maxHeartbeats 8000000 in
set_option maxRecDepth 100000 in
theorem JC.calls (Xu : Int) (Xy : Int) (Yg : Option Addr) (Yh : Nat) (Xm : List Int) (r1 : Int) (r2 : Int) (r3 : List Int) (w : World) (hr0_2 : Kd.C (Kd.int .i64) w Yg Xm.length Xm) (hc0_2 : Xm.length ≤ Yh) (h : JC.f Xu Xy Xm = some (r1, r2, r3)) :
 Calls Tryz.prog 95 #[.agg #[.int .i64 Xu, .int .i64 Xy, .slice Yg Xm.length Yh]] w fun e w' => ∃ v2_ : Value, e = .returned (.agg #[.int .i64 r1, .int .i64 r2, v2_]) ∧ Kd.R (Kd.int .i64) 3 w' w.heap.size (fun _ => True) v2_ r3 ∧ Below w.heap.size w w' := by
 have hu56 := Tryz.underlying56; have U6 := az hr0_2; have JI := az hc0_2; clear hr0_2 hc0_2; have HB := az (Below.refl w.heap.size w); have H : ((some (([] : List Int) : List Int)).bind fun Bd => (if Bd.length + Xm.length < 17592186044416 then (some (Xu, Xy, (Bd ++ Xm))) else (none))) = some (r1, r2, r3) := h; clear h
 obtain ⟨Bd, hy111⟩ : ∃ y_ : List Int, y_ = (([] : List Int)) := ⟨_, rfl⟩
 replace H : (if Bd.length + Xm.length < 17592186044416 then (some (Xu, Xy, (Bd ++ Xm))) else (none)) = some (r1, r2, r3) := by first | (rw [hy111]; with_reducible exact H) | (have H2_ := (Option.bind_some _ _).symm.trans H; rw [hy111]; with_reducible exact H2_) | (have H2_ := (Option.bind_some _ _).symm.trans H; with_reducible exact H2_) | with_reducible exact H | (rw [hy111]; exact H) | exact H
 have Ny111 := az hy111; clear hy111
 by_cases c2 : Bd.length + Xm.length < 17592186044416
 ·rw [if_pos c2] at H
  have LMc2 := az c2; clear c2
  obtain ⟨Xpv, hy114⟩ : ∃ y_ : List Int, y_ = (Bd ++ Xm) := ⟨_, rfl⟩
  replace H : (some (Xu, Xy, Xpv)) = some (r1, r2, r3) := by first | (rw [hy114]; with_reducible exact H) | (have H2_ := (Option.bind_some _ _).symm.trans H; rw [hy114]; with_reducible exact H2_) | (have H2_ := (Option.bind_some _ _).symm.trans H; with_reducible exact H2_) | with_reducible exact H | (rw [hy114]; exact H) | exact H
  have Ny114 := az hy114; clear hy114; simp only [Option.some.injEq, Prod.mk.injEq] at H; obtain ⟨rfl, rfl, rfl⟩ := H
  go_enter Tryz.func95, Tryz.ntmps95
  go_wp2_with (first | ((with_reducible refine Xp (N := 1) rfl ?_); refine Xn ?hg (N := 1) ?hd (cs := #[.int .i64 Xu, .int .i64 Xy, .slice Yg Xm.length Yh]) (t := 56) ?hr ?_; (case hd => rfl); (case hg => rfl); (case hr => exact zb7); intro Xmg hg w3 hbox hb; have Ur := az (hbox); have Xv4 := az ((zb95 : w.heap.size ≤ Xmg)); have GE109 := Xv4; replace HB := az (Xc zb0 hb); clear hb hbox hg) | ((with_reducible refine Xp (N := 2) rfl ?_); refine Xn ?hg (N := 2) ?hd (cs := #[.int .i64 0, .int .i64 0, .slice none 0 0]) (t := 56) ?hr ?_; (case hd => rfl); (case hg => rfl); (case hr => exact zb7); intro OJ hg w4 hbox hb; have Na := az (hbox); have Xv5 := az ((zb97 : w.heap.size ≤ OJ)); have GE110 := Xv5; replace HB := az (Xc zb1 hb); obtain ⟨Xko, OL⟩ := nb Ur hg (fun h => by (with_reducible repeat (first | apply bn | apply bd | apply ba)); exact h); replace Ur := bb Ur (fun h => by (with_reducible repeat (first | apply bn | apply bd | apply ba)); exact h) hb; clear hb hbox hg) | ((with_reducible refine Xp (N := 3) rfl ?_); refine Kd.Xco (Kd.int .i64) _ 3 ?hg (N := 3) ?hd (xs := ([] : List Int)) (inner := []) (ok := fun _ => True) (okp := fun _ => True) ?hr ?hp (fun _ hk => hk) trivial (Below.refl _ _) (Nat.le_refl _) (by simp) ?_; (case hd => rfl); (case hg => rfl); (case hr => exact zb7); (case hp => exact (Zt.none _ _)); intro v112 w5 ho6 hb hg_ hnew_; clear hg_ hnew_; (first | rw [← Ny111.out] at ho6 | (simp only [Int.reduceToNat] at ho6; rw [← Ny111.out] at ho6)); have XhB := az (Kd.YY ho6 (XA zb1)); replace Ur := bb Ur (fun h => by (with_reducible repeat (first | apply bn | apply bd | apply ba)); exact h) hb; replace Na := bb Na (fun h => by (with_reducible repeat (first | apply bn | apply bd | apply ba)); exact h) hb; replace HB := az (Xc zb1 hb); clear hb ho6; have hnb7 := Xko.out; have hnc7 := OL.out; obtain ⟨Ci, Cj, Ck⟩ := cz3 Ur; have Cm := Xe Ur.out 0; have Cn := Xe Ur.out 1; have Co := Xe Ur.out 2) | ((with_reducible refine Z0 (b := .append) (xs := #[.tmp 3, .tmp 5]) rfl ?_); at_builtin; refine Kd.SN (Kd.int .i64) (w0 := w) w.heap.size rfl (.tmp 3) (.tmp 5) 37 3 (.int .i64 0) 8 rfl Tryz.underlying37 info3 rfl (by decide) (by omega) v112 Bd Xm _ _ _ (fun _ => True) (fun _ => False) rfl rfl ?aO ?aR (fun _ _ h => h) (fun _ h => h.elim) ?aF ?aB ?aS ?aL ?_; (case aR => exact zb8); (case aB => exact zb1); (case aF => exact zb89); (case aO => exact (by (with_reducible repeat (first | apply Kd.Yp | apply Kd.Y0 | apply Kd.YC)); exact XhB.out)); (case aS => exact (XA zb1)); (case aL => have := LMc2.out; omega); intro v115 w9 ho hb hg hat; rw [← Ny114.out] at ho; replace Ur := az (JQ (g := Xmg) (o := .cells #[.int .i64 Xu, .int .i64 Xy, .slice Yg Xm.length Yh] 56 (0, 0)) (by (with_reducible repeat (first | apply bn | apply bd | apply ba)); exact Ur.out) hg (Kd.O4 XhB.out Ur.out (by decide))); replace Na := az (JQ (g := OJ) (o := .cells #[.int .i64 0, .int .i64 0, .slice none 0 0] 56 (0, 0)) (by (with_reducible repeat (first | apply bn | apply bd | apply ba)); exact Na.out) hg (Kd.O4 XhB.out Na.out (by decide))); replace HB := az (hb); have Xsb := az (ho); clear XhB; clear ho hb hg hat; obtain ⟨XeJ, Kw, eo10⟩ := Kd.Y2 Xsb.out; subst eo10; obtain ⟨XhC, XhD, XhE⟩ := cz3 Ur; obtain ⟨XhF, XhG, XhH⟩ := fz3 Ur; obtain ⟨Xzn, Xzo, Xzp⟩ := cz3 Na; have Xzq := Xe Na.out 0; have Xzr := Xe Na.out 1; have Xzs := Xe Na.out 2))
  refine bodyPost_ret (results_cell_row rfl _ _ OJ 56 #[.int .i64 Xu, .int .i64 Xy, .slice XeJ Xpv.length Kw] (0, 0) _ rfl (by (with_reducible repeat (first | apply bn | apply bd | apply ba)); refine XX (cs := #[.int .i64 Xu, .int .i64 Xy, .slice none 0 0]) ?_ 2 _ rfl; (with_reducible repeat (first | apply bn | apply bd | apply ba)); refine XX (cs := #[.int .i64 Xu, .int .i64 0, .slice none 0 0]) ?_ 1 _ rfl; (with_reducible repeat (first | apply bn | apply bd | apply ba)); refine XX (cs := #[.int .i64 0, .int .i64 0, .slice none 0 0]) ?_ 0 _ rfl; (repeat (first | (with_reducible first | apply bn | apply bd | apply ba) | apply bf OL)); exact Na.out) Tryz.underlying56 rfl zb6) rfl ?_; exact ⟨_, zb4, by (with_reducible repeat (first | apply Kd.Yp | apply Kd.Y0 | apply Kd.YC)); exact Kd.XZ (Kd.YZ (p := ⟨OJ, 2, none⟩) (Kd.YZ (p := ⟨OJ, 1, none⟩) (Kd.YZ (p := ⟨OJ, 0, none⟩) (Kd.YZ (p := ⟨Xmg, 2, none⟩) (Kd.ZY (Kd.ZY Xsb.out Ur.out (by decide)) Na.out (by decide)) (fun _ hk => hk.1.2) (.slice XeJ Xpv.length Kw)) (fun _ hk => hk.2) (.int .i64 Xu)) (fun _ hk => hk.2) (.int .i64 Xy)) (fun _ hk => hk.2) (.slice XeJ Xpv.length Kw)) (fun _ hk => trivial), zb1⟩
 ·rw [if_neg c2] at H
  exact absurd H (by simp)
def ZP.f (a0 : Int) : Option (Bool) := if a0 = 1 then (some true) else (if a0 = 2 then (some true) else (some (a0 == 6)))
set_option maxHeartbeats 8000000 in
set_option maxRecDepth 100000 in
theorem ZP.calls (a0 : Int) (r : Bool) (w : World) (h : ZP.f a0 = some r) :
 Calls Tryz.prog 65 #[.int .i64 a0] w fun e w' => e = .returned (.bool r) ∧ ZE w w' := by
 have H : (if a0 = 1 then (some true) else (if a0 = 2 then (some true) else (some (a0 == 6)))) = some r := h; clear h
 by_cases c2 : a0 = 1
 ·rw [if_pos c2] at H
  have c2b0 : (a0 == 1) = true := beq_iff_eq.mpr c2; have c2b1 : (a0 != 1) = false := bne_eq_false_iff_eq.mpr c2; clear c2; obtain rfl := Option.some.inj H
  go_enter Tryz.func65, Tryz.ntmps65
  go_wp2
  go_ret
  exact ⟨zb5, zb9⟩
 ·rw [if_neg c2] at H
  have c2b0 : (a0 == 1) = false := beq_eq_false_iff_ne.mpr c2; have c2b1 : (a0 != 1) = true := bne_iff_ne.mpr c2
  by_cases c3 : a0 = 2
  ·rw [if_pos c3] at H
   have c3b0 : (a0 == 2) = true := beq_iff_eq.mpr c3; have c3b1 : (a0 != 2) = false := bne_eq_false_iff_eq.mpr c3; clear c3; obtain rfl := Option.some.inj H
   go_enter Tryz.func65, Tryz.ntmps65
   go_wp2
   go_ret
   exact ⟨zb5, zb9⟩
  ·rw [if_neg c3] at H
   have c3b0 : (a0 == 2) = false := beq_eq_false_iff_ne.mpr c3; have c3b1 : (a0 != 2) = true := bne_iff_ne.mpr c3; obtain rfl := Option.some.inj H
   go_enter Tryz.func65, Tryz.ntmps65
   go_wp2
   go_ret
   exact ⟨zb5, zb9⟩
def VD.f (Xu : Int) (Xy : Int) (Xm : List Int) (Zd : Int) (Zk : Int) (Vd : Int) (YU : Int) (ZI : Int) (ZA : Int) (Ve : Int) (Vf : Int) (a2 : Int) : Option (Int × Int × List Int) := (JC.f Xu Xy Xm).bind fun XhI => (if YU ≥ 0 then (if 0 ≤ YU then (if YU < (XhI.2.2.length : Int) then (some (a2, XhI.2.1, (XhI.2.2.set (YU : Int).toNat ZA))) else (none)) else (none)) else (if ZA = 0 then (if 3 ≤ 35184372088832 then (some (a2, ZA, (List.replicate 3 0))) else (none)) else (some (a2, ZA, XhI.2.2))))
mutual
def XC.j0 : Nat → Bool → Int → Int → List Int → Option (Bool)
 | 0, _, _, _, _ => none
 | k + 1, x19, RF, Po, M3 => if x19 = true then (some false) else (XC.l0 k 0 RF Po M3)
def XC.l0 : Nat → Int → Int → Int → List Int → Option (Bool)
 | 0, _, _, _, _ => none
 | k + 1, x3, RF, Po, M3 => if x3 < (M3.length : Int) then (if 0 ≤ x3 then ((Zu.f (rd M3 x3) 0 9).bind fun t160 => (if t160 = true then (if Po = 0 then (if (rd M3 x3) = 0 then (XC.l0 k (wrap64 (x3 + 1)) RF Po M3) else (some false)) else (XC.l0 k (wrap64 (x3 + 1)) RF Po M3)) else (some false))) else (none)) else (some true)
end
def XC.f (k : Nat) (Xu : Int) (Xy : Int) (Xm : List Int) : Option (Bool) := (Zu.f Xu 0 150).bind fun t157 => (if t157 = true then ((Zu.f Xy 0 3).bind fun t158 => (if t158 = true then (XC.j0 k ((Xm.length : Int) != 3) Xu Xy Xm) else (XC.j0 k true Xu Xy Xm))) else (XC.j0 k true Xu Xy Xm))
theorem XC.VZ : ∀ k, (∀ y0 y1 y2 y3, LeO (XC.j0 k y0 y1 y2 y3) (XC.j0 (k + 1) y0 y1 y2 y3)) ∧ (∀ y0 y1 y2 y3, LeO (XC.l0 k y0 y1 y2 y3) (XC.l0 (k + 1) y0 y1 y2 y3))
 | 0 => ⟨fun _ _ _ _ r h => by simp [XC.j0] at h, fun _ _ _ _ r h => by simp [XC.l0] at h⟩
 | k + 1 => by
  obtain ⟨ih0, ih1⟩ := XC.VZ k; refine ⟨?_, ?_⟩
  ·intro y0 y1 y2 y3
   unfold XC.j0
   repeat' first
   | (with_reducible exact ih0 _ _ _ _)
   | (with_reducible exact ih1 _ _ _ _)
   | (with_reducible exact LeO.refl _)
   | (with_reducible exact LeO.none _)
   | (with_reducible refine LeO.ite ?_ ?_)
   | (with_reducible refine LeO.bind ?_ (fun _ => ?_))
   | exact ih0 _ _ _ _
   | exact ih1 _ _ _ _
   | exact LeO.none _
   | refine LeO.ite ?_ ?_
   | refine LeO.bind ?_ (fun _ => ?_)
  ·intro y0 y1 y2 y3
   unfold XC.l0
   repeat' first
   | (with_reducible exact ih0 _ _ _ _)
   | (with_reducible exact ih1 _ _ _ _)
   | (with_reducible exact LeO.refl _)
   | (with_reducible exact LeO.none _)
   | (with_reducible refine LeO.ite ?_ ?_)
   | (with_reducible refine LeO.bind ?_ (fun _ => ?_))
   | exact ih0 _ _ _ _
   | exact ih1 _ _ _ _
   | exact LeO.none _
   | refine LeO.ite ?_ ?_
   | refine LeO.bind ?_ (fun _ => ?_)
theorem XC.mono : ∀ a0 a1 a2 k, LeO (XC.f k a0 a1 a2) (XC.f (k + 1) a0 a1 a2) := by
 intro a0 a1 a2 k; obtain ⟨ih0, ih1⟩ := XC.VZ k
 unfold XC.f
 repeat' first
  | (with_reducible exact ih0 _ _ _ _)
  | (with_reducible exact ih1 _ _ _ _)
  | (with_reducible exact LeO.refl _)
  | (with_reducible exact LeO.none _)
  | (with_reducible refine LeO.ite ?_ ?_)
  | (with_reducible refine LeO.bind ?_ (fun _ => ?_))
  | exact ih0 _ _ _ _
  | exact ih1 _ _ _ _
  | exact LeO.none _
  | refine LeO.ite ?_ ?_
  | refine LeO.bind ?_ (fun _ => ?_)
def Zi.j0 : Nat → Bool → Int → Int → Int → Int → Int → Int → Int → Int → Option (Bool)
 | 0, _, _, _, _, _, _, _, _, _ => none
 | k + 1, x13, Xzt, Xzu, Xzv, Xpw, XhJ, XhK, Xzw, Xzx => if x13 = true then (some false) else (if Xpw < 0 then ((Zu.f XhJ 0 3).bind fun t167 => (if t167 = true then ((Zu.f XhK 0 3).bind fun t168 => (some t168)) else (some false))) else ((Zu.f XhJ 0 9).bind fun t169 => (if t169 = true then ((Zu.f XhK 0 9).bind fun t170 => (some t170)) else (some false))))
def Zi.f (k : Nat) (Xu : Int) (Xy : Int) (ZM : Int) (Yu : Int) (Yt : Int) (Jk : Int) (ZU : Int) (Js : Int) : Option (Bool) := (Zu.f ZM 0 4).bind fun t165 => (if t165 = true then ((Zu.f Yu (-1) 2).bind fun t166 => (Zi.j0 k (!t166) Xu Xy ZM Yu Yt Jk ZU Js)) else (Zi.j0 k true Xu Xy ZM Yu Yt Jk ZU Js))
theorem Zi.VZ : ∀ k, (∀ y0 y1 y2 y3 y4 y5 y6 y7 y8, LeO (Zi.j0 k y0 y1 y2 y3 y4 y5 y6 y7 y8) (Zi.j0 (k + 1) y0 y1 y2 y3 y4 y5 y6 y7 y8))
 | 0 => fun _ _ _ _ _ _ _ _ _ r h => by simp [Zi.j0] at h
 | k + 1 => by
  have ih0 := Zi.VZ k
  ·intro y0 y1 y2 y3 y4 y5 y6 y7 y8
   unfold Zi.j0
   repeat' first
   | (with_reducible exact ih0 _ _ _ _ _ _ _ _ _)
   | (with_reducible exact LeO.refl _)
   | (with_reducible exact LeO.none _)
   | (with_reducible refine LeO.ite ?_ ?_)
   | (with_reducible refine LeO.bind ?_ (fun _ => ?_))
   | exact ih0 _ _ _ _ _ _ _ _ _
   | exact LeO.none _
   | refine LeO.ite ?_ ?_
   | refine LeO.bind ?_ (fun _ => ?_)
theorem Zi.mono : ∀ a0 a1 a2 a3 a4 a5 a6 a7 k, LeO (Zi.f k a0 a1 a2 a3 a4 a5 a6 a7) (Zi.f (k + 1) a0 a1 a2 a3 a4 a5 a6 a7) := by
 intro a0 a1 a2 a3 a4 a5 a6 a7 k; have ih0 := Zi.VZ k
 unfold Zi.f
 repeat' first
  | (with_reducible exact ih0 _ _ _ _ _ _ _ _ _)
  | (with_reducible exact LeO.refl _)
  | (with_reducible exact LeO.none _)
  | (with_reducible refine LeO.ite ?_ ?_)
  | (with_reducible refine LeO.bind ?_ (fun _ => ?_))
  | exact ih0 _ _ _ _ _ _ _ _ _
  | exact LeO.none _
  | refine LeO.ite ?_ ?_
  | refine LeO.bind ?_ (fun _ => ?_)
def YV.j0 : Nat → Bool → Int → Int → Int → Int → Int → Int → Int → Int → Option (Bool)
 | 0, _, _, _, _, _, _, _, _, _ => none
 | k + 1, x18, Uc, XaL, Sc, U9, M4, Sd, XaM, UA => if x18 = true then (some false) else (if Uc = 1 then ((Zi.f k Uc XaL Sc U9 M4 Sd XaM UA).bind fun t175 => (if t175 = true then (if U9 ≥ 0 then (some (UA == 0)) else (some false)) else (some false))) else (if Uc = 2 then ((Zi.f k Uc XaL Sc U9 M4 Sd XaM UA).bind fun t176 => (if t176 = true then (if U9 < 0 then (some (UA == 0)) else (some false)) else (some false))) else (if Uc = 6 then ((Zi.f k Uc XaL Sc U9 M4 Sd XaM UA).bind fun t177 => (if t177 = true then (some (M4 == 0)) else (some false))) else (if Uc = 3 then ((Zu.f Sc 0 4).bind fun t178 => (if t178 = true then (if U9 = 0 then (if M4 = 0 then (if Sd = 0 then (some (UA == 0)) else (some false)) else (some false)) else (some false)) else (some false))) else (if Uc = 4 then (if Sc = 0 then (if U9 = 0 then (if M4 = 0 then (if Sd = 0 then (some (UA == 0)) else (some false)) else (some false)) else (some false)) else (some false)) else (if Uc = 5 then (if Sc = 0 then (if U9 = 0 then (if M4 = 0 then (if Sd = 0 then (some (UA == 0)) else (some false)) else (some false)) else (some false)) else (some false)) else (some false)))))))
def YV.f (k : Nat) (Xu : Int) (Xy : Int) (ZM : Int) (Yu : Int) (Yt : Int) (Jk : Int) (ZU : Int) (Js : Int) : Option (Bool) := (Zu.f Xy 1 3).bind fun t172 => (if t172 = true then ((Zu.f ZU 0 150).bind fun t173 => (if t173 = true then ((Zu.f Js 0 150).bind fun t174 => (YV.j0 k (!t174) Xu Xy ZM Yu Yt Jk ZU Js)) else (YV.j0 k true Xu Xy ZM Yu Yt Jk ZU Js))) else (YV.j0 k true Xu Xy ZM Yu Yt Jk ZU Js))
theorem YV.VZ : ∀ k, (∀ y0 y1 y2 y3 y4 y5 y6 y7 y8, LeO (YV.j0 k y0 y1 y2 y3 y4 y5 y6 y7 y8) (YV.j0 (k + 1) y0 y1 y2 y3 y4 y5 y6 y7 y8))
 | 0 => fun _ _ _ _ _ _ _ _ _ r h => by simp [YV.j0] at h
 | k + 1 => by
  have ih0 := YV.VZ k
  ·intro y0 y1 y2 y3 y4 y5 y6 y7 y8
   unfold YV.j0
   repeat' first
   | (with_reducible exact ih0 _ _ _ _ _ _ _ _ _)
   | (with_reducible exact Zi.mono _ _ _ _ _ _ _ _ _)
   | (with_reducible exact LeO.refl _)
   | (with_reducible exact LeO.none _)
   | (with_reducible refine LeO.ite ?_ ?_)
   | (with_reducible refine LeO.bind ?_ (fun _ => ?_))
   | exact ih0 _ _ _ _ _ _ _ _ _
   | exact Zi.mono _ _ _ _ _ _ _ _ _
   | exact LeO.none _
   | refine LeO.ite ?_ ?_
   | refine LeO.bind ?_ (fun _ => ?_)
theorem YV.mono : ∀ a0 a1 a2 a3 a4 a5 a6 a7 k, LeO (YV.f k a0 a1 a2 a3 a4 a5 a6 a7) (YV.f (k + 1) a0 a1 a2 a3 a4 a5 a6 a7) := by
 intro a0 a1 a2 a3 a4 a5 a6 a7 k; have ih0 := YV.VZ k
 unfold YV.f
 repeat' first
  | (with_reducible exact ih0 _ _ _ _ _ _ _ _ _)
  | (with_reducible exact Zi.mono _ _ _ _ _ _ _ _ _)
  | (with_reducible exact LeO.refl _)
  | (with_reducible exact LeO.none _)
  | (with_reducible refine LeO.ite ?_ ?_)
  | (with_reducible refine LeO.bind ?_ (fun _ => ?_))
  | exact ih0 _ _ _ _ _ _ _ _ _
  | exact Zi.mono _ _ _ _ _ _ _ _ _
  | exact LeO.none _
  | refine LeO.ite ?_ ?_
  | refine LeO.bind ?_ (fun _ => ?_)
def Zq.f (l0 : List Int) : Option (List Int) := (some (([] : List Int) : List Int)).bind fun y365 => (if y365.length + l0.length < 17592186044416 then (some (y365 ++ l0)) else (none))
def ZX.f (Xu : Int) (Xy : Int) (ZM : Int) (Yu : Int) (Yt : Int) (Jk : Int) (ZU : Int) (Js : Int) : Option (Bool) := if Xu = 1 then (some true) else (if Xu = 2 then (some true) else (some (Xu == 6)))
set_option maxHeartbeats 8000000 in
set_option maxRecDepth 100000 in
theorem ZX.calls (Xu : Int) (Xy : Int) (ZM : Int) (Yu : Int) (Yt : Int) (Jk : Int) (ZU : Int) (Js : Int) (r : Bool) (w : World) (h : ZX.f Xu Xy ZM Yu Yt Jk ZU Js = some r) :
 Calls Tryz.prog 68 #[.agg #[.int .i64 Xu, .int .i64 Xy, .int .i64 ZM, .int .i64 Yu, .int .i64 Yt, .int .i64 Jk, .int .i64 ZU, .int .i64 Js]] w fun e w' => e = .returned (.bool r) ∧ Below w.heap.size w w' := by
 have hu76 := Tryz.underlying76; have HB := az (Below.refl w.heap.size w); have H : (if Xu = 1 then (some true) else (if Xu = 2 then (some true) else (some (Xu == 6)))) = some r := h; clear h
 by_cases c2 : Xu = 1
 ·rw [if_pos c2] at H
  have c2b0 : (Xu == 1) = true := beq_iff_eq.mpr c2; have c2b1 : (Xu != 1) = false := bne_eq_false_iff_eq.mpr c2; clear c2; obtain rfl := Option.some.inj H
  go_enter Tryz.func68, Tryz.ntmps68
  go_wp2_with (first | ((with_reducible refine Xp (N := 1) rfl ?_); refine Xn ?hg (N := 1) ?hd (cs := #[.int .i64 Xu, .int .i64 Xy, .int .i64 ZM, .int .i64 Yu, .int .i64 Yt, .int .i64 Jk, .int .i64 ZU, .int .i64 Js]) (t := 76) ?hr ?_; (case hd => rfl); (case hg => rfl); (case hr => exact zb7); intro XbZ hg w3 hbox hb; have Nb := az (hbox); have Xca := az ((zb95 : w.heap.size ≤ XbZ)); have Xsc := Xca; replace HB := az (Xc zb0 hb); clear hb hbox hg; obtain ⟨hcz4_0, hcz4_1, hcz4_2, hcz4_3, hcz4_4, hcz4_5, hcz4_6, hcz4_7⟩ := cz8 Nb; obtain ⟨hfz4_0, hfz4_1, hfz4_2, hfz4_3, hfz4_4, hfz4_5, hfz4_6⟩ := fz7 Nb; have hfz4_7 := Xe Nb.out 7))
  go_ret
  exact ⟨zb4, zb1⟩
 ·rw [if_neg c2] at H
  have c2b0 : (Xu == 1) = false := beq_eq_false_iff_ne.mpr c2; have c2b1 : (Xu != 1) = true := bne_iff_ne.mpr c2
  by_cases c5 : Xu = 2
  ·rw [if_pos c5] at H
   have c5b0 : (Xu == 2) = true := beq_iff_eq.mpr c5; have c5b1 : (Xu != 2) = false := bne_eq_false_iff_eq.mpr c5; clear c5; obtain rfl := Option.some.inj H
   go_enter Tryz.func68, Tryz.ntmps68
   go_wp2_with (first | ((with_reducible refine Xp (N := 1) rfl ?_); refine Xn ?hg (N := 1) ?hd (cs := #[.int .i64 Xu, .int .i64 Xy, .int .i64 ZM, .int .i64 Yu, .int .i64 Yt, .int .i64 Jk, .int .i64 ZU, .int .i64 Js]) (t := 76) ?hr ?_; (case hd => rfl); (case hg => rfl); (case hr => exact zb7); intro XbZ hg w6 hbox hb; have Nb := az (hbox); have Xca := az ((zb95 : w.heap.size ≤ XbZ)); have Xsc := Xca; replace HB := az (Xc zb0 hb); clear hb hbox hg; obtain ⟨XdH, XdI, XdJ, XdK, XdL, XdM, XdN, XdO⟩ := cz8 Nb; obtain ⟨XdP, XdQ, XdR, XdS, XdT, XdU, XdV⟩ := fz7 Nb; have XdW := Xe Nb.out 7))
   go_ret
   exact ⟨zb4, zb1⟩
  ·rw [if_neg c5] at H
   have c5b0 : (Xu == 2) = false := beq_eq_false_iff_ne.mpr c5; have c5b1 : (Xu != 2) = true := bne_iff_ne.mpr c5; obtain rfl := Option.some.inj H
   go_enter Tryz.func68, Tryz.ntmps68
   go_wp2_with (first | ((with_reducible refine Xp (N := 1) rfl ?_); refine Xn ?hg (N := 1) ?hd (cs := #[.int .i64 Xu, .int .i64 Xy, .int .i64 ZM, .int .i64 Yu, .int .i64 Yt, .int .i64 Jk, .int .i64 ZU, .int .i64 Js]) (t := 76) ?hr ?_; (case hd => rfl); (case hg => rfl); (case hr => exact zb7); intro XbZ hg w8 hbox hb; have Nb := az (hbox); have Xca := az ((zb95 : w.heap.size ≤ XbZ)); have Xsc := Xca; replace HB := az (Xc zb0 hb); clear hb hbox hg; obtain ⟨Ko, Kq, Kr, CO, CP, CR, CS, CU⟩ := cz8 Nb; obtain ⟨Kt, Ku, Kv, CV, CW, CX, CZ⟩ := fz7 Nb; have Ba := Xe Nb.out 7))
   go_ret
   exact ⟨zb4, zb1⟩
mutual
def XV.j0 : Nat → Bool → Int → Int → List Int → Option (Bool)
 | 0, _, _, _, _ => none
 | k + 1, x19, RG, Pp, M5 => if x19 = true then (some false) else (XV.l0 k 0 RG Pp M5)
def XV.l0 : Nat → Int → Int → Int → List Int → Option (Bool)
 | 0, _, _, _, _ => none
 | k + 1, x3, RG, Pp, M5 => if x3 < (M5.length : Int) then (if 0 ≤ x3 then ((Zu.f (rd M5 x3) 0 9).bind fun t451 => (if t451 = true then (if Pp = 0 then (if (rd M5 x3) = 0 then (XV.l0 k (wrap64 (x3 + 1)) RG Pp M5) else (some false)) else (XV.l0 k (wrap64 (x3 + 1)) RG Pp M5)) else (some false))) else (none)) else (some true)
end
def XV.f (k : Nat) (Xu : Int) (Xy : Int) (Xm : List Int) : Option (Bool) := (Zu.f Xu 0 150).bind fun t448 => (if t448 = true then ((Zu.f Xy 0 3).bind fun t449 => (if t449 = true then (XV.j0 k ((Xm.length : Int) != 3) Xu Xy Xm) else (XV.j0 k true Xu Xy Xm))) else (XV.j0 k true Xu Xy Xm))
theorem XV.VZ : ∀ k, (∀ y0 y1 y2 y3, LeO (XV.j0 k y0 y1 y2 y3) (XV.j0 (k + 1) y0 y1 y2 y3)) ∧ (∀ y0 y1 y2 y3, LeO (XV.l0 k y0 y1 y2 y3) (XV.l0 (k + 1) y0 y1 y2 y3))
 | 0 => ⟨fun _ _ _ _ r h => by simp [XV.j0] at h, fun _ _ _ _ r h => by simp [XV.l0] at h⟩
 | k + 1 => by
  obtain ⟨ih0, ih1⟩ := XV.VZ k; refine ⟨?_, ?_⟩
  ·intro y0 y1 y2 y3
   unfold XV.j0
   repeat' first
   | (with_reducible exact ih0 _ _ _ _)
   | (with_reducible exact ih1 _ _ _ _)
   | (with_reducible exact LeO.refl _)
   | (with_reducible exact LeO.none _)
   | (with_reducible refine LeO.ite ?_ ?_)
   | (with_reducible refine LeO.bind ?_ (fun _ => ?_))
   | exact ih0 _ _ _ _
   | exact ih1 _ _ _ _
   | exact LeO.none _
   | refine LeO.ite ?_ ?_
   | refine LeO.bind ?_ (fun _ => ?_)
  ·intro y0 y1 y2 y3
   unfold XV.l0
   repeat' first
   | (with_reducible exact ih0 _ _ _ _)
   | (with_reducible exact ih1 _ _ _ _)
   | (with_reducible exact LeO.refl _)
   | (with_reducible exact LeO.none _)
   | (with_reducible refine LeO.ite ?_ ?_)
   | (with_reducible refine LeO.bind ?_ (fun _ => ?_))
   | exact ih0 _ _ _ _
   | exact ih1 _ _ _ _
   | exact LeO.none _
   | refine LeO.ite ?_ ?_
   | refine LeO.bind ?_ (fun _ => ?_)
theorem XV.mono : ∀ a0 a1 a2 k, LeO (XV.f k a0 a1 a2) (XV.f (k + 1) a0 a1 a2) := by
 intro a0 a1 a2 k; obtain ⟨ih0, ih1⟩ := XV.VZ k
 unfold XV.f
 repeat' first
  | (with_reducible exact ih0 _ _ _ _)
  | (with_reducible exact ih1 _ _ _ _)
  | (with_reducible exact LeO.refl _)
  | (with_reducible exact LeO.none _)
  | (with_reducible refine LeO.ite ?_ ?_)
  | (with_reducible refine LeO.bind ?_ (fun _ => ?_))
  | exact ih0 _ _ _ _
  | exact ih1 _ _ _ _
  | exact LeO.none _
  | refine LeO.ite ?_ ?_
  | refine LeO.bind ?_ (fun _ => ?_)
end Go.Proofs.YtphnphmbfogmlaaGreat.Pr
