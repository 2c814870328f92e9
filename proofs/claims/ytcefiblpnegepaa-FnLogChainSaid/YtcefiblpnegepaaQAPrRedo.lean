import Derived.Test.YtcefiblpnegepaaQAByq
import Derived.Test.YtcefiblpnegepaaQAWEngA
import Derived.Test.YtcefiblpnegepaaQASx
import Derived.Test.YtcefiblpnegepaaQAPrNew
import Derived.Test.YtcefiblpnegepaaQAL2
namespace Go.Proofs.Ytcefiblpnegepaa.Pr
open Go.RowKit Go.PW Go.PL Go.PM
attribute [local go_sem] YB YC Zc Zd Yn Yo YD YE
set_option linter.unusedVariables false
set_option linter.unusedSimpArgs false
def Xy.l0 : Nat → List (S25) → List (S25) → Int → Option ((List (S25)))
  | 0, _, _, _ => none
  | k + 1, x0, x3, x4 => if x4 < (x0.length : Int) then (if 0 ≤ x4 then ((J8.f ((Xl x0 x4).f0) ((Xl x0 x4).f1) ((Xl x0 x4).f2)).bind fun XbF => (if x3.length < 3518437208883 then (Xy.l0 k x0 (x3 ++ [(⟨XbF.1, XbF.2.1, XbF.2.2⟩ : S25)]) (wrap64 (x4 + 1))) else (none))) else (none)) else (some x3)
def Xy.f (k : Nat) (l0 : List (S25)) : Option ((List (S25))) := Xy.l0 k l0 (([] : List (S25))) 0
set_option maxHeartbeats 8000000 in
set_option maxRecDepth 100000 in
theorem Xy.calls (k : Nat) (A0 : Option Addr) (c0 : Nat) (l0 : List (S25)) (r : List (S25)) (w : World) (hr0 : Kd.C k25 w A0 l0.length l0) (hc0 : l0.length ≤ c0) (h : Xy.f k l0 = some r) :
    Calls Try.prog 140 #[.slice A0 l0.length c0] w fun e w' => ∃ v0_ : Value, e = .returned (v0_) ∧ Kd.S k25 25 w' w.heap.size (fun _ => True) v0_ r ∧ Below w.heap.size w w' := by
  have hu25 := Try.underlying25; have HR0 := zz hr0; have HC0 := zz hc0; clear hr0 hc0; have HB := zz (Below.refl w.heap.size w); have H : (Xy.l0 k l0 (([] : List (S25))) 0) = some r := h; clear h
  obtain ⟨Xm5, hy1323⟩ : ∃ y_ : List (S25), y_ = (([] : List (S25))) := ⟨_, rfl⟩
  replace H : (Xy.l0 k l0 Xm5 0) = some r := by first | (rw [hy1323]; with_reducible exact H) | (have H2_ := (Option.bind_some _ _).symm.trans H; rw [hy1323]; with_reducible exact H2_) | (have H2_ := (Option.bind_some _ _).symm.trans H; with_reducible exact H2_) | with_reducible exact H | (rw [hy1323]; exact H) | exact H
  have Ny1323 := zz hy1323; clear hy1323; have H' := zz H; clear H
  go_enter Try.func140, Try.ntmps140
  go_wp2_with (first | ((with_reducible refine XO (N := 5) rfl ?_); refine Kd.XmG k25 _ 25 ?hg (N := 5) ?hd (xs := ([] : List (S25))) (inner := []) (ok := fun _ => True) (okp := fun _ => True) ?hr ?hp (fun _ hk => hk) trivial (Below.refl _ _) (Nat.le_refl _) (by simp) ?_; (case hd => rfl); (case hg => rfl); (case hr => exact zb22); (case hp => exact zb121); intro v1324 w2 ho3 hb hg_ hnew_; clear hg_ hnew_; (first | rw [← Ny1323.out] at ho3 | (simp only [Int.reduceToNat] at ho3; rw [← Ny1323.out] at ho3)); have n0_ := zz (Kd.SG ho3 (Xr zb4)); have n1_ := zz (Xe zb4 hb); clear HB; have Xou := n0_; have HB := n1_; clear n0_ n1_; clear hb ho3))
  go_loopg [3, 4] k (fun kq v3 v4 w' => ∃ (Xv : List (S25)) (ZG : Int), v4 = .int .i64 ZG ∧ Aside0 (Xy.l0 kq l0 Xv ZG = some r) ∧ Aside0 (kq ≤ k) ∧ Aside0 (Kd.S k25 25 w' w.heap.size (fun _ => True) v3 Xv) ∧ Aside0 (Below w.heap.size w w'))
  case atStart => exact ⟨(Xm5), (0), zb12, H', ⟨Nat.le_refl _⟩, ⟨by (with_reducible repeat (first | apply Kd.V9 | apply Kd.VA | apply Kd.Fb)); exact Xou.out⟩, ⟨zb4⟩⟩
  case round =>
    clear H'
    try clear c1
    try clear p2
    obtain ⟨Xv, ZG, rfl, HA, HK1, HO_3, HB⟩ := hrel
    cases gk with
    | zero => exact absurd HA.out (by simp [Xy.l0])
    | succ k1 =>
      have H := HA.out; clear HA; simp only [Xy.l0] at H
      by_cases c4 : ZG < (l0.length : Int)
      · rw [if_pos c4] at H
        have c4b0 : decide (ZG < (l0.length : Int)) = true := decide_eq_true c4; clear c4
        by_cases c5 : 0 ≤ ZG
        · rw [if_pos c5] at H
          have c5b0 : decide (0 ≤ ZG) = true := decide_eq_true c5; clear c5; replace H := Option.bind_eq_some_iff.mp H; obtain ⟨⟨Ib, Ic, Eu⟩, A60, H⟩ := H; replace H : (if Xv.length < 3518437208883 then (Xy.l0 k1 l0 (Xv ++ [(⟨Ib, Ic, Eu⟩ : S25)]) (wrap64 (ZG + 1))) else (none)) = some r := H; have A6 := zz A60; clear A60
          by_cases c7 : Xv.length < 3518437208883
          · rw [if_pos c7] at H
            have LMc7 := zz c7; clear c7
            obtain ⟨Xm6, hy1332⟩ : ∃ y_ : List (S25), y_ = (Xv ++ [(⟨Ib, Ic, Eu⟩ : S25)]) := ⟨_, rfl⟩
            replace H : (Xy.l0 k1 l0 Xm6 (wrap64 (ZG + 1))) = some r := by first | (rw [hy1332]; with_reducible exact H) | (have H2_ := (Option.bind_some _ _).symm.trans H; rw [hy1332]; with_reducible exact H2_) | (have H2_ := (Option.bind_some _ _).symm.trans H; with_reducible exact H2_) | with_reducible exact H | (rw [hy1332]; exact H) | exact H
            have Ny1332 := zz hy1332; clear hy1332; have H' := zz H; clear H; have XgT : 0 ≤ (ZG : Int) := of_decide_eq_true zb7; have XgU : ZG < (l0.length : Int) := of_decide_eq_true zb7; obtain ⟨ad1326, Xk6, Xk7, XtF, Ew, Ex, Ey, hl1326_2, hi1326_2⟩ := Ti HR0.out ZG XgT XgU
            cases XtF
            replace Ew := (HB.out.cell (World.block_lt_of_cell? w _ Ew)).trans Ew; replace Ex := (HB.out.cell (World.block_lt_of_cell? w _ Ex)).trans Ex; replace Ey := (HB.out.cell (World.block_lt_of_cell? w _ Ey)).trans Ey; have XgV := zz hi1326_2; have XgW := zz hl1326_2; clear hi1326_2 hl1326_2; replace XgT := eq_true XgT; replace XgU := eq_true XgU
            go_wp2_with (first | ((with_reducible refine Xg (f := 118) rfl ?_); refine Xz (some 17) rfl rfl Try.func118 zb14 rfl #[.agg #[.int .i64 ((Xl l0 ZG).f0), .int .i64 ((Xl l0 ZG).f1), .slice Xk6 ((Xl l0 ZG).f2).length Xk7]] rfl zb0 ?_; (with_reducible refine (J8.calls ((Xl l0 ZG).f0) ((Xl l0 ZG).f1) _ _ ((Xl l0 ZG).f2) Ib Ic Eu _ ?side1 ?side2 A6.out).mono ?_); (case side1 => repeat (first | exact (Kd.JN XgV.out HB.out) | (with_reducible refine Kd.Z0 ?_ _) | (with_reducible refine Kd.Z4 ?_ _) | (with_reducible refine Kd.Jt ?_))); (case side2 => exact XgW.out); rintro e w8 ⟨v1330, rfl, ho0, hb⟩; refine ⟨_, rfl, ?_⟩; have n0_ := zz (Kd.WR (by (with_reducible repeat (first | apply Kd.V9 | apply Kd.VA | apply Kd.Fb)); exact HO_3.out) (Kd.ZH ho0) hb); have n1_ := zz (Kd.Ye ho0 (Xr zb4)); have n2_ := zz (Xe zb4 hb); clear HO_3; clear HB; have HO_3 := n0_; have QF := n1_; have HB := n2_; clear n0_ n1_ n2_; (try clear hb); (try clear hb2); (try clear hk); (try clear hi); (try clear ho0); obtain ⟨VL, Vk, eo10⟩ := Kd.Xx QF.out; subst eo10) | ((with_reducible refine Zh (b := .append) (xs := #[.tmp 12, .tmp 18]) rfl ?_); at_builtin; refine Kd.Xbd k25 (w0 := w) w.heap.size rfl (.tmp 12) (.tmp 18) 50 25 (.agg #[(.int .i64 0), (.int .i64 0), (.slice none 0 0)]) 40 rfl Try.underlying50 XhA rfl (by decide) (by omega) u3 Xv (⟨Ib, Ic, Eu⟩ : S25) [.int .i64 Ib, .int .i64 Ic, .slice VL Eu.length Vk] (fun _ => True) (fun k_ => some k_ = (.slice VL Eu.length Vk : Value).ownBlock) rfl rfl ?aP (fun k_ hk_ => ((Kd.XY (ok' := fun k_ => ((fun _ => True)) k_ ∧ some k_ ≠ (u3 : Value).ownBlock) (Kd.LA (QF.out) (Kd.CX HO_3.out) (by decide)) (fun k_ hk => ⟨trivial, hk.2⟩))).1 k_ hk_.symm) ?aF ?aO ?aB ?aS ?aL ?_; (case aP => exact Pe _ _ _ (⟨Ib, Ic, Eu⟩ : S25) (Kd.XY (Kd.Uf rfl (Kd.XY (ok' := fun k_ => ((fun _ => True)) k_ ∧ some k_ ≠ (u3 : Value).ownBlock) (Kd.LA (QF.out) (Kd.CX HO_3.out) (by decide)) (fun k_ hk => ⟨trivial, hk.2⟩))) (fun _ h_ => h_))); (case aB => exact zb4); (case aF => exact zb135); (case aO => exact (by (with_reducible repeat (first | apply Kd.V9 | apply Kd.VA | apply Kd.Fb)); exact Kd.Kj HO_3.out (fun k_ hk => ⟨trivial, fun e_ => hk.2 e_⟩))); (case aS => exact (Xr zb4)); (case aL => have := LMc7.out; omega); intro v1333 w9 ho hb hg hat; rw [← Ny1332.out] at ho; have n0_ := zz (hb); have n1_ := zz (ho); clear HB; clear HO_3; clear QF; have HB := n0_; have Xov := n1_; clear n0_ n1_; clear ho hb hg hat))
            go_roundg k1
            case measure => have := HK1.out; omega
            case rel => exact ⟨(Xm6), (wrap64 (ZG + 1)), zb12, H', ⟨zb54⟩, ⟨by (with_reducible repeat (first | apply Kd.V9 | apply Kd.VA | apply Kd.Fb)); exact Xov.out⟩, ⟨zb4⟩⟩
          · rw [if_neg c7] at H
            exact absurd H (by simp)
        · rw [if_neg c5] at H
          exact absurd H (by simp)
      · rw [if_neg c4] at H
        have c4b0 : decide (ZG < (l0.length : Int)) = false := decide_eq_false c4; clear c4; obtain rfl := Option.some.inj H
        go_wp2
        go_ret
        exact ⟨_, zb8, by (with_reducible repeat (first | apply Kd.V9 | apply Kd.VA | apply Kd.Fb)); exact HO_3.out, zb4⟩
def Yh.l0 : Nat → List (S41) → List (S25) → Int → Option ((List (S25)))
  | 0, _, _, _ => none
  | k + 1, x1, x5, x6 => if x6 < (x1.length : Int) then (if 0 ≤ x6 then ((Zg.f ((Xa x1 x6).f0)).bind fun XtG => (if XtG = true then (if 0 ≤ ((Xa x1 x6).f2) then (if ((Xa x1 x6).f2) < (x5.length : Int) then (if ((Xl x5 ((Xa x1 x6).f2)).f0) < (wrap64 (x6 + 1)) then ((Dr.f ((Xl x5 ((Xa x1 x6).f2)).f0) ((Xl x5 ((Xa x1 x6).f2)).f1) ((Xl x5 ((Xa x1 x6).f2)).f2) ((Xa x1 x6).f0) ((Xa x1 x6).f1) ((Xa x1 x6).f2) ((Xa x1 x6).f3) ((Xa x1 x6).f4) ((Xa x1 x6).f5) ((Xa x1 x6).f6) ((Xa x1 x6).f7) (wrap64 (x6 + 1))).bind fun XbG => (Yh.l0 k x1 (x5.set (((Xa x1 x6).f2) : Int).toNat (⟨XbG.1, XbG.2.1, XbG.2.2⟩ : S25)) (wrap64 (x6 + 1)))) else (Yh.l0 k x1 x5 (wrap64 (x6 + 1)))) else (none)) else (none)) else (Yh.l0 k x1 x5 (wrap64 (x6 + 1))))) else (none)) else (some x5)
def Yh.f (k : Nat) (l0 : List (S25)) (l1 : List (S41)) : Option ((List (S25))) := (Xy.f k l0).bind fun XtH => (Yh.l0 k l1 XtH 0)
def Yx.l0 : Nat → List (S41) → Int → Option (Int)
  | 0, _, _ => none
  | k + 1, x0, x3 => if x3 ≤ 3 then ((Xn.f k x0 x3).bind fun Rx => (if Rx > 0 then (some x3) else (Yx.l0 k x0 (wrap64 (x3 + 1))))) else (some 0)
def Yx.f (k : Nat) (l0 : List (S41)) : Option (Int) := Yx.l0 k l0 1
set_option maxHeartbeats 8000000 in
set_option maxRecDepth 100000 in
theorem Yx.calls (k : Nat) (A0 : Option Addr) (c0 : Nat) (l0 : List (S41)) (r : Int) (w : World) (hr0 : Kd.C k41 w A0 l0.length l0) (hc0 : l0.length ≤ c0) (h : Yx.f k l0 = some r) :
    Calls Try.prog 157 #[.slice A0 l0.length c0] w fun e w' => e = .returned (.int .i64 r) ∧ Vp w w' := by
  have HR0 := zz hr0; have HC0 := zz hc0; clear hr0 hc0; have H : (Yx.l0 k l0 1) = some r := h; clear h; have H' := zz H; clear H
  go_enter Try.func157, Try.ntmps157
  go_wp2
  go_loopg [3] k (fun kq v3 w' => ∃ (Xv : Int), v3 = .int .i64 Xv ∧ Aside0 (Yx.l0 kq l0 Xv = some r) ∧ Aside0 (kq ≤ k) ∧ Vp w w')
  case atStart => exact ⟨(1), zb12, H', ⟨Nat.le_refl _⟩, zb25⟩
  case round =>
    clear H'
    try clear c1
    obtain ⟨Xv, rfl, HA, HK1, ⟨m1, rfl⟩⟩ := hrel
    cases gk with
    | zero => exact absurd HA.out (by simp [Yx.l0])
    | succ k1 =>
      have H := HA.out; clear HA; simp only [Yx.l0] at H
      by_cases c2 : Xv ≤ 3
      · rw [if_pos c2] at H
        have c2b0 : decide (Xv ≤ 3) = true := decide_eq_true c2; clear c2; replace H := Option.bind_eq_some_iff.mp H; obtain ⟨Rx, A30, H⟩ := H; replace H : (if Rx > 0 then (some Xv) else (Yx.l0 k1 l0 (wrap64 (Xv + 1)))) = some r := H; have A3 := zz A30; clear A30
        by_cases c4 : Rx > 0
        · rw [if_pos c4] at H
          have c4b0 : decide (0 < Rx) = true := decide_eq_true c4; clear c4; obtain rfl := Option.some.inj H
          go_wp2_with (first | ((with_reducible refine Xg (f := 84) rfl ?_); refine Xz (some 10) rfl rfl Try.func84 zb14 rfl #[.slice A0 l0.length c0, .int .i64 Xv] rfl zb0 ?_; (with_reducible refine (Xn.calls k1 _ _ l0 Xv Rx _ ?side1 ?side2 A3.out).mono ?_); (case side1 => exact zb17); (case side2 => exact HC0.out); rintro e w' ⟨rfl, ⟨nd, rfl⟩⟩; refine ⟨_, rfl, ?_⟩))
          go_ret
          exact ⟨zb12, zb25⟩
        · rw [if_neg c4] at H
          have c4b0 : decide (0 < Rx) = false := decide_eq_false c4; clear c4; have H' := zz H; clear H
          go_wp2_with (first | ((with_reducible refine Xg (f := 84) rfl ?_); refine Xz (some 10) rfl rfl Try.func84 zb14 rfl #[.slice A0 l0.length c0, .int .i64 Xv] rfl zb0 ?_; (with_reducible refine (Xn.calls k1 _ _ l0 Xv Rx _ ?side1 ?side2 A3.out).mono ?_); (case side1 => exact zb17); (case side2 => exact HC0.out); rintro e w' ⟨rfl, ⟨nd, rfl⟩⟩; refine ⟨_, rfl, ?_⟩))
          go_roundg k1
          case measure => have := HK1.out; omega
          case rel => exact ⟨(wrap64 (Xv + 1)), zb12, H', ⟨zb54⟩, zb25⟩
      · rw [if_neg c2] at H
        have c2b0 : decide (Xv ≤ 3) = false := decide_eq_false c2; clear c2; obtain rfl := Option.some.inj H
        go_wp2
        go_ret
        exact ⟨zb12, zb25⟩
end Go.Proofs.Ytcefiblpnegepaa.Pr
