import Derived.Test.YtphnphmbfogmlaaGreatQEByq
import Derived.Test.YtphnphmbfogmlaaGreatQEPrK
import Derived.Test.YtphnphmbfogmlaaGreatQESx
import Derived.Test.YtphnphmbfogmlaaGreatQEPrM
namespace Go.Proofs.YtphnphmbfogmlaaGreat.Pr
open Go.RowKit Go.PW Go.PL Go.PM
attribute [local go_sem] YO YP Zm Zn Yv Yw YQ YS
set_option linter.unusedVariables false
set_option linter.unusedSimpArgs false
def Yy.l0 : Nat → List (S56) → List (S56) → Int → Option ((List (S56)))
 | 0, _, _, _ => none
 | k + 1, x0, x3, x4 => if x4 < (x0.length : Int) then (if 0 ≤ x4 then ((JZ.f ((Xb x0 x4).f0) ((Xb x0 x4).f1) ((Xb x0 x4).f2)).bind fun Xqy => (if x3.length < 3518437208883 then (Yy.l0 k x0 (x3 ++ [(⟨Xqy.1, Xqy.2.1, Xqy.2.2⟩ : S56)]) (wrap64 (x4 + 1))) else (none))) else (none)) else (some x3)
def Yy.f (k : Nat) (l0 : List (S56)) : Option ((List (S56))) := Yy.l0 k l0 (([] : List (S56))) 0
set_option maxHeartbeats 8000000 in
set_option maxRecDepth 100000 in
theorem Yy.calls (k : Nat) (A0 : Option Addr) (c0 : Nat) (l0 : List (S56)) (r : List (S56)) (w : World) (hr0 : Kd.C k56 w A0 l0.length l0) (hc0 : l0.length ≤ c0) (h : Yy.f k l0 = some r) :
 Calls Tryz.prog 64 #[.slice A0 l0.length c0] w fun e w' => ∃ v0_ : Value, e = .returned (v0_) ∧ Kd.S k56 56 w' w.heap.size (fun _ => True) v0_ r ∧ Below w.heap.size w w' := by
 have hu56 := Tryz.underlying56; have HR0 := az hr0; have HC0 := az hc0; clear hr0 hc0; have HB := az (Below.refl w.heap.size w); have H : (Yy.l0 k l0 (([] : List (S56))) 0) = some r := h; clear h
 obtain ⟨y117, hy117⟩ : ∃ y_ : List (S56), y_ = (([] : List (S56))) := ⟨_, rfl⟩
 replace H : (Yy.l0 k l0 y117 0) = some r := by first | (rw [hy117]; with_reducible exact H) | (have H2_ := (Option.bind_some _ _).symm.trans H; rw [hy117]; with_reducible exact H2_) | (have H2_ := (Option.bind_some _ _).symm.trans H; with_reducible exact H2_) | with_reducible exact H | (rw [hy117]; exact H) | exact H
 have Ny117 := az hy117; clear hy117; have H' := az H; clear H
 go_enter Tryz.func64, Tryz.ntmps64
 go_wp2_with (first | ((with_reducible refine Xn (N := 5) rfl ?_); refine Kd.X1q k56 _ 56 ?hg (N := 5) ?hd (xs := ([] : List (S56))) (inner := []) (ok := fun _ => True) (okp := fun _ => True) ?hr ?hp (fun _ hk => hk) trivial (Below.refl _ _) (Nat.le_refl _) (by simp) ?_; (case hd => rfl); (case hg => rfl); (case hr => exact zb10); (case hp => exact (ZJ.none _ _)); intro v118 w2 ho3 hb hg_ hnew_; clear hg_ hnew_; (first | rw [← Ny117.out] at ho3 | (simp only [Int.reduceToNat] at ho3; rw [← Ny117.out] at ho3)); have X0C := az (Kd.Jw ho3 (Xv zb1)); replace HB := az (Xc zb1 hb); clear hb ho3))
 go_loopg [3, 4] k (fun kq v3 v4 w' => ∃ (Xt : List (S56)) (XG : Int), v4 = .int .i64 XG ∧ Aside0 (Yy.l0 kq l0 Xt XG = some r) ∧ Aside0 (kq ≤ k) ∧ Aside0 (Kd.S k56 56 w' w.heap.size (fun _ => True) v3 Xt) ∧ Aside0 (Below w.heap.size w w'))
 case atStart => exact ⟨(y117), (0), zb6, H', ⟨Nat.le_refl _⟩, ⟨by (with_reducible repeat (first | apply Kd.Yo | apply Kd.Yp | apply Kd.Y4)); exact X0C.out⟩, ⟨zb1⟩⟩
 case round =>
  clear H';(try clear p2)
  obtain ⟨Xt, XG, rfl, HA, HK1, HO_3, HB⟩ := hrel
  cases gk with
  | zero => exact absurd HA.out (by simp [Yy.l0])
  | succ k1 =>
   have H := HA.out; clear HA; simp only [Yy.l0] at H
   by_cases c4 : XG < (l0.length : Int)
   ·rw [if_pos c4] at H
    have c4b0 : decide (XG < (l0.length : Int)) = true := decide_eq_true c4; clear c4
    by_cases c5 : 0 ≤ XG
    ·rw [if_pos c5] at H
     have c5b0 : decide (0 ≤ XG) = true := decide_eq_true c5; clear c5; replace H := Option.bind_eq_some_iff.mp H; obtain ⟨⟨Xou, Xov, Xim⟩, A60, H⟩ := H; replace H : (if Xt.length < 3518437208883 then (Yy.l0 k1 l0 (Xt ++ [(⟨Xou, Xov, Xim⟩ : S56)]) (wrap64 (XG + 1))) else (none)) = some r := H; have A6 := az A60; clear A60
     by_cases c7 : Xt.length < 3518437208883
     ·rw [if_pos c7] at H
      have LMc7 := az c7; clear c7
      obtain ⟨y126, hy126⟩ : ∃ y_ : List (S56), y_ = (Xt ++ [(⟨Xou, Xov, Xim⟩ : S56)]) := ⟨_, rfl⟩
      replace H : (Yy.l0 k1 l0 y126 (wrap64 (XG + 1))) = some r := by first | (rw [hy126]; with_reducible exact H) | (have H2_ := (Option.bind_some _ _).symm.trans H; rw [hy126]; with_reducible exact H2_) | (have H2_ := (Option.bind_some _ _).symm.trans H; with_reducible exact H2_) | with_reducible exact H | (rw [hy126]; exact H) | exact H
      have Ny126 := az hy126; clear hy126; have H' := az H; clear H; have Xyj : 0 ≤ (XG : Int) := of_decide_eq_true zb3; have Xyk : XG < (l0.length : Int) := of_decide_eq_true zb3; obtain ⟨ad120, Xyl, Xym, e120, Xel, Xem, Xen, hl120_2, hi120_2⟩ := ZU HR0.out XG Xyj Xyk
      cases e120
      replace Xel := (HB.out.cell (World.block_lt_of_cell? w _ Xel)).trans Xel; replace Xem := (HB.out.cell (World.block_lt_of_cell? w _ Xem)).trans Xem; replace Xen := (HB.out.cell (World.block_lt_of_cell? w _ Xen)).trans Xen; have Xu6 := az hi120_2; have Xu7 := az hl120_2; clear hi120_2 hl120_2; replace Xyj := eq_true Xyj; replace Xyk := eq_true Xyk
      go_wp2_with (first | ((with_reducible refine Xi (f := 95) rfl ?_); refine XI (some 17) rfl rfl Tryz.func95 zb9 rfl #[.agg #[.int .i64 ((Xb l0 XG).f0), .int .i64 ((Xb l0 XG).f1), .slice Xyl ((Xb l0 XG).f2).length Xym]] rfl zb2 ?_; (with_reducible refine (JZ.calls ((Xb l0 XG).f0) ((Xb l0 XG).f1) _ _ ((Xb l0 XG).f2) Xou Xov Xim _ ?side1 ?side2 A6.out).mono ?_); (case side1 => repeat (first | exact (Kd.Xr Xu6.out HB.out) | (with_reducible refine Kd.YC ?_ _) | (with_reducible refine Kd.YE ?_ _) | (with_reducible refine Kd.Zi ?_))); (case side2 => exact Xu7.out); rintro e w8 ⟨v124, rfl, ho0, hb⟩; refine ⟨_, rfl, ?_⟩; replace HO_3 := az (Kd.Sw zb42 (Kd.Vt ho0) hb); have XlF := az (Kd.Zh ho0 (Xv zb1)); replace HB := az (Xc zb1 hb); (try clear hb); (try clear hb2); (try clear hk); (try clear hi); (try clear ho0); obtain ⟨Xij, Cw, eo10⟩ := Kd.YZ XlF.out; subst eo10) | ((with_reducible refine JV (b := .append) (xs := #[.tmp 12, .tmp 18]) rfl ?_); at_builtin; refine Kd.XgV k56 (w0 := w) w.heap.size rfl (.tmp 12) (.tmp 18) 28 56 (.agg #[(.int .i64 0), (.int .i64 0), (.slice none 0 0)]) 40 rfl Tryz.underlying28 XiU rfl (by decide) (by omega) u3 Xt (⟨Xou, Xov, Xim⟩ : S56) [.int .i64 Xou, .int .i64 Xov, .slice Xij Xim.length Cw] (fun _ => True) (fun k_ => some k_ = (.slice Xij Xim.length Cw : Value).ownBlock) rfl rfl ?aP (fun k_ hk_ => ((Kd.Yz (ok' := fun k_ => ((fun _ => True)) k_ ∧ some k_ ≠ (u3 : Value).ownBlock) (Kd.Uv (XlF.out) (Kd.NC HO_3.out) (by decide)) (fun k_ hk => ⟨trivial, hk.2⟩))).1 k_ hk_.symm) ?aF ?aO ?aB ?aS ?aL ?_; (case aP => exact NA _ _ _ (⟨Xou, Xov, Xim⟩ : S56) (Kd.Yz (Kd.OE rfl (Kd.Yz (ok' := fun k_ => ((fun _ => True)) k_ ∧ some k_ ≠ (u3 : Value).ownBlock) (Kd.Uv (XlF.out) (Kd.NC HO_3.out) (by decide)) (fun k_ hk => ⟨trivial, hk.2⟩))) (fun _ h_ => h_))); (case aB => exact zb1); (case aF => exact (fun _ _ => trivial)); (case aO => exact (by (with_reducible repeat (first | apply Kd.Yo | apply Kd.Yp | apply Kd.Y4)); exact Kd.Ze HO_3.out (fun k_ hk => ⟨trivial, fun e_ => hk.2 e_⟩))); (case aS => exact (Xv zb1)); (case aL => have := LMc7.out; omega); intro v127 w9 ho hb hg hat; rw [← Ny126.out] at ho; replace HB := az (hb); have X0D := az (ho); clear HO_3 XlF; clear ho hb hg hat))
      go_roundg k1
      case measure => have := HK1.out; omega
      case rel => exact ⟨(y126), (wrap64 (XG + 1)), zb6, H', ⟨zb37⟩, ⟨by (with_reducible repeat (first | apply Kd.Yo | apply Kd.Yp | apply Kd.Y4)); exact X0D.out⟩, ⟨zb1⟩⟩
     ·rw [if_neg c7] at H
      exact absurd H (by simp)
    ·rw [if_neg c5] at H
     exact absurd H (by simp)
   ·rw [if_neg c4] at H
    have c4b0 : decide (XG < (l0.length : Int)) = false := decide_eq_false c4; clear c4; obtain rfl := Option.some.inj H
    go_wp2
    go_ret
    exact ⟨_, zb4, zb42, zb1⟩
def Y0.l0 : Nat → List (S76) → List (S56) → Int → Option ((List (S56)))
 | 0, _, _, _ => none
 | k + 1, x1, x5, x6 => if x6 < (x1.length : Int) then (if 0 ≤ x6 then ((Jg.f ((Xa x1 x6).f0)).bind fun t147 => (if t147 = true then (if 0 ≤ ((Xa x1 x6).f2) then (if ((Xa x1 x6).f2) < (x5.length : Int) then (if ((Xb x5 ((Xa x1 x6).f2)).f0) < (wrap64 (x6 + 1)) then ((VY.f ((Xb x5 ((Xa x1 x6).f2)).f0) ((Xb x5 ((Xa x1 x6).f2)).f1) ((Xb x5 ((Xa x1 x6).f2)).f2) ((Xa x1 x6).f0) ((Xa x1 x6).f1) ((Xa x1 x6).f2) ((Xa x1 x6).f3) ((Xa x1 x6).f4) ((Xa x1 x6).f5) ((Xa x1 x6).f6) ((Xa x1 x6).f7) (wrap64 (x6 + 1))).bind fun Xqz => (Y0.l0 k x1 (x5.set (((Xa x1 x6).f2) : Int).toNat (⟨Xqz.1, Xqz.2.1, Xqz.2.2⟩ : S56)) (wrap64 (x6 + 1)))) else (Y0.l0 k x1 x5 (wrap64 (x6 + 1)))) else (none)) else (none)) else (Y0.l0 k x1 x5 (wrap64 (x6 + 1))))) else (none)) else (some x5)
def Y0.f (k : Nat) (l0 : List (S56)) (l1 : List (S76)) : Option ((List (S56))) := (Yy.f k l0).bind fun t142 => (Y0.l0 k l1 t142 0)
end Go.Proofs.YtphnphmbfogmlaaGreat.Pr
