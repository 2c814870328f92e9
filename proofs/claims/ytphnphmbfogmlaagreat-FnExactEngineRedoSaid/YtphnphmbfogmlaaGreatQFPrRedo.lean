import Derived.Test.YtphnphmbfogmlaaGreatQFByq
import Derived.Test.YtphnphmbfogmlaaGreatQFPrK
import Derived.Test.YtphnphmbfogmlaaGreatQFSx
import Derived.Test.YtphnphmbfogmlaaGreatQFPrM
namespace Go.Proofs.YtphnphmbfogmlaaGreat.Pr
open Go.RowKit Go.PW Go.PL Go.PM
attribute [local go_sem] Y3 Y4 YN YO Ya Yb Y5 Y6
set_option linter.unusedVariables false
set_option linter.unusedSimpArgs false
def Yo.l0 : Nat → List (S56) → List (S56) → Int → Option ((List (S56)))
 | 0, _, _, _ => none
 | k + 1, x0, x3, x4 => if x4 < (x0.length : Int) then (if 0 ≤ x4 then ((JC.f ((Xb x0 x4).f0) ((Xb x0 x4).f1) ((Xb x0 x4).f2)).bind fun Xmm => (if x3.length < 3518437208883 then (Yo.l0 k x0 (x3 ++ [(⟨Xmm.1, Xmm.2.1, Xmm.2.2⟩ : S56)]) (wrap64 (x4 + 1))) else (none))) else (none)) else (some x3)
def Yo.f (k : Nat) (l0 : List (S56)) : Option ((List (S56))) := Yo.l0 k l0 (([] : List (S56))) 0
set_option maxHeartbeats 8000000 in
set_option maxRecDepth 100000 in
theorem Yo.calls (k : Nat) (A0 : Option Addr) (c0 : Nat) (l0 : List (S56)) (r : List (S56)) (w : World) (hr0 : Kd.C k56 w A0 l0.length l0) (hc0 : l0.length ≤ c0) (h : Yo.f k l0 = some r) :
 Calls Tryz.prog 64 #[.slice A0 l0.length c0] w fun e w' => ∃ v0_ : Value, e = .returned (v0_) ∧ Kd.S k56 56 w' w.heap.size (fun _ => True) v0_ r ∧ Below w.heap.size w w' := by
 have hu56 := Tryz.underlying56; have HR0 := az hr0; have HC0 := az hc0; clear hr0 hc0; have HB := az (Below.refl w.heap.size w); have H : (Yo.l0 k l0 (([] : List (S56))) 0) = some r := h; clear h
 obtain ⟨y117, hy117⟩ : ∃ y_ : List (S56), y_ = (([] : List (S56))) := ⟨_, rfl⟩
 replace H : (Yo.l0 k l0 y117 0) = some r := by first | (rw [hy117]; with_reducible exact H) | (have H2_ := (Option.bind_some _ _).symm.trans H; rw [hy117]; with_reducible exact H2_) | (have H2_ := (Option.bind_some _ _).symm.trans H; with_reducible exact H2_) | with_reducible exact H | (rw [hy117]; exact H) | exact H
 have Ny117 := az hy117; clear hy117; have H' := az H; clear H
 go_enter Tryz.func64, Tryz.ntmps64
 go_wp2_with (first | ((with_reducible refine Xp (N := 5) rfl ?_); refine Kd.Xwp k56 _ 56 ?hg (N := 5) ?hd (xs := ([] : List (S56))) (inner := []) (ok := fun _ => True) (okp := fun _ => True) ?hr ?hp (fun _ hk => hk) trivial (Below.refl _ _) (Nat.le_refl _) (by simp) ?_; (case hd => rfl); (case hg => rfl); (case hr => exact zb7); (case hp => exact (Zt.none _ _)); intro v118 w2 ho3 hb hg_ hnew_; clear hg_ hnew_; (first | rw [← Ny117.out] at ho3 | (simp only [Int.reduceToNat] at ho3; rw [← Ny117.out] at ho3)); have XvC := az (Kd.Uk ho3 (XA zb0)); replace HB := az (Xc zb0 hb); clear hb ho3))
 go_loopg [3, 4] k (fun kq v3 v4 w' => ∃ (Xl : List (S56)) (X4 : Int), v4 = .int .i64 X4 ∧ Aside0 (Yo.l0 kq l0 Xl X4 = some r) ∧ Aside0 (kq ≤ k) ∧ Aside0 (Kd.S k56 56 w' w.heap.size (fun _ => True) v3 Xl) ∧ Aside0 (Below w.heap.size w w'))
 case atStart => exact ⟨(y117), (0), zb5, H', ⟨Nat.le_refl _⟩, ⟨by (with_reducible repeat (first | apply Kd.J7 | apply Kd.JK | apply Kd.JO)); exact XvC.out⟩, ⟨zb0⟩⟩
 case round =>
  clear H';(try clear p2)
  obtain ⟨Xl, X4, rfl, HA, HK1, HO_3, HB⟩ := hrel
  cases gk with
  | zero => exact absurd HA.out (by simp [Yo.l0])
  | succ k1 =>
   have H := HA.out; clear HA; simp only [Yo.l0] at H
   by_cases c4 : X4 < (l0.length : Int)
   ·rw [if_pos c4] at H
    have c4b0 : decide (X4 < (l0.length : Int)) = true := decide_eq_true c4; clear c4
    by_cases c5 : 0 ≤ X4
    ·rw [if_pos c5] at H
     have c5b0 : decide (0 ≤ X4) = true := decide_eq_true c5; clear c5; replace H := Option.bind_eq_some_iff.mp H; obtain ⟨⟨Xkt, Xku, XeM⟩, A60, H⟩ := H; replace H : (if Xl.length < 3518437208883 then (Yo.l0 k1 l0 (Xl ++ [(⟨Xkt, Xku, XeM⟩ : S56)]) (wrap64 (X4 + 1))) else (none)) = some r := H; have A6 := az A60; clear A60
     by_cases c7 : Xl.length < 3518437208883
     ·rw [if_pos c7] at H
      have LMc7 := az c7; clear c7
      obtain ⟨y126, hy126⟩ : ∃ y_ : List (S56), y_ = (Xl ++ [(⟨Xkt, Xku, XeM⟩ : S56)]) := ⟨_, rfl⟩
      replace H : (Yo.l0 k1 l0 y126 (wrap64 (X4 + 1))) = some r := by first | (rw [hy126]; with_reducible exact H) | (have H2_ := (Option.bind_some _ _).symm.trans H; rw [hy126]; with_reducible exact H2_) | (have H2_ := (Option.bind_some _ _).symm.trans H; with_reducible exact H2_) | with_reducible exact H | (rw [hy126]; exact H) | exact H
      have Ny126 := az hy126; clear hy126; have H' := az H; clear H; have Xtw : 0 ≤ (X4 : Int) := of_decide_eq_true zb3; have Xtx : X4 < (l0.length : Int) := of_decide_eq_true zb3; obtain ⟨ad120, Xty, Xtz, e120, Xbd, Xbe, Xbf, hl120_2, hi120_2⟩ := Zl HR0.out X4 Xtw Xtx
      cases e120
      replace Xbd := (HB.out.cell (World.block_lt_of_cell? w _ Xbd)).trans Xbd; replace Xbe := (HB.out.cell (World.block_lt_of_cell? w _ Xbe)).trans Xbe; replace Xbf := (HB.out.cell (World.block_lt_of_cell? w _ Xbf)).trans Xbf; have Xp9 := az hi120_2; have XpA := az hl120_2; clear hi120_2 hl120_2; replace Xtw := eq_true Xtw; replace Xtx := eq_true Xtx
      go_wp2_with (first | ((with_reducible refine Xo (f := 95) rfl ?_); refine Yx (some 17) rfl rfl Tryz.func95 zb6 rfl #[.agg #[.int .i64 ((Xb l0 X4).f0), .int .i64 ((Xb l0 X4).f1), .slice Xty ((Xb l0 X4).f2).length Xtz]] rfl zb2 ?_; (with_reducible refine (JC.calls ((Xb l0 X4).f0) ((Xb l0 X4).f1) _ _ ((Xb l0 X4).f2) Xkt Xku XeM _ ?side1 ?side2 A6.out).mono ?_); (case side1 => repeat (first | exact (Kd.Xg Xp9.out HB.out) | (with_reducible refine Kd.Jo ?_ _) | (with_reducible refine Kd.Jp ?_ _) | (with_reducible refine Kd.JJ ?_))); (case side2 => exact XpA.out); rintro e w8 ⟨v124, rfl, ho0, hb⟩; refine ⟨_, rfl, ?_⟩; replace HO_3 := az (Kd.NR zb37 (Kd.FX ho0) hb); have XhZ := az (Kd.YY ho0 (XA zb0)); replace HB := az (Xc zb0 hb); (try clear hb); (try clear hb2); (try clear hk); (try clear hi); (try clear ho0); obtain ⟨XeJ, Kw, eo10⟩ := Kd.Y2 XhZ.out; subst eo10) | ((with_reducible refine Z0 (b := .append) (xs := #[.tmp 12, .tmp 18]) rfl ?_); at_builtin; refine Kd.Xdw k56 (w0 := w) w.heap.size rfl (.tmp 12) (.tmp 18) 28 56 (.agg #[(.int .i64 0), (.int .i64 0), (.slice none 0 0)]) 40 rfl Tryz.underlying28 Xf5 rfl (by decide) (by omega) u3 Xl (⟨Xkt, Xku, XeM⟩ : S56) [.int .i64 Xkt, .int .i64 Xku, .slice XeJ XeM.length Kw] (fun _ => True) (fun k_ => some k_ = (.slice XeJ XeM.length Kw : Value).ownBlock) rfl rfl ?aP (fun k_ hk_ => ((Kd.XZ (ok' := fun k_ => ((fun _ => True)) k_ ∧ some k_ ≠ (u3 : Value).ownBlock) (Kd.FU (XhZ.out) (Kd.UM HO_3.out) (by decide)) (fun k_ hk => ⟨trivial, hk.2⟩))).1 k_ hk_.symm) ?aF ?aO ?aB ?aS ?aL ?_; (case aP => exact Ul _ _ _ (⟨Xkt, Xku, XeM⟩ : S56) (Kd.XZ (Kd.PY rfl (Kd.XZ (ok' := fun k_ => ((fun _ => True)) k_ ∧ some k_ ≠ (u3 : Value).ownBlock) (Kd.FU (XhZ.out) (Kd.UM HO_3.out) (by decide)) (fun k_ hk => ⟨trivial, hk.2⟩))) (fun _ h_ => h_))); (case aB => exact zb0); (case aF => exact zb89); (case aO => exact (by (with_reducible repeat (first | apply Kd.J7 | apply Kd.JK | apply Kd.JO)); exact Kd.J3 HO_3.out (fun k_ hk => ⟨trivial, fun e_ => hk.2 e_⟩))); (case aS => exact (XA zb0)); (case aL => have := LMc7.out; omega); intro v127 w9 ho hb hg hat; rw [← Ny126.out] at ho; replace HB := az (hb); have XvD := az (ho); clear HO_3 XhZ; clear ho hb hg hat))
      go_roundg k1
      case measure => have := HK1.out; omega
      case rel => exact ⟨(y126), (wrap64 (X4 + 1)), zb5, H', ⟨zb33⟩, ⟨by (with_reducible repeat (first | apply Kd.J7 | apply Kd.JK | apply Kd.JO)); exact XvD.out⟩, ⟨zb0⟩⟩
     ·rw [if_neg c7] at H
      exact absurd H (by simp)
    ·rw [if_neg c5] at H
     exact absurd H (by simp)
   ·rw [if_neg c4] at H
    have c4b0 : decide (X4 < (l0.length : Int)) = false := decide_eq_false c4; clear c4; obtain rfl := Option.some.inj H
    go_wp2
    go_ret
    exact ⟨_, zb4, zb37, zb0⟩
def XL.l0 : Nat → List (S76) → List (S56) → Int → Option ((List (S56)))
 | 0, _, _, _ => none
 | k + 1, x1, x5, x6 => if x6 < (x1.length : Int) then (if 0 ≤ x6 then ((ZP.f ((Xa x1 x6).f0)).bind fun t147 => (if t147 = true then (if 0 ≤ ((Xa x1 x6).f2) then (if ((Xa x1 x6).f2) < (x5.length : Int) then (if ((Xb x5 ((Xa x1 x6).f2)).f0) < (wrap64 (x6 + 1)) then ((VD.f ((Xb x5 ((Xa x1 x6).f2)).f0) ((Xb x5 ((Xa x1 x6).f2)).f1) ((Xb x5 ((Xa x1 x6).f2)).f2) ((Xa x1 x6).f0) ((Xa x1 x6).f1) ((Xa x1 x6).f2) ((Xa x1 x6).f3) ((Xa x1 x6).f4) ((Xa x1 x6).f5) ((Xa x1 x6).f6) ((Xa x1 x6).f7) (wrap64 (x6 + 1))).bind fun Xmn => (XL.l0 k x1 (x5.set (((Xa x1 x6).f2) : Int).toNat (⟨Xmn.1, Xmn.2.1, Xmn.2.2⟩ : S56)) (wrap64 (x6 + 1)))) else (XL.l0 k x1 x5 (wrap64 (x6 + 1)))) else (none)) else (none)) else (XL.l0 k x1 x5 (wrap64 (x6 + 1))))) else (none)) else (some x5)
def XL.f (k : Nat) (l0 : List (S56)) (l1 : List (S76)) : Option ((List (S56))) := (Yo.f k l0).bind fun t142 => (XL.l0 k l1 t142 0)
end Go.Proofs.YtphnphmbfogmlaaGreat.Pr
