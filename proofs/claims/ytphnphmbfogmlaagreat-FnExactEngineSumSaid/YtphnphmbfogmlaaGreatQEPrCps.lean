import Derived.Test.YtphnphmbfogmlaaGreatQEByq
import Derived.Test.YtphnphmbfogmlaaGreatQEPrK
import Derived.Test.YtphnphmbfogmlaaGreatQESx
import Derived.Test.YtphnphmbfogmlaaGreatQEPrGood
import Derived.Test.YtphnphmbfogmlaaGreatQEWith
namespace Go.Proofs.YtphnphmbfogmlaaGreat.Pr
open Go.RowKit Go.PW Go.PL Go.PM
attribute [local go_sem] YO YP Zm Zn Yv Yw YQ YS
set_option linter.unusedVariables false
set_option linter.unusedSimpArgs false
def Z6.l0 : Nat → List (S56) → List (S56) → Int → Int → Option ((List (S56)))
 | 0, _, _, _, _ => none
 | k + 1, x3, x6, x7, x8 => if x8 < x7 then (if 0 ≤ x8 then (if x8 < (x6.length : Int) then ((Ym.f ((Xb x6 x8).f0) ((Xb x6 x8).f1) ((Xb x6 x8).f2)).bind fun XpG => (if x3.length < 3518437208883 then (Z6.l0 k (x3 ++ [(⟨XpG.1, XpG.2.1, XpG.2.2⟩ : S56)]) x6 x7 (wrap64 (x8 + 1))) else (none))) else (none)) else (none)) else (some x3)
def Z6.f (k : Nat) (l0 : List (S56)) : Option ((List (S56))) := Z6.l0 k ([] : List (S56)) l0 (l0.length : Int) 0
set_option maxHeartbeats 8000000 in
set_option maxRecDepth 100000 in
theorem Z6.calls (k : Nat) (A0 : Option Addr) (c0 : Nat) (l0 : List (S56)) (r : List (S56)) (w : World) (hr0 : Kd.C k56 w A0 l0.length l0) (hc0 : l0.length ≤ c0) (h : Z6.f k l0 = some r) :
 Calls Tryz.prog 67 #[.slice A0 l0.length c0] w fun e w' => ∃ v0_ : Value, e = .returned (v0_) ∧ Kd.S k56 56 w' w.heap.size (fun _ => True) v0_ r ∧ Below w.heap.size w w' := by
 have hu56 := Tryz.underlying56; have HR0 := az hr0; have HC0 := az hc0; clear hr0 hc0; have HB := az (Below.refl w.heap.size w); have H : (Z6.l0 k ([] : List (S56)) l0 (l0.length : Int) 0) = some r := h; clear h; have H' := az H; clear H
 go_enter Tryz.func67, Tryz.ntmps67
 go_wp2
 go_loopg [3, 8] k (fun kq v3 v8 w' => ∃ (Xt : List (S56)) (J6 : Int), v8 = .int .i64 J6 ∧ Aside0 (Z6.l0 kq Xt l0 (l0.length : Int) J6 = some r) ∧ Aside0 (kq ≤ k) ∧ Aside0 (Kd.S k56 56 w' w.heap.size (fun _ => True) v3 Xt) ∧ Aside0 (Below w.heap.size w w'))
 case atStart => exact ⟨(([] : List (S56))), (0), zb6, H', ⟨Nat.le_refl _⟩, ⟨by first | exact Kd.XwN _ _ _ _ _ | exact Kd.XwK _ _ _ _ _ | exact Kd.XwL _ _ _ _ _ | exact Kd.XwM _ _ _ _ _ | exact Kd.Qe _ _ _ _ _⟩, ⟨zb1⟩⟩
 case round =>
  clear H'; obtain ⟨Xt, J6, rfl, HA, HK1, HO_3, HB⟩ := hrel
  cases gk with
  | zero => exact absurd HA.out (by simp [Z6.l0])
  | succ k1 =>
   have H := HA.out; clear HA; simp only [Z6.l0] at H
   by_cases c2 : J6 < (l0.length : Int)
   ·rw [if_pos c2] at H
    have c2b0 : decide (J6 < (l0.length : Int)) = true := decide_eq_true c2; clear c2
    by_cases c3 : 0 ≤ J6
    ·rw [if_pos c3] at H
     have c3b0 : decide (0 ≤ J6) = true := decide_eq_true c3; clear c3
     by_cases c4 : J6 < (l0.length : Int)
     ·rw [if_pos c4] at H
      have c4b0 : decide (J6 < (l0.length : Int)) = true := decide_eq_true c4; clear c4; replace H := Option.bind_eq_some_iff.mp H; obtain ⟨⟨XnV, XnW, Xhv⟩, A50, H⟩ := H; replace H : (if Xt.length < 3518437208883 then (Z6.l0 k1 (Xt ++ [(⟨XnV, XnW, Xhv⟩ : S56)]) l0 (l0.length : Int) (wrap64 (J6 + 1))) else (none)) = some r := H; have A5 := az A50; clear A50
      by_cases c6 : Xt.length < 3518437208883
      ·rw [if_pos c6] at H
       have LMc6 := az c6; clear c6
       obtain ⟨y382, hy382⟩ : ∃ y_ : List (S56), y_ = (Xt ++ [(⟨XnV, XnW, Xhv⟩ : S56)]) := ⟨_, rfl⟩
       replace H : (Z6.l0 k1 y382 l0 (l0.length : Int) (wrap64 (J6 + 1))) = some r := by first | (rw [hy382]; with_reducible exact H) | (have H2_ := (Option.bind_some _ _).symm.trans H; rw [hy382]; with_reducible exact H2_) | (have H2_ := (Option.bind_some _ _).symm.trans H; with_reducible exact H2_) | with_reducible exact H | (rw [hy382]; exact H) | exact H
       have Ny382 := az hy382; clear hy382; have H' := az H; clear H; have Xxa : 0 ≤ (J6 : Int) := of_decide_eq_true zb3; have Xxb : J6 < (l0.length : Int) := of_decide_eq_true zb3; obtain ⟨ad375, Ia, Ib, e375, XcJ, XcK, XcL, hl375_2, hi375_2⟩ := ZU HR0.out J6 Xxa Xxb
       cases e375
       replace XcJ := (HB.out.cell (World.block_lt_of_cell? w _ XcJ)).trans XcJ; replace XcK := (HB.out.cell (World.block_lt_of_cell? w _ XcK)).trans XcK; replace XcL := (HB.out.cell (World.block_lt_of_cell? w _ XcL)).trans XcL; have Xsc := az hi375_2; have Xsd := az hl375_2; clear hi375_2 hl375_2; replace Xxa := eq_true Xxa; replace Xxb := eq_true Xxb
       go_wp2_with (first | ((with_reducible refine Xn (N := 5) rfl ?_); refine Xl ?hg (N := 5) ?hd (cs := #[.int .i64 0, .int .i64 0, .slice none 0 0]) (t := 56) ?hr ?_; (case hd => rfl); (case hg => rfl); (case hr => exact zb10); intro Wt hg w7 hbox hb; replace HO_3 := az (Kd.Yg (Kd.QQ zb42 Wt (Nat.le_of_eq hg.symm)) hb); have WX := az (hbox); have XzO := az ((zb129 : w.heap.size ≤ Wt)); have GE376 := XzO; replace HB := az (Xc zb1 hb); clear hb hbox hg; obtain ⟨Fp, Fq, Fs⟩ := cz3 WX; have Fu := Xd WX.out 0; have Fv := Xd WX.out 1; have Fw := Xd WX.out 2) | ((with_reducible refine Xi (f := 96) rfl ?_); refine XI (some 14) rfl rfl Tryz.func96 zb9 rfl #[.agg #[.int .i64 ((Xb l0 J6).f0), .int .i64 ((Xb l0 J6).f1), .slice Ia ((Xb l0 J6).f2).length Ib]] rfl zb2 ?_; (with_reducible refine (Ym.calls ((Xb l0 J6).f0) ((Xb l0 J6).f1) _ _ ((Xb l0 J6).f2) XnV XnW Xhv _ ?side1 ?side2 A5.out).mono ?_); (case side1 => exact Kd.Xr Xsc.out zb0); (case side2 => exact Xsd.out); rintro e w9 ⟨v380, rfl, ho0, hb⟩; refine ⟨_, rfl, ?_⟩; replace HO_3 := az (Kd.Sw (by (with_reducible repeat (first | apply Kd.Yo | apply Kd.Yp | apply Kd.Y4)); exact (Kd.Ze (Kd.Yx (p := ⟨Wt, 2, none⟩) (Kd.Yx (p := ⟨Wt, 1, none⟩) (Kd.Yx (p := ⟨Wt, 0, none⟩) (Kd.Ze HO_3.out (fun k_ hk => (⟨hk, hk.2⟩ : _ ∧ k_ ≠ Wt))) (fun _ hk => hk.2) (.int .i64 ((Xb l0 J6).f0))) (fun _ hk => hk.2) (.int .i64 ((Xb l0 J6).f1))) (fun _ hk => hk.2) (.slice Ia ((Xb l0 J6).f2).length Ib)) (fun _ h_ => h_.1))) (Kd.Vt ho0) hb); have Xj6 := az (Kd.Zh ho0 (Xv zb0)); replace WX := az (XC (g := Wt) (o := .cells #[.int .i64 ((Xb l0 J6).f0), .int .i64 ((Xb l0 J6).f1), .slice Ia ((Xb l0 J6).f2).length Ib] 56 (0, 0)) (by (with_reducible repeat (first | apply bn | apply bd | apply ba)); exact p3 WX) hb); replace HB := az (Xc zb0 hb); (try clear hb); (try clear hb2); (try clear hk); (try clear hi); (try clear ho0); obtain ⟨Ao11, co11, eo11⟩ := Kd.YZ Xj6.out; subst eo11) | ((with_reducible refine JV (b := .append) (xs := #[.tmp 12, .tmp 15]) rfl ?_); at_builtin; refine Kd.XgV k56 (w0 := w) w.heap.size rfl (.tmp 12) (.tmp 15) 28 56 (.agg #[(.int .i64 0), (.int .i64 0), (.slice none 0 0)]) 40 rfl Tryz.underlying28 XiU rfl (by decide) (by omega) u3 Xt (⟨XnV, XnW, Xhv⟩ : S56) [.int .i64 XnV, .int .i64 XnW, .slice Ao11 Xhv.length co11] (fun k_ => k_ ≠ Wt) (fun k_ => some k_ = (.slice Ao11 Xhv.length co11 : Value).ownBlock) rfl rfl ?aP (fun k_ hk_ => ((Kd.Yz (ok' := fun k_ => ((fun k_ => k_ ≠ Wt)) k_ ∧ some k_ ≠ (u3 : Value).ownBlock) (Kd.ZX (Kd.Uv (Xj6.out) (Kd.NC HO_3.out) (by decide)) WX.out (by decide)) (fun k_ hk => ⟨hk.2, hk.1.2⟩))).1 k_ hk_.symm) ?aF ?aO ?aB ?aS ?aL ?_; (case aP => exact NA _ _ _ (⟨XnV, XnW, Xhv⟩ : S56) (Kd.Yz (Kd.OE rfl (Kd.Yz (ok' := fun k_ => ((fun k_ => k_ ≠ Wt)) k_ ∧ some k_ ≠ (u3 : Value).ownBlock) (Kd.ZX (Kd.Uv (Xj6.out) (Kd.NC HO_3.out) (by decide)) WX.out (by decide)) (fun k_ hk => ⟨hk.2, hk.1.2⟩))) (fun _ h_ => h_))); (case aB => exact zb0); (case aF => exact (fun k_ hk => Kd.DU (g := Wt) (o := .cells #[.int .i64 ((Xb l0 J6).f0), .int .i64 ((Xb l0 J6).f1), .slice Ia ((Xb l0 J6).f2).length Ib] 56 (0, 0)) (by (with_reducible repeat (first | apply bn | apply bd | apply ba)); exact WX.out) k_ hk)); (case aO => exact (by (with_reducible repeat (first | apply Kd.Yo | apply Kd.Yp | apply Kd.Y4)); exact Kd.Ze HO_3.out (fun k_ hk => ⟨hk.1.2, fun e_ => hk.2 e_⟩))); (case aS => exact (Xv zb0)); (case aL => have := LMc6.out; omega); intro v383 w10 ho hb hg hat; rw [← Ny382.out] at ho; replace WX := az (Gn (g := Wt) (o := .cells #[.int .i64 ((Xb l0 J6).f0), .int .i64 ((Xb l0 J6).f1), .slice Ia ((Xb l0 J6).f2).length Ib] 56 (0, 0)) (by (with_reducible repeat (first | apply bn | apply bd | apply ba)); exact WX.out) hg (Kd.CE HO_3.out (fun _ hk => hk.1.2))); replace HB := az (hb); have XzP := az (ho); clear HO_3 Xj6; clear ho hb hg hat))
       go_roundg k1
       case measure => have := HK1.out; omega
       case rel => exact ⟨(y382), (wrap64 (J6 + 1)), zb6, H', ⟨zb37⟩, ⟨by (with_reducible repeat (first | apply Kd.Yo | apply Kd.Yp | apply Kd.Y4)); exact Kd.Ze XzP.out (fun _ hk => trivial)⟩, ⟨zb0⟩⟩
      ·rw [if_neg c6] at H
       exact absurd H (by simp)
     ·rw [if_neg c4] at H
      exact absurd H (by simp)
    ·rw [if_neg c3] at H
     exact absurd H (by simp)
   ·rw [if_neg c2] at H
    have c2b0 : decide (J6 < (l0.length : Int)) = false := decide_eq_false c2; clear c2; obtain rfl := Option.some.inj H
    go_wp2
    go_ret
    exact ⟨_, zb4, zb42, zb1⟩
end Go.Proofs.YtphnphmbfogmlaaGreat.Pr
