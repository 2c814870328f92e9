import Derived.Test.YtcefiblpnegepaaQAByq
import Derived.Test.YtcefiblpnegepaaQAWLog
import Derived.Test.YtcefiblpnegepaaQAWEngA
import Derived.Test.YtcefiblpnegepaaQASx
import Derived.Test.YtcefiblpnegepaaQAPrM
namespace Go.Proofs.Ytcefiblpnegepaa.Pr
open Go.RowKit Go.PW Go.PL Go.PM
attribute [local go_sem] YB YC Zc Zd Yn Yo YD YE
set_option linter.unusedVariables false
set_option linter.unusedSimpArgs false
def Xn.l0 : Nat → List (S41) → Int → Int → Option (Int)
  | 0, _, _, _ => none
  | k + 1, x0, x1, x5 => if x5 ≥ 0 then (if 0 ≤ x5 then (if x5 < (x0.length : Int) then (if ((Xa x0 x5).f1) = x1 then (if ((Xa x0 x5).f0) = 4 then (some 0) else (if ((Xa x0 x5).f0) = 5 then (some 0) else (some (wrap64 (x5 + 1))))) else (Xn.l0 k x0 x1 (wrap64 (x5 - 1)))) else (none)) else (none)) else (some 0)
def Xn.f (k : Nat) (l0 : List (S41)) (a1 : Int) : Option (Int) := Xn.l0 k l0 a1 (wrap64 ((l0.length : Int) - 1))
theorem Xn.Gu : ∀ k, (∀ y0 y1 y2, LeO (Xn.l0 k y0 y1 y2) (Xn.l0 (k + 1) y0 y1 y2))
  | 0 => fun _ _ _ r h => by simp [Xn.l0] at h
  | k + 1 => by
    have ih0 := Xn.Gu k
    · intro y0 y1 y2
      unfold Xn.l0
      repeat' first
      | (with_reducible exact ih0 _ _ _)
      | (with_reducible exact LeO.refl _)
      | (with_reducible exact LeO.none _)
      | (with_reducible refine LeO.ite ?_ ?_)
      | (with_reducible refine LeO.bind ?_ (fun _ => ?_))
      | exact ih0 _ _ _
      | exact LeO.none _
      | refine LeO.ite ?_ ?_
      | refine LeO.bind ?_ (fun _ => ?_)
theorem Xn.mono : ∀ a0 a1 k, LeO (Xn.f k a0 a1) (Xn.f (k + 1) a0 a1) := by
  intro a0 a1 k; have ih0 := Xn.Gu k
  unfold Xn.f
  repeat' first
      | (with_reducible exact ih0 _ _ _)
      | (with_reducible exact LeO.refl _)
      | (with_reducible exact LeO.none _)
      | (with_reducible refine LeO.ite ?_ ?_)
      | (with_reducible refine LeO.bind ?_ (fun _ => ?_))
      | exact ih0 _ _ _
      | exact LeO.none _
      | refine LeO.ite ?_ ?_
      | refine LeO.bind ?_ (fun _ => ?_)
set_option maxHeartbeats 8000000 in
set_option maxRecDepth 100000 in
theorem Xn.calls (k : Nat) (A0 : Option Addr) (c0 : Nat) (l0 : List (S41)) (a1 : Int) (r : Int) (w : World) (hr0 : Kd.C k41 w A0 l0.length l0) (hc0 : l0.length ≤ c0) (h : Xn.f k l0 a1 = some r) :
    Calls Try.prog 84 #[.slice A0 l0.length c0, .int .i64 a1] w fun e w' => e = .returned (.int .i64 r) ∧ Vp w w' := by
  have HR0 := zz hr0; have HC0 := zz hc0; clear hr0 hc0; have H : (Xn.l0 k l0 a1 (wrap64 ((l0.length : Int) - 1))) = some r := h; clear h; have H' := zz H; clear H
  go_enter Try.func84, Try.ntmps84
  go_wp2
  go_loopg [5] k (fun kq v5 w' => ∃ (Yj : Int), v5 = .int .i64 Yj ∧ Aside0 (Xn.l0 kq l0 a1 Yj = some r) ∧ Aside0 (kq ≤ k) ∧ Vp w w')
  case atStart => exact ⟨(wrap64 ((l0.length : Int) - 1)), zb12, H', ⟨Nat.le_refl _⟩, zb25⟩
  case round =>
    clear H'
    try clear p2
    obtain ⟨Yj, rfl, HA, HK1, ⟨m1, rfl⟩⟩ := hrel
    cases gk with
    | zero => exact absurd HA.out (by simp [Xn.l0])
    | succ k1 =>
      have H := HA.out; clear HA; simp only [Xn.l0] at H
      by_cases c3 : Yj ≥ 0
      · rw [if_pos c3] at H
        have c3b0 : decide (0 ≤ Yj) = true := decide_eq_true c3; clear c3
        by_cases c4 : 0 ≤ Yj
        · rw [if_pos c4] at H
          have c4b0 : decide (0 ≤ Yj) = true := decide_eq_true c4; clear c4
          by_cases c5 : Yj < (l0.length : Int)
          · rw [if_pos c5] at H
            have c5b0 : decide (Yj < (l0.length : Int)) = true := decide_eq_true c5; clear c5
            by_cases c6 : ((Xa l0 Yj).f1) = a1
            · rw [if_pos c6] at H
              have c6b0 : (((Xa l0 Yj).f1) == a1) = true := beq_iff_eq.mpr c6; have c6b1 : (((Xa l0 Yj).f1) != a1) = false := bne_eq_false_iff_eq.mpr c6; clear c6
              by_cases c7 : ((Xa l0 Yj).f0) = 4
              · rw [if_pos c7] at H
                have c7b0 : (((Xa l0 Yj).f0) == 4) = true := beq_iff_eq.mpr c7; have c7b1 : (((Xa l0 Yj).f0) != 4) = false := bne_eq_false_iff_eq.mpr c7; clear c7; obtain rfl := Option.some.inj H; have Ke : 0 ≤ (Yj : Int) := of_decide_eq_true zb7; have Kg : Yj < (l0.length : Int) := of_decide_eq_true zb7; obtain ⟨Rv, Xbw, Qt, Qu, Qv, Qw, Qx, Qy, Qz, Q7⟩ := XV HR0.out Yj Ke Kg
                cases Xbw
                replace Ke := eq_true Ke; replace Kg := eq_true Kg; have BX : 0 ≤ (Yj : Int) := of_decide_eq_true zb7; have BZ : Yj < (l0.length : Int) := of_decide_eq_true zb7; obtain ⟨XaH, Xgg, Xdj, Xdk, Xdl, Xdm, Xdn, Xdo, Xdp, Xdq⟩ := XV HR0.out Yj BX BZ
                obtain rfl : Rv = XaH := (by injection Xgg)
                replace BX := eq_true BX; replace BZ := eq_true BZ
                go_wp2
                go_ret
                exact ⟨zb12, zb25⟩
              · rw [if_neg c7] at H
                have c7b0 : (((Xa l0 Yj).f0) == 4) = false := beq_eq_false_iff_ne.mpr c7; have c7b1 : (((Xa l0 Yj).f0) != 4) = true := bne_iff_ne.mpr c7
                by_cases c8 : ((Xa l0 Yj).f0) = 5
                · rw [if_pos c8] at H
                  have c8b0 : (((Xa l0 Yj).f0) == 5) = true := beq_iff_eq.mpr c8; have c8b1 : (((Xa l0 Yj).f0) != 5) = false := bne_eq_false_iff_eq.mpr c8; clear c8; obtain rfl := Option.some.inj H; have Ke : 0 ≤ (Yj : Int) := of_decide_eq_true zb7; have Kg : Yj < (l0.length : Int) := of_decide_eq_true zb7; obtain ⟨Rv, Xbw, Qt, Qu, Qv, Qw, Qx, Qy, Qz, Q7⟩ := XV HR0.out Yj Ke Kg
                  cases Xbw
                  replace Ke := eq_true Ke; replace Kg := eq_true Kg; have BX : 0 ≤ (Yj : Int) := of_decide_eq_true zb7; have BZ : Yj < (l0.length : Int) := of_decide_eq_true zb7; obtain ⟨XaH, Xgg, Xdj, Xdk, Xdl, Xdm, Xdn, Xdo, Xdp, Xdq⟩ := XV HR0.out Yj BX BZ
                  obtain rfl : Rv = XaH := (by injection Xgg)
                  replace BX := eq_true BX; replace BZ := eq_true BZ; have Xbx : 0 ≤ (Yj : Int) := of_decide_eq_true zb7; have Xby : Yj < (l0.length : Int) := of_decide_eq_true zb7; obtain ⟨Xgh, XnB, Xkd, Xke, Xkf, Xkg, Xkh, Xki, Xkj, Xkk⟩ := XV HR0.out Yj Xbx Xby
                  obtain rfl : Rv = Xgh := (by injection XnB)
                  replace Xbx := eq_true Xbx; replace Xby := eq_true Xby
                  go_wp2
                  go_ret
                  exact ⟨zb12, zb25⟩
                · rw [if_neg c8] at H
                  have c8b0 : (((Xa l0 Yj).f0) == 5) = false := beq_eq_false_iff_ne.mpr c8; have c8b1 : (((Xa l0 Yj).f0) != 5) = true := bne_iff_ne.mpr c8; obtain rfl := Option.some.inj H; have Ke : 0 ≤ (Yj : Int) := of_decide_eq_true zb7; have Kg : Yj < (l0.length : Int) := of_decide_eq_true zb7; obtain ⟨Rv, Xbw, Qt, Qu, Qv, Qw, Qx, Qy, Qz, Q7⟩ := XV HR0.out Yj Ke Kg
                  cases Xbw
                  replace Ke := eq_true Ke; replace Kg := eq_true Kg; have BX : 0 ≤ (Yj : Int) := of_decide_eq_true zb7; have BZ : Yj < (l0.length : Int) := of_decide_eq_true zb7; obtain ⟨XaH, Xgg, Xdj, Xdk, Xdl, Xdm, Xdn, Xdo, Xdp, Xdq⟩ := XV HR0.out Yj BX BZ
                  obtain rfl : Rv = XaH := (by injection Xgg)
                  replace BX := eq_true BX; replace BZ := eq_true BZ; have Xbx : 0 ≤ (Yj : Int) := of_decide_eq_true zb7; have Xby : Yj < (l0.length : Int) := of_decide_eq_true zb7; obtain ⟨Xgh, XnB, Xkd, Xke, Xkf, Xkg, Xkh, Xki, Xkj, Xkk⟩ := XV HR0.out Yj Xbx Xby
                  obtain rfl : Rv = Xgh := (by injection XnB)
                  replace Xbx := eq_true Xbx; replace Xby := eq_true Xby
                  go_wp2
                  go_ret
                  exact ⟨zb12, zb25⟩
            · rw [if_neg c6] at H
              have c6b0 : (((Xa l0 Yj).f1) == a1) = false := beq_eq_false_iff_ne.mpr c6; have c6b1 : (((Xa l0 Yj).f1) != a1) = true := bne_iff_ne.mpr c6; have H' := zz H; clear H; have Ke : 0 ≤ (Yj : Int) := of_decide_eq_true zb7; have Kg : Yj < (l0.length : Int) := of_decide_eq_true zb7; obtain ⟨Rv, Xbw, Qt, Qu, Qv, Qw, Qx, Qy, Qz, Q7⟩ := XV HR0.out Yj Ke Kg
              cases Xbw
              replace Ke := eq_true Ke; replace Kg := eq_true Kg
              go_wp2
              go_roundg k1
              case measure => have := HK1.out; omega
              case rel => exact ⟨(wrap64 (Yj - 1)), zb12, H', ⟨zb54⟩, zb25⟩
          · rw [if_neg c5] at H
            exact absurd H (by simp)
        · rw [if_neg c4] at H
          exact absurd H (by simp)
      · rw [if_neg c3] at H
        have c3b0 : decide (0 ≤ Yj) = false := decide_eq_false c3; clear c3; obtain rfl := Option.some.inj H
        go_wp2
        go_ret
        exact ⟨zb12, zb25⟩
end Go.Proofs.Ytcefiblpnegepaa.Pr
namespace Go.Proofs.Ytcefiblpnegepaa.Pr
open Go.RowKit Go.PW Go.PL Go.PM
attribute [local go_sem] YB YC Zc Zd Yn Yo YD YE
set_option linter.unusedVariables false
set_option linter.unusedSimpArgs false
def YF.l0 : Nat → List (S25) → Int → Option ((List (S25)))
  | 0, _, _ => none
  | k + 1, x1, x2 => if x2 < 5 then ((Fj.f).bind fun XgS => (if x1.length < 3518437208883 then (YF.l0 k (x1 ++ [(⟨XgS.1, XgS.2.1, XgS.2.2⟩ : S25)]) (wrap64 (x2 + 1))) else (none))) else (some x1)
def YF.f (k : Nat)  : Option ((List (S25))) := YF.l0 k (([] : List (S25))) 0
set_option maxHeartbeats 8000000 in
set_option maxRecDepth 100000 in
theorem YF.calls (k : Nat)  (r : List (S25)) (w : World) (h : YF.f k  = some r) :
    Calls Try.prog 95 #[] w fun e w' => ∃ v0_ : Value, e = .returned (v0_) ∧ Kd.S k25 25 w' w.heap.size (fun _ => True) v0_ r ∧ Below w.heap.size w w' := by
  have HB := zz (Below.refl w.heap.size w); have H : (YF.l0 k (([] : List (S25))) 0) = some r := h; clear h
  obtain ⟨y598, hy598⟩ : ∃ y_ : List (S25), y_ = (([] : List (S25))) := ⟨_, rfl⟩
  replace H : (YF.l0 k y598 0) = some r := by first | (rw [hy598]; with_reducible exact H) | (have H2_ := (Option.bind_some _ _).symm.trans H; rw [hy598]; with_reducible exact H2_) | (have H2_ := (Option.bind_some _ _).symm.trans H; with_reducible exact H2_) | with_reducible exact H | (rw [hy598]; exact H) | exact H
  have Ny598 := zz hy598; clear hy598; have H' := zz H; clear H
  go_enter Try.func95, Try.ntmps95
  go_wp2_with (first | ((with_reducible refine XO (N := 3) rfl ?_); refine Kd.XmG k25 _ 25 ?hg (N := 3) ?hd (xs := ([] : List (S25))) (inner := []) (ok := fun _ => True) (okp := fun _ => True) ?hr ?hp (fun _ hk => hk) trivial (Below.refl _ _) (Nat.le_refl _) (by simp) ?_; (case hd => rfl); (case hg => rfl); (case hr => exact zb22); (case hp => exact zb121); intro v599 w1 ho2 hb hg_ hnew_; clear hg_ hnew_; (first | rw [← Ny598.out] at ho2 | (simp only [Int.reduceToNat] at ho2; rw [← Ny598.out] at ho2)); have n0_ := zz (Kd.SG ho2 (Xr zb4)); have n1_ := zz (Xe zb4 hb); clear HB; have XtD := n0_; have HB := n1_; clear n0_ n1_; clear hb ho2))
  go_loopg [1, 2] k (fun kq v1 v2 w' => ∃ (Nr : List (S25)) (QE : Int), v2 = .int .i64 QE ∧ Aside0 (YF.l0 kq Nr QE = some r) ∧ Aside0 (kq ≤ k) ∧ Aside0 (Kd.S k25 25 w' w.heap.size (fun _ => True) v1 Nr) ∧ Aside0 (Below w.heap.size w w'))
  case atStart => exact ⟨(y598), (0), zb12, H', ⟨Nat.le_refl _⟩, ⟨by (with_reducible repeat (first | apply Kd.V9 | apply Kd.VA | apply Kd.Fb)); exact XtD.out⟩, ⟨zb4⟩⟩
  case round =>
    clear H'
    try clear p2
    obtain ⟨Nr, QE, rfl, HA, HK1, HO_1, HB⟩ := hrel
    cases gk with
    | zero => exact absurd HA.out (by simp [YF.l0])
    | succ k1 =>
      have H := HA.out; clear HA; simp only [YF.l0] at H
      by_cases c3 : QE < 5
      · rw [if_pos c3] at H
        have c3b0 : decide (QE < 5) = true := decide_eq_true c3; clear c3; replace H := Option.bind_eq_some_iff.mp H; obtain ⟨⟨Xep, Xeq, XbE⟩, A40, H⟩ := H; replace H : (if Nr.length < 3518437208883 then (YF.l0 k1 (Nr ++ [(⟨Xep, Xeq, XbE⟩ : S25)]) (wrap64 (QE + 1))) else (none)) = some r := H; have A4 := zz A40; clear A40
        by_cases c5 : Nr.length < 3518437208883
        · rw [if_pos c5] at H
          have LMc5 := zz c5; clear c5
          obtain ⟨y606, hy606⟩ : ∃ y_ : List (S25), y_ = (Nr ++ [(⟨Xep, Xeq, XbE⟩ : S25)]) := ⟨_, rfl⟩
          replace H : (YF.l0 k1 y606 (wrap64 (QE + 1))) = some r := by first | (rw [hy606]; with_reducible exact H) | (have H2_ := (Option.bind_some _ _).symm.trans H; rw [hy606]; with_reducible exact H2_) | (have H2_ := (Option.bind_some _ _).symm.trans H; with_reducible exact H2_) | with_reducible exact H | (rw [hy606]; exact H) | exact H
          have Ny606 := zz hy606; clear hy606; have H' := zz H; clear H
          go_wp2_with (first | ((with_reducible refine Xg (f := 111) rfl ?_); refine Xz (some 9) rfl rfl Try.func111 zb14 rfl #[] rfl zb0 ?_; (with_reducible refine (Fj.calls  Xep Xeq XbE _ A4.out).mono ?_); rintro e w6 ⟨v604, rfl, ho0, hb⟩; refine ⟨_, rfl, ?_⟩; have n0_ := zz (Kd.WR (by (with_reducible repeat (first | apply Kd.V9 | apply Kd.VA | apply Kd.Fb)); exact HO_1.out) (Kd.ZH ho0) hb); have n1_ := zz (Kd.Ye ho0 (Xr zb4)); have n2_ := zz (Xe zb4 hb); clear HO_1; clear HB; have HO_1 := n0_; have Xd7 := n1_; have HB := n2_; clear n0_ n1_ n2_; (try clear hb); (try clear hb2); (try clear hk); (try clear hi); (try clear ho0); obtain ⟨Ao8, co8, eo8⟩ := Kd.Xx Xd7.out; subst eo8) | ((with_reducible refine Zh (b := .append) (xs := #[.tmp 8, .tmp 10]) rfl ?_); at_builtin; refine Kd.Xbd k25 (w0 := w) w.heap.size rfl (.tmp 8) (.tmp 10) 50 25 (.agg #[(.int .i64 0), (.int .i64 0), (.slice none 0 0)]) 40 rfl Try.underlying50 XhA rfl (by decide) (by omega) u1 Nr (⟨Xep, Xeq, XbE⟩ : S25) [.int .i64 Xep, .int .i64 Xeq, .slice Ao8 XbE.length co8] (fun _ => True) (fun k_ => some k_ = (.slice Ao8 XbE.length co8 : Value).ownBlock) rfl rfl ?aP (fun k_ hk_ => ((Kd.XY (ok' := fun k_ => ((fun _ => True)) k_ ∧ some k_ ≠ (u1 : Value).ownBlock) (Kd.LA (Xd7.out) (Kd.CX HO_1.out) (by decide)) (fun k_ hk => ⟨trivial, hk.2⟩))).1 k_ hk_.symm) ?aF ?aO ?aB ?aS ?aL ?_; (case aP => exact Pe _ _ _ (⟨Xep, Xeq, XbE⟩ : S25) (Kd.XY (Kd.Uf rfl (Kd.XY (ok' := fun k_ => ((fun _ => True)) k_ ∧ some k_ ≠ (u1 : Value).ownBlock) (Kd.LA (Xd7.out) (Kd.CX HO_1.out) (by decide)) (fun k_ hk => ⟨trivial, hk.2⟩))) (fun _ h_ => h_))); (case aB => exact zb4); (case aF => exact zb135); (case aO => exact (by (with_reducible repeat (first | apply Kd.V9 | apply Kd.VA | apply Kd.Fb)); exact Kd.Kj HO_1.out (fun k_ hk => ⟨trivial, fun e_ => hk.2 e_⟩))); (case aS => exact (Xr zb4)); (case aL => have := LMc5.out; omega); intro v607 w7 ho hb hg hat; rw [← Ny606.out] at ho; have n0_ := zz (hb); have n1_ := zz (ho); clear HB; clear HO_1; clear Xd7; have HB := n0_; have XtE := n1_; clear n0_ n1_; clear ho hb hg hat))
          go_roundg k1
          case measure => have := HK1.out; omega
          case rel => exact ⟨(y606), (wrap64 (QE + 1)), zb12, H', ⟨zb54⟩, ⟨by (with_reducible repeat (first | apply Kd.V9 | apply Kd.VA | apply Kd.Fb)); exact XtE.out⟩, ⟨zb4⟩⟩
        · rw [if_neg c5] at H
          exact absurd H (by simp)
      · rw [if_neg c3] at H
        have c3b0 : decide (QE < 5) = false := decide_eq_false c3; clear c3; obtain rfl := Option.some.inj H
        go_wp2
        go_ret
        exact ⟨_, zb8, by (with_reducible repeat (first | apply Kd.V9 | apply Kd.VA | apply Kd.Fb)); exact HO_1.out, zb4⟩
def VP.f (k : Nat)  : Option ((List (S25)) × (List (S25)) × (List (S41)) × Int × Bool) := (YF.f k).bind fun t610 => ((YF.f k).bind fun t613 => (some (t610, t613, (([] : List (S41))), 0, false)))
end Go.Proofs.Ytcefiblpnegepaa.Pr
