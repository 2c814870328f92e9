import Derived.Test.YtcefiblpnegepaaQBByq
import Derived.Test.YtcefiblpnegepaaQBWLog
import Derived.Test.YtcefiblpnegepaaQBWEngA
import Derived.Test.YtcefiblpnegepaaQBSx
import Derived.Test.YtcefiblpnegepaaQBPrM
namespace Go.Proofs.Ytcefiblpnegepaa.Pr
open Go.RowKit Go.PW Go.PL Go.PM
attribute [local go_sem] Y3 Y4 YV YW Yk Yl Y5 Y6
set_option linter.unusedVariables false
set_option linter.unusedSimpArgs false
def Xu.l0 : Nat → List (S41) → Int → Int → Option (Int)
  | 0, _, _, _ => none
  | k + 1, x0, x1, x5 => if x5 ≥ 0 then (if 0 ≤ x5 then (if x5 < (x0.length : Int) then (if ((Xa x0 x5).f1) = x1 then (if ((Xa x0 x5).f0) = 4 then (some 0) else (if ((Xa x0 x5).f0) = 5 then (some 0) else (some (wrap64 (x5 + 1))))) else (Xu.l0 k x0 x1 (wrap64 (x5 - 1)))) else (none)) else (none)) else (some 0)
def Xu.f (k : Nat) (l0 : List (S41)) (a1 : Int) : Option (Int) := Xu.l0 k l0 a1 (wrap64 ((l0.length : Int) - 1))
theorem Xu.Gx : ∀ k, (∀ y0 y1 y2, LeO (Xu.l0 k y0 y1 y2) (Xu.l0 (k + 1) y0 y1 y2))
  | 0 => fun _ _ _ r h => by simp [Xu.l0] at h
  | k + 1 => by
    have ih0 := Xu.Gx k
    · intro y0 y1 y2
      unfold Xu.l0
      repeat' first
      | (with_reducible exact ih0 _ _ _)
      | (with_reducible exact LeO.refl _)
      | (with_reducible exact LeO.none _)
      | (with_reducible refine LeO.ite ?_ ?_)
      | (with_reducible refine LeO.bind ?_ (fun _ => ?_))
      | exact ih0 _ _ _
      | exact LeO.none _
      | refine LeO.ite ?_ ?_
      | refine LeO.bind ?_ (fun _ => ?_)
theorem Xu.mono : ∀ a0 a1 k, LeO (Xu.f k a0 a1) (Xu.f (k + 1) a0 a1) := by
  intro a0 a1 k; have ih0 := Xu.Gx k
  unfold Xu.f
  repeat' first
      | (with_reducible exact ih0 _ _ _)
      | (with_reducible exact LeO.refl _)
      | (with_reducible exact LeO.none _)
      | (with_reducible refine LeO.ite ?_ ?_)
      | (with_reducible refine LeO.bind ?_ (fun _ => ?_))
      | exact ih0 _ _ _
      | exact LeO.none _
      | refine LeO.ite ?_ ?_
      | refine LeO.bind ?_ (fun _ => ?_)
set_option maxHeartbeats 8000000 in
set_option maxRecDepth 100000 in
theorem Xu.calls (k : Nat) (A0 : Option Addr) (c0 : Nat) (l0 : List (S41)) (a1 : Int) (r : Int) (w : World) (hr0 : Kd.C k41 w A0 l0.length l0) (hc0 : l0.length ≤ c0) (h : Xu.f k l0 a1 = some r) :
    Calls Try.prog 84 #[.slice A0 l0.length c0, .int .i64 a1] w fun e w' => e = .returned (.int .i64 r) ∧ Vk w w' := by
  have HR0 := zz hr0; have HC0 := zz hc0; clear hr0 hc0; have H : (Xu.l0 k l0 a1 (wrap64 ((l0.length : Int) - 1))) = some r := h; clear h; have H' := zz H; clear H
  go_enter Try.func84, Try.ntmps84
  go_wp2
  go_loopg [5] k (fun kq v5 w' => ∃ (Yh : Int), v5 = .int .i64 Yh ∧ Aside0 (Xu.l0 kq l0 a1 Yh = some r) ∧ Aside0 (kq ≤ k) ∧ Vk w w')
  case atStart => exact ⟨(wrap64 ((l0.length : Int) - 1)), zb12, H', ⟨Nat.le_refl _⟩, zb24⟩
  case round =>
    clear H'
    try clear p2
    obtain ⟨Yh, rfl, HA, HK1, ⟨m1, rfl⟩⟩ := hrel
    cases gk with
    | zero => exact absurd HA.out (by simp [Xu.l0])
    | succ k1 =>
      have H := HA.out; clear HA; simp only [Xu.l0] at H
      by_cases c3 : Yh ≥ 0
      · rw [if_pos c3] at H
        have c3b0 : decide (0 ≤ Yh) = true := decide_eq_true c3; clear c3
        by_cases c4 : 0 ≤ Yh
        · rw [if_pos c4] at H
          have c4b0 : decide (0 ≤ Yh) = true := decide_eq_true c4; clear c4
          by_cases c5 : Yh < (l0.length : Int)
          · rw [if_pos c5] at H
            have c5b0 : decide (Yh < (l0.length : Int)) = true := decide_eq_true c5; clear c5
            by_cases c6 : ((Xa l0 Yh).f1) = a1
            · rw [if_pos c6] at H
              have c6b0 : (((Xa l0 Yh).f1) == a1) = true := beq_iff_eq.mpr c6; have c6b1 : (((Xa l0 Yh).f1) != a1) = false := bne_eq_false_iff_eq.mpr c6; clear c6
              by_cases c7 : ((Xa l0 Yh).f0) = 4
              · rw [if_pos c7] at H
                have c7b0 : (((Xa l0 Yh).f0) == 4) = true := beq_iff_eq.mpr c7; have c7b1 : (((Xa l0 Yh).f0) != 4) = false := bne_eq_false_iff_eq.mpr c7; clear c7; obtain rfl := Option.some.inj H; have Pv : 0 ≤ (Yh : Int) := of_decide_eq_true zb9; have Pw : Yh < (l0.length : Int) := of_decide_eq_true zb9; obtain ⟨TQ, XaU, IJ, IK, IL, IM, IP, IQ, IU, IV⟩ := YN HR0.out Yh Pv Pw
                cases XaU
                replace Pv := eq_true Pv; replace Pw := eq_true Pw; have Bc : 0 ≤ (Yh : Int) := of_decide_eq_true zb9; have Bd : Yh < (l0.length : Int) := of_decide_eq_true zb9; obtain ⟨Xak, XfE, XcA, XcB, XcC, XcD, XcE, XcF, XcG, XcH⟩ := YN HR0.out Yh Bc Bd
                obtain rfl : TQ = Xak := (by injection XfE)
                replace Bc := eq_true Bc; replace Bd := eq_true Bd
                go_wp2
                go_ret
                exact ⟨zb12, zb24⟩
              · rw [if_neg c7] at H
                have c7b0 : (((Xa l0 Yh).f0) == 4) = false := beq_eq_false_iff_ne.mpr c7; have c7b1 : (((Xa l0 Yh).f0) != 4) = true := bne_iff_ne.mpr c7
                by_cases c8 : ((Xa l0 Yh).f0) = 5
                · rw [if_pos c8] at H
                  have c8b0 : (((Xa l0 Yh).f0) == 5) = true := beq_iff_eq.mpr c8; have c8b1 : (((Xa l0 Yh).f0) != 5) = false := bne_eq_false_iff_eq.mpr c8; clear c8; obtain rfl := Option.some.inj H; have Pv : 0 ≤ (Yh : Int) := of_decide_eq_true zb9; have Pw : Yh < (l0.length : Int) := of_decide_eq_true zb9; obtain ⟨TQ, XaU, IJ, IK, IL, IM, IP, IQ, IU, IV⟩ := YN HR0.out Yh Pv Pw
                  cases XaU
                  replace Pv := eq_true Pv; replace Pw := eq_true Pw; have Bc : 0 ≤ (Yh : Int) := of_decide_eq_true zb9; have Bd : Yh < (l0.length : Int) := of_decide_eq_true zb9; obtain ⟨Xak, XfE, XcA, XcB, XcC, XcD, XcE, XcF, XcG, XcH⟩ := YN HR0.out Yh Bc Bd
                  obtain rfl : TQ = Xak := (by injection XfE)
                  replace Bc := eq_true Bc; replace Bd := eq_true Bd; have XaV : 0 ≤ (Yh : Int) := of_decide_eq_true zb9; have XaW : Yh < (l0.length : Int) := of_decide_eq_true zb9; obtain ⟨XfF, XmV, Xjo, Xjp, Xjq, Xjr, Xjs, Xjt, Xju, Xjv⟩ := YN HR0.out Yh XaV XaW
                  obtain rfl : TQ = XfF := (by injection XmV)
                  replace XaV := eq_true XaV; replace XaW := eq_true XaW
                  go_wp2
                  go_ret
                  exact ⟨zb12, zb24⟩
                · rw [if_neg c8] at H
                  have c8b0 : (((Xa l0 Yh).f0) == 5) = false := beq_eq_false_iff_ne.mpr c8; have c8b1 : (((Xa l0 Yh).f0) != 5) = true := bne_iff_ne.mpr c8; obtain rfl := Option.some.inj H; have Pv : 0 ≤ (Yh : Int) := of_decide_eq_true zb9; have Pw : Yh < (l0.length : Int) := of_decide_eq_true zb9; obtain ⟨TQ, XaU, IJ, IK, IL, IM, IP, IQ, IU, IV⟩ := YN HR0.out Yh Pv Pw
                  cases XaU
                  replace Pv := eq_true Pv; replace Pw := eq_true Pw; have Bc : 0 ≤ (Yh : Int) := of_decide_eq_true zb9; have Bd : Yh < (l0.length : Int) := of_decide_eq_true zb9; obtain ⟨Xak, XfE, XcA, XcB, XcC, XcD, XcE, XcF, XcG, XcH⟩ := YN HR0.out Yh Bc Bd
                  obtain rfl : TQ = Xak := (by injection XfE)
                  replace Bc := eq_true Bc; replace Bd := eq_true Bd; have XaV : 0 ≤ (Yh : Int) := of_decide_eq_true zb9; have XaW : Yh < (l0.length : Int) := of_decide_eq_true zb9; obtain ⟨XfF, XmV, Xjo, Xjp, Xjq, Xjr, Xjs, Xjt, Xju, Xjv⟩ := YN HR0.out Yh XaV XaW
                  obtain rfl : TQ = XfF := (by injection XmV)
                  replace XaV := eq_true XaV; replace XaW := eq_true XaW
                  go_wp2
                  go_ret
                  exact ⟨zb12, zb24⟩
            · rw [if_neg c6] at H
              have c6b0 : (((Xa l0 Yh).f1) == a1) = false := beq_eq_false_iff_ne.mpr c6; have c6b1 : (((Xa l0 Yh).f1) != a1) = true := bne_iff_ne.mpr c6; have H' := zz H; clear H; have Pv : 0 ≤ (Yh : Int) := of_decide_eq_true zb9; have Pw : Yh < (l0.length : Int) := of_decide_eq_true zb9; obtain ⟨TQ, XaU, IJ, IK, IL, IM, IP, IQ, IU, IV⟩ := YN HR0.out Yh Pv Pw
              cases XaU
              replace Pv := eq_true Pv; replace Pw := eq_true Pw
              go_wp2
              go_roundg k1
              case measure => have := HK1.out; omega
              case rel => exact ⟨(wrap64 (Yh - 1)), zb12, H', ⟨zb61⟩, zb24⟩
          · rw [if_neg c5] at H
            exact absurd H (by simp)
        · rw [if_neg c4] at H
          exact absurd H (by simp)
      · rw [if_neg c3] at H
        have c3b0 : decide (0 ≤ Yh) = false := decide_eq_false c3; clear c3; obtain rfl := Option.some.inj H
        go_wp2
        go_ret
        exact ⟨zb12, zb24⟩
end Go.Proofs.Ytcefiblpnegepaa.Pr
namespace Go.Proofs.Ytcefiblpnegepaa.Pr
open Go.RowKit Go.PW Go.PL Go.PM
attribute [local go_sem] Y3 Y4 YV YW Yk Yl Y5 Y6
set_option linter.unusedVariables false
set_option linter.unusedSimpArgs false
def YE.l0 : Nat → List (S25) → Int → Option ((List (S25)))
  | 0, _, _ => none
  | k + 1, x1, x2 => if x2 < 5 then ((Fh.f).bind fun Xgz => (if x1.length < 3518437208883 then (YE.l0 k (x1 ++ [(⟨Xgz.1, Xgz.2.1, Xgz.2.2⟩ : S25)]) (wrap64 (x2 + 1))) else (none))) else (some x1)
def YE.f (k : Nat)  : Option ((List (S25))) := YE.l0 k (([] : List (S25))) 0
set_option maxHeartbeats 8000000 in
set_option maxRecDepth 100000 in
theorem YE.calls (k : Nat)  (r : List (S25)) (w : World) (h : YE.f k  = some r) :
    Calls Try.prog 95 #[] w fun e w' => ∃ v0_ : Value, e = .returned (v0_) ∧ Kd.S k25 25 w' w.heap.size (fun _ => True) v0_ r ∧ Below w.heap.size w w' := by
  have HB := zz (Below.refl w.heap.size w); have H : (YE.l0 k (([] : List (S25))) 0) = some r := h; clear h
  obtain ⟨y598, hy598⟩ : ∃ y_ : List (S25), y_ = (([] : List (S25))) := ⟨_, rfl⟩
  replace H : (YE.l0 k y598 0) = some r := by first | (rw [hy598]; with_reducible exact H) | (have H2_ := (Option.bind_some _ _).symm.trans H; rw [hy598]; with_reducible exact H2_) | (have H2_ := (Option.bind_some _ _).symm.trans H; with_reducible exact H2_) | with_reducible exact H | (rw [hy598]; exact H) | exact H
  have Ny598 := zz hy598; clear hy598; have H' := zz H; clear H
  go_enter Try.func95, Try.ntmps95
  go_wp2_with (first | ((with_reducible refine XZ (N := 3) rfl ?_); refine Kd.XlL k25 _ 25 ?hg (N := 3) ?hd (xs := ([] : List (S25))) (inner := []) (ok := fun _ => True) (okp := fun _ => True) ?hr ?hp (fun _ hk => hk) trivial (Below.refl _ _) (Nat.le_refl _) (by simp) ?_; (case hd => rfl); (case hg => rfl); (case hr => exact zb21); (case hp => exact zb121); intro v599 w1 ho2 hb hg_ hnew_; clear hg_ hnew_; (first | rw [← Ny598.out] at ho2 | (simp only [Int.reduceToNat] at ho2; rw [← Ny598.out] at ho2)); have n0_ := zz (Kd.Sm ho2 (Xq zb5)); have n1_ := zz (Xe zb5 hb); clear HB; have Xth := n0_; have HB := n1_; clear n0_ n1_; clear hb ho2))
  go_loopg [1, 2] k (fun kq v1 v2 w' => ∃ (Ns : List (S25)) (Qb : Int), v2 = .int .i64 Qb ∧ Aside0 (YE.l0 kq Ns Qb = some r) ∧ Aside0 (kq ≤ k) ∧ Aside0 (Kd.S k25 25 w' w.heap.size (fun _ => True) v1 Ns) ∧ Aside0 (Below w.heap.size w w'))
  case atStart => exact ⟨(y598), (0), zb12, H', ⟨Nat.le_refl _⟩, ⟨by (with_reducible repeat (first | apply Kd.Vz | apply Kd.V9 | apply Kd.DZ)); exact Xth.out⟩, ⟨zb5⟩⟩
  case round =>
    clear H'
    try clear p2
    obtain ⟨Ns, Qb, rfl, HA, HK1, HO_1, HB⟩ := hrel
    cases gk with
    | zero => exact absurd HA.out (by simp [YE.l0])
    | succ k1 =>
      have H := HA.out; clear HA; simp only [YE.l0] at H
      by_cases c3 : Qb < 5
      · rw [if_pos c3] at H
        have c3b0 : decide (Qb < 5) = true := decide_eq_true c3; clear c3; replace H := Option.bind_eq_some_iff.mp H; obtain ⟨⟨XdG, XdH, Xbm⟩, A40, H⟩ := H; replace H : (if Ns.length < 3518437208883 then (YE.l0 k1 (Ns ++ [(⟨XdG, XdH, Xbm⟩ : S25)]) (wrap64 (Qb + 1))) else (none)) = some r := H; have A4 := zz A40; clear A40
        by_cases c5 : Ns.length < 3518437208883
        · rw [if_pos c5] at H
          have LMc5 := zz c5; clear c5
          obtain ⟨y606, hy606⟩ : ∃ y_ : List (S25), y_ = (Ns ++ [(⟨XdG, XdH, Xbm⟩ : S25)]) := ⟨_, rfl⟩
          replace H : (YE.l0 k1 y606 (wrap64 (Qb + 1))) = some r := by first | (rw [hy606]; with_reducible exact H) | (have H2_ := (Option.bind_some _ _).symm.trans H; rw [hy606]; with_reducible exact H2_) | (have H2_ := (Option.bind_some _ _).symm.trans H; with_reducible exact H2_) | with_reducible exact H | (rw [hy606]; exact H) | exact H
          have Ny606 := zz hy606; clear hy606; have H' := zz H; clear H
          go_wp2_with (first | ((with_reducible refine Xg (f := 111) rfl ?_); refine X6 (some 9) rfl rfl Try.func111 zb13 rfl #[] rfl zb0 ?_; (with_reducible refine (Fh.calls  XdG XdH Xbm _ A4.out).mono ?_); rintro e w6 ⟨v604, rfl, ho0, hb⟩; refine ⟨_, rfl, ?_⟩; have n0_ := zz (Kd.Wt (by (with_reducible repeat (first | apply Kd.Vz | apply Kd.V9 | apply Kd.DZ)); exact HO_1.out) (Kd.YR ho0) hb); have n1_ := zz (Kd.XT ho0 (Xq zb5)); have n2_ := zz (Xe zb5 hb); clear HO_1; clear HB; have HO_1 := n0_; have XcY := n1_; have HB := n2_; clear n0_ n1_ n2_; (try clear hb); (try clear hb2); (try clear hk); (try clear hi); (try clear ho0); obtain ⟨Ao8, co8, eo8⟩ := Kd.Xx XcY.out; subst eo8) | ((with_reducible refine Zk (b := .append) (xs := #[.tmp 8, .tmp 10]) rfl ?_); at_builtin; refine Kd.Xa9 k25 (w0 := w) w.heap.size rfl (.tmp 8) (.tmp 10) 50 25 (.agg #[(.int .i64 0), (.int .i64 0), (.slice none 0 0)]) 40 rfl Try.underlying50 Xhg rfl (by decide) (by omega) u1 Ns (⟨XdG, XdH, Xbm⟩ : S25) [.int .i64 XdG, .int .i64 XdH, .slice Ao8 Xbm.length co8] (fun _ => True) (fun k_ => some k_ = (.slice Ao8 Xbm.length co8 : Value).ownBlock) rfl rfl ?aP (fun k_ hk_ => ((Kd.XN (ok' := fun k_ => ((fun _ => True)) k_ ∧ some k_ ≠ (u1 : Value).ownBlock) (Kd.KY (XcY.out) (Kd.Cb HO_1.out) (by decide)) (fun k_ hk => ⟨trivial, hk.2⟩))).1 k_ hk_.symm) ?aF ?aO ?aB ?aS ?aL ?_; (case aP => exact WJ _ _ _ (⟨XdG, XdH, Xbm⟩ : S25) (Kd.XN (Kd.Ul rfl (Kd.XN (ok' := fun k_ => ((fun _ => True)) k_ ∧ some k_ ≠ (u1 : Value).ownBlock) (Kd.KY (XcY.out) (Kd.Cb HO_1.out) (by decide)) (fun k_ hk => ⟨trivial, hk.2⟩))) (fun _ h_ => h_))); (case aB => exact zb5); (case aF => exact zb139); (case aO => exact (by (with_reducible repeat (first | apply Kd.Vz | apply Kd.V9 | apply Kd.DZ)); exact Kd.Pz HO_1.out (fun k_ hk => ⟨trivial, fun e_ => hk.2 e_⟩))); (case aS => exact (Xq zb5)); (case aL => have := LMc5.out; omega); intro v607 w7 ho hb hg hat; rw [← Ny606.out] at ho; have n0_ := zz (hb); have n1_ := zz (ho); clear HB; clear HO_1; clear XcY; have HB := n0_; have Xti := n1_; clear n0_ n1_; clear ho hb hg hat))
          go_roundg k1
          case measure => have := HK1.out; omega
          case rel => exact ⟨(y606), (wrap64 (Qb + 1)), zb12, H', ⟨zb61⟩, ⟨by (with_reducible repeat (first | apply Kd.Vz | apply Kd.V9 | apply Kd.DZ)); exact Xti.out⟩, ⟨zb5⟩⟩
        · rw [if_neg c5] at H
          exact absurd H (by simp)
      · rw [if_neg c3] at H
        have c3b0 : decide (Qb < 5) = false := decide_eq_false c3; clear c3; obtain rfl := Option.some.inj H
        go_wp2
        go_ret
        exact ⟨_, zb11, by (with_reducible repeat (first | apply Kd.Vz | apply Kd.V9 | apply Kd.DZ)); exact HO_1.out, zb5⟩
def VM.f (k : Nat)  : Option ((List (S25)) × (List (S25)) × (List (S41)) × Int × Bool) := (YE.f k).bind fun t610 => ((YE.f k).bind fun t613 => (some (t610, t613, (([] : List (S41))), 0, false)))
end Go.Proofs.Ytcefiblpnegepaa.Pr
