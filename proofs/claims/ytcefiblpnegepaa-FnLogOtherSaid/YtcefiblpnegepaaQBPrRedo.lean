import Derived.Test.YtcefiblpnegepaaQBByq
import Derived.Test.YtcefiblpnegepaaQBWEngA
import Derived.Test.YtcefiblpnegepaaQBSx
import Derived.Test.YtcefiblpnegepaaQBPrNew
import Derived.Test.YtcefiblpnegepaaQBL2
namespace Go.Proofs.Ytcefiblpnegepaa.Pr
open Go.RowKit Go.PW Go.PL Go.PM
attribute [local go_sem] Y3 Y4 YV YW Yk Yl Y5 Y6
set_option linter.unusedVariables false
set_option linter.unusedSimpArgs false
def X4.l0 : Nat → List (S25) → List (S25) → Int → Option ((List (S25)))
  | 0, _, _, _ => none
  | k + 1, x0, x3, x4 => if x4 < (x0.length : Int) then (if 0 ≤ x4 then ((J5.f ((Xn x0 x4).f0) ((Xn x0 x4).f1) ((Xn x0 x4).f2)).bind fun Xbn => (if x3.length < 3518437208883 then (X4.l0 k x0 (x3 ++ [(⟨Xbn.1, Xbn.2.1, Xbn.2.2⟩ : S25)]) (wrap64 (x4 + 1))) else (none))) else (none)) else (some x3)
def X4.f (k : Nat) (l0 : List (S25)) : Option ((List (S25))) := X4.l0 k l0 (([] : List (S25))) 0
set_option maxHeartbeats 8000000 in
set_option maxRecDepth 100000 in
theorem X4.calls (k : Nat) (A0 : Option Addr) (c0 : Nat) (l0 : List (S25)) (r : List (S25)) (w : World) (hr0 : Kd.C k25 w A0 l0.length l0) (hc0 : l0.length ≤ c0) (h : X4.f k l0 = some r) :
    Calls Try.prog 140 #[.slice A0 l0.length c0] w fun e w' => ∃ v0_ : Value, e = .returned (v0_) ∧ Kd.S k25 25 w' w.heap.size (fun _ => True) v0_ r ∧ Below w.heap.size w w' := by
  have hu25 := Try.underlying25; have HR0 := zz hr0; have HC0 := zz hc0; clear hr0 hc0; have HB := zz (Below.refl w.heap.size w); have H : (X4.l0 k l0 (([] : List (S25))) 0) = some r := h; clear h
  obtain ⟨XlB, hy1323⟩ : ∃ y_ : List (S25), y_ = (([] : List (S25))) := ⟨_, rfl⟩
  replace H : (X4.l0 k l0 XlB 0) = some r := by first | (rw [hy1323]; with_reducible exact H) | (have H2_ := (Option.bind_some _ _).symm.trans H; rw [hy1323]; with_reducible exact H2_) | (have H2_ := (Option.bind_some _ _).symm.trans H; with_reducible exact H2_) | with_reducible exact H | (rw [hy1323]; exact H) | exact H
  have Ny1323 := zz hy1323; clear hy1323; have H' := zz H; clear H
  go_enter Try.func140, Try.ntmps140
  go_wp2_with (first | ((with_reducible refine XZ (N := 5) rfl ?_); refine Kd.XlL k25 _ 25 ?hg (N := 5) ?hd (xs := ([] : List (S25))) (inner := []) (ok := fun _ => True) (okp := fun _ => True) ?hr ?hp (fun _ hk => hk) trivial (Below.refl _ _) (Nat.le_refl _) (by simp) ?_; (case hd => rfl); (case hg => rfl); (case hr => exact zb21); (case hp => exact zb121); intro v1324 w2 ho3 hb hg_ hnew_; clear hg_ hnew_; (first | rw [← Ny1323.out] at ho3 | (simp only [Int.reduceToNat] at ho3; rw [← Ny1323.out] at ho3)); have n0_ := zz (Kd.Sm ho3 (Xq zb5)); have n1_ := zz (Xe zb5 hb); clear HB; have XnE := n0_; have HB := n1_; clear n0_ n1_; clear hb ho3))
  go_loopg [3, 4] k (fun kq v3 v4 w' => ∃ (X5 : List (S25)) (J7 : Int), v4 = .int .i64 J7 ∧ Aside0 (X4.l0 kq l0 X5 J7 = some r) ∧ Aside0 (kq ≤ k) ∧ Aside0 (Kd.S k25 25 w' w.heap.size (fun _ => True) v3 X5) ∧ Aside0 (Below w.heap.size w w'))
  case atStart => exact ⟨(XlB), (0), zb12, H', ⟨Nat.le_refl _⟩, ⟨by (with_reducible repeat (first | apply Kd.Vz | apply Kd.V9 | apply Kd.DZ)); exact XnE.out⟩, ⟨zb5⟩⟩
  case round =>
    clear H'
    try clear c1
    try clear p2
    obtain ⟨X5, J7, rfl, HA, HK1, HO_3, HB⟩ := hrel
    cases gk with
    | zero => exact absurd HA.out (by simp [X4.l0])
    | succ k1 =>
      have H := HA.out; clear HA; simp only [X4.l0] at H
      by_cases c4 : J7 < (l0.length : Int)
      · rw [if_pos c4] at H
        have c4b0 : decide (J7 < (l0.length : Int)) = true := decide_eq_true c4; clear c4
        by_cases c5 : 0 ≤ J7
        · rw [if_pos c5] at H
          have c5b0 : decide (0 ≤ J7) = true := decide_eq_true c5; clear c5; replace H := Option.bind_eq_some_iff.mp H; obtain ⟨⟨Oy, Oz, BC⟩, A60, H⟩ := H; replace H : (if X5.length < 3518437208883 then (X4.l0 k1 l0 (X5 ++ [(⟨Oy, Oz, BC⟩ : S25)]) (wrap64 (J7 + 1))) else (none)) = some r := H; have A6 := zz A60; clear A60
          by_cases c7 : X5.length < 3518437208883
          · rw [if_pos c7] at H
            have LMc7 := zz c7; clear c7
            obtain ⟨XlC, hy1332⟩ : ∃ y_ : List (S25), y_ = (X5 ++ [(⟨Oy, Oz, BC⟩ : S25)]) := ⟨_, rfl⟩
            replace H : (X4.l0 k1 l0 XlC (wrap64 (J7 + 1))) = some r := by first | (rw [hy1332]; with_reducible exact H) | (have H2_ := (Option.bind_some _ _).symm.trans H; rw [hy1332]; with_reducible exact H2_) | (have H2_ := (Option.bind_some _ _).symm.trans H; with_reducible exact H2_) | with_reducible exact H | (rw [hy1332]; exact H) | exact H
            have Ny1332 := zz hy1332; clear hy1332; have H' := zz H; clear H; have Xg0 : 0 ≤ (J7 : Int) := of_decide_eq_true zb9; have Xg1 : J7 < (l0.length : Int) := of_decide_eq_true zb9; obtain ⟨ad1326, XjH, XjI, Xtj, BD, BF, BG, hl1326_2, hi1326_2⟩ := L9 HR0.out J7 Xg0 Xg1
            cases Xtj
            replace BD := (HB.out.cell (World.block_lt_of_cell? w _ BD)).trans BD; replace BF := (HB.out.cell (World.block_lt_of_cell? w _ BF)).trans BF; replace BG := (HB.out.cell (World.block_lt_of_cell? w _ BG)).trans BG; have Xg2 := zz hi1326_2; have Xg3 := zz hl1326_2; clear hi1326_2 hl1326_2; replace Xg0 := eq_true Xg0; replace Xg1 := eq_true Xg1
            go_wp2_with (first | ((with_reducible refine Xg (f := 118) rfl ?_); refine X6 (some 17) rfl rfl Try.func118 zb13 rfl #[.agg #[.int .i64 ((Xn l0 J7).f0), .int .i64 ((Xn l0 J7).f1), .slice XjH ((Xn l0 J7).f2).length XjI]] rfl zb0 ?_; (with_reducible refine (J5.calls ((Xn l0 J7).f0) ((Xn l0 J7).f1) _ _ ((Xn l0 J7).f2) Oy Oz BC _ ?side1 ?side2 A6.out).mono ?_); (case side1 => repeat (first | exact (Kd.Vp Xg2.out HB.out) | (with_reducible refine Kd.Zh ?_ _) | (with_reducible refine Kd.Zi ?_ _) | (with_reducible refine Kd.ZJ ?_))); (case side2 => exact Xg3.out); rintro e w8 ⟨v1330, rfl, ho0, hb⟩; refine ⟨_, rfl, ?_⟩; have n0_ := zz (Kd.Wt (by (with_reducible repeat (first | apply Kd.Vz | apply Kd.V9 | apply Kd.DZ)); exact HO_3.out) (Kd.YR ho0) hb); have n1_ := zz (Kd.XT ho0 (Xq zb5)); have n2_ := zz (Xe zb5 hb); clear HO_3; clear HB; have HO_3 := n0_; have Qc := n1_; have HB := n2_; clear n0_ n1_ n2_; (try clear hb); (try clear hb2); (try clear hk); (try clear hi); (try clear ho0); obtain ⟨DJ, DK, eo10⟩ := Kd.Xx Qc.out; subst eo10) | ((with_reducible refine Zk (b := .append) (xs := #[.tmp 12, .tmp 18]) rfl ?_); at_builtin; refine Kd.Xa9 k25 (w0 := w) w.heap.size rfl (.tmp 12) (.tmp 18) 50 25 (.agg #[(.int .i64 0), (.int .i64 0), (.slice none 0 0)]) 40 rfl Try.underlying50 Xhg rfl (by decide) (by omega) u3 X5 (⟨Oy, Oz, BC⟩ : S25) [.int .i64 Oy, .int .i64 Oz, .slice DJ BC.length DK] (fun _ => True) (fun k_ => some k_ = (.slice DJ BC.length DK : Value).ownBlock) rfl rfl ?aP (fun k_ hk_ => ((Kd.XN (ok' := fun k_ => ((fun _ => True)) k_ ∧ some k_ ≠ (u3 : Value).ownBlock) (Kd.KY (Qc.out) (Kd.Cb HO_3.out) (by decide)) (fun k_ hk => ⟨trivial, hk.2⟩))).1 k_ hk_.symm) ?aF ?aO ?aB ?aS ?aL ?_; (case aP => exact WJ _ _ _ (⟨Oy, Oz, BC⟩ : S25) (Kd.XN (Kd.Ul rfl (Kd.XN (ok' := fun k_ => ((fun _ => True)) k_ ∧ some k_ ≠ (u3 : Value).ownBlock) (Kd.KY (Qc.out) (Kd.Cb HO_3.out) (by decide)) (fun k_ hk => ⟨trivial, hk.2⟩))) (fun _ h_ => h_))); (case aB => exact zb5); (case aF => exact zb139); (case aO => exact (by (with_reducible repeat (first | apply Kd.Vz | apply Kd.V9 | apply Kd.DZ)); exact Kd.Pz HO_3.out (fun k_ hk => ⟨trivial, fun e_ => hk.2 e_⟩))); (case aS => exact (Xq zb5)); (case aL => have := LMc7.out; omega); intro v1333 w9 ho hb hg hat; rw [← Ny1332.out] at ho; have n0_ := zz (hb); have n1_ := zz (ho); clear HB; clear HO_3; clear Qc; have HB := n0_; have XnF := n1_; clear n0_ n1_; clear ho hb hg hat))
            go_roundg k1
            case measure => have := HK1.out; omega
            case rel => exact ⟨(XlC), (wrap64 (J7 + 1)), zb12, H', ⟨zb61⟩, ⟨by (with_reducible repeat (first | apply Kd.Vz | apply Kd.V9 | apply Kd.DZ)); exact XnF.out⟩, ⟨zb5⟩⟩
          · rw [if_neg c7] at H
            exact absurd H (by simp)
        · rw [if_neg c5] at H
          exact absurd H (by simp)
      · rw [if_neg c4] at H
        have c4b0 : decide (J7 < (l0.length : Int)) = false := decide_eq_false c4; clear c4; obtain rfl := Option.some.inj H
        go_wp2
        go_ret
        exact ⟨_, zb11, by (with_reducible repeat (first | apply Kd.Vz | apply Kd.V9 | apply Kd.DZ)); exact HO_3.out, zb5⟩
def Yn.l0 : Nat → List (S41) → List (S25) → Int → Option ((List (S25)))
  | 0, _, _, _ => none
  | k + 1, x1, x5, x6 => if x6 < (x1.length : Int) then (if 0 ≤ x6 then ((Zg.f ((Xa x1 x6).f0)).bind fun Xtk => (if Xtk = true then (if 0 ≤ ((Xa x1 x6).f2) then (if ((Xa x1 x6).f2) < (x5.length : Int) then (if ((Xn x5 ((Xa x1 x6).f2)).f0) < (wrap64 (x6 + 1)) then ((Dm.f ((Xn x5 ((Xa x1 x6).f2)).f0) ((Xn x5 ((Xa x1 x6).f2)).f1) ((Xn x5 ((Xa x1 x6).f2)).f2) ((Xa x1 x6).f0) ((Xa x1 x6).f1) ((Xa x1 x6).f2) ((Xa x1 x6).f3) ((Xa x1 x6).f4) ((Xa x1 x6).f5) ((Xa x1 x6).f6) ((Xa x1 x6).f7) (wrap64 (x6 + 1))).bind fun Xbo => (Yn.l0 k x1 (x5.set (((Xa x1 x6).f2) : Int).toNat (⟨Xbo.1, Xbo.2.1, Xbo.2.2⟩ : S25)) (wrap64 (x6 + 1)))) else (Yn.l0 k x1 x5 (wrap64 (x6 + 1)))) else (none)) else (none)) else (Yn.l0 k x1 x5 (wrap64 (x6 + 1))))) else (none)) else (some x5)
def Yn.f (k : Nat) (l0 : List (S25)) (l1 : List (S41)) : Option ((List (S25))) := (X4.f k l0).bind fun Xtl => (Yn.l0 k l1 Xtl 0)
def Yy.l0 : Nat → List (S41) → Int → Option (Int)
  | 0, _, _ => none
  | k + 1, x0, x3 => if x3 ≤ 3 then ((Xu.f k x0 x3).bind fun TS => (if TS > 0 then (some x3) else (Yy.l0 k x0 (wrap64 (x3 + 1))))) else (some 0)
def Yy.f (k : Nat) (l0 : List (S41)) : Option (Int) := Yy.l0 k l0 1
set_option maxHeartbeats 8000000 in
set_option maxRecDepth 100000 in
theorem Yy.calls (k : Nat) (A0 : Option Addr) (c0 : Nat) (l0 : List (S41)) (r : Int) (w : World) (hr0 : Kd.C k41 w A0 l0.length l0) (hc0 : l0.length ≤ c0) (h : Yy.f k l0 = some r) :
    Calls Try.prog 157 #[.slice A0 l0.length c0] w fun e w' => e = .returned (.int .i64 r) ∧ Vk w w' := by
  have HR0 := zz hr0; have HC0 := zz hc0; clear hr0 hc0; have H : (Yy.l0 k l0 1) = some r := h; clear h; have H' := zz H; clear H
  go_enter Try.func157, Try.ntmps157
  go_wp2
  go_loopg [3] k (fun kq v3 w' => ∃ (X5 : Int), v3 = .int .i64 X5 ∧ Aside0 (Yy.l0 kq l0 X5 = some r) ∧ Aside0 (kq ≤ k) ∧ Vk w w')
  case atStart => exact ⟨(1), zb12, H', ⟨Nat.le_refl _⟩, zb24⟩
  case round =>
    clear H'
    try clear c1
    obtain ⟨X5, rfl, HA, HK1, ⟨m1, rfl⟩⟩ := hrel
    cases gk with
    | zero => exact absurd HA.out (by simp [Yy.l0])
    | succ k1 =>
      have H := HA.out; clear HA; simp only [Yy.l0] at H
      by_cases c2 : X5 ≤ 3
      · rw [if_pos c2] at H
        have c2b0 : decide (X5 ≤ 3) = true := decide_eq_true c2; clear c2; replace H := Option.bind_eq_some_iff.mp H; obtain ⟨TS, A30, H⟩ := H; replace H : (if TS > 0 then (some X5) else (Yy.l0 k1 l0 (wrap64 (X5 + 1)))) = some r := H; have A3 := zz A30; clear A30
        by_cases c4 : TS > 0
        · rw [if_pos c4] at H
          have c4b0 : decide (0 < TS) = true := decide_eq_true c4; clear c4; obtain rfl := Option.some.inj H
          go_wp2_with (first | ((with_reducible refine Xg (f := 84) rfl ?_); refine X6 (some 10) rfl rfl Try.func84 zb13 rfl #[.slice A0 l0.length c0, .int .i64 X5] rfl zb0 ?_; (with_reducible refine (Xu.calls k1 _ _ l0 X5 TS _ ?side1 ?side2 A3.out).mono ?_); (case side1 => exact zb23); (case side2 => exact HC0.out); rintro e w' ⟨rfl, ⟨nd, rfl⟩⟩; refine ⟨_, rfl, ?_⟩))
          go_ret
          exact ⟨zb12, zb24⟩
        · rw [if_neg c4] at H
          have c4b0 : decide (0 < TS) = false := decide_eq_false c4; clear c4; have H' := zz H; clear H
          go_wp2_with (first | ((with_reducible refine Xg (f := 84) rfl ?_); refine X6 (some 10) rfl rfl Try.func84 zb13 rfl #[.slice A0 l0.length c0, .int .i64 X5] rfl zb0 ?_; (with_reducible refine (Xu.calls k1 _ _ l0 X5 TS _ ?side1 ?side2 A3.out).mono ?_); (case side1 => exact zb23); (case side2 => exact HC0.out); rintro e w' ⟨rfl, ⟨nd, rfl⟩⟩; refine ⟨_, rfl, ?_⟩))
          go_roundg k1
          case measure => have := HK1.out; omega
          case rel => exact ⟨(wrap64 (X5 + 1)), zb12, H', ⟨zb61⟩, zb24⟩
      · rw [if_neg c2] at H
        have c2b0 : decide (X5 ≤ 3) = false := decide_eq_false c2; clear c2; obtain rfl := Option.some.inj H
        go_wp2
        go_ret
        exact ⟨zb12, zb24⟩
end Go.Proofs.Ytcefiblpnegepaa.Pr
