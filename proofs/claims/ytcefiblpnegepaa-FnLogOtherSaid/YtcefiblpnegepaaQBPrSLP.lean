import Derived.Test.YtcefiblpnegepaaQBByq
import Derived.Test.YtcefiblpnegepaaQBSx
import Derived.Test.YtcefiblpnegepaaQBPrLO2
import Derived.Test.YtcefiblpnegepaaQBPrMay
namespace Go.Proofs.Ytcefiblpnegepaa.Pr
open Go.RowKit Go.PW Go.PL Go.PM
attribute [local go_sem] Y3 Y4 YV YW Yk Yl Y5 Y6
set_option linter.unusedVariables false
set_option linter.unusedSimpArgs false
def XP.l0 : Nat → List (S41) → Int → List Int → Int → Option (List Int)
  | 0, _, _, _, _ => none
  | k + 1, x0, x1, x5, x6 => if x6 < 5 then ((YK.f k x0 x1 x6).bind fun Xac => (if Xac = true then (if x5.length < 17592186044416 then (XP.l0 k x0 x1 (x5 ++ [x6]) (wrap64 (x6 + 1))) else (none)) else (XP.l0 k x0 x1 x5 (wrap64 (x6 + 1))))) else (some x5)
def XP.f (k : Nat) (l0 : List (S41)) (a1 : Int) : Option (List Int) := (some (([] : List Int) : List Int)).bind fun Ls => ((Xk.f k l0).bind fun Rf => (if Rf = true then (XP.l0 k l0 a1 Ls 0) else (some Ls)))
set_option maxHeartbeats 8000000 in
set_option maxRecDepth 100000 in
theorem XP.calls (k : Nat) (A0 : Option Addr) (c0 : Nat) (l0 : List (S41)) (a1 : Int) (r : List Int) (w : World) (hr0 : Kd.C k41 w A0 l0.length l0) (hc0 : l0.length ≤ c0) (h : XP.f k l0 a1 = some r) :
    Calls Try.prog 72 #[.slice A0 l0.length c0, .int .i64 a1] w fun e w' => ∃ v0_ : Value, e = .returned (v0_) ∧ Kd.R (Kd.int .i64) 3 w' w.heap.size (fun _ => True) v0_ r ∧ Below w.heap.size w w' := by
  have HR0 := zz hr0; have HC0 := zz hc0; clear hr0 hc0; have HB := zz (Below.refl w.heap.size w); have H : ((some (([] : List Int) : List Int)).bind fun Ls => ((Xk.f k l0).bind fun Rf => (if Rf = true then (XP.l0 k l0 a1 Ls 0) else (some Ls)))) = some r := h; clear h
  obtain ⟨Ls, hy366⟩ : ∃ y_ : List Int, y_ = (([] : List Int)) := ⟨_, rfl⟩
  replace H : ((Xk.f k l0).bind fun Rf => (if Rf = true then (XP.l0 k l0 a1 Ls 0) else (some Ls))) = some r := by first | (rw [hy366]; with_reducible exact H) | (have H2_ := (Option.bind_some _ _).symm.trans H; rw [hy366]; with_reducible exact H2_) | (have H2_ := (Option.bind_some _ _).symm.trans H; with_reducible exact H2_) | with_reducible exact H | (rw [hy366]; exact H) | exact H
  have Ny366 := zz hy366; clear hy366; replace H := Option.bind_eq_some_iff.mp H; obtain ⟨Rf, A30, H⟩ := H; replace H : (if Rf = true then (XP.l0 k l0 a1 Ls 0) else (some Ls)) = some r := H; have A3 := zz A30; clear A30
  by_cases c4 : Rf = true
  · subst c4
    have H1 : (XP.l0 k l0 a1 Ls 0) = some r := by rw [if_pos rfl] at H; exact H
    clear H; have H := H1; clear H1; have H' := zz H; clear H
    go_enter Try.func72, Try.ntmps72
    go_wp2_with (first | ((with_reducible refine XZ (N := 7) rfl ?_); refine Kd.Gb (Kd.int .i64) _ 3 ?hg (N := 7) ?hd (xs := ([] : List Int)) (inner := []) (ok := fun _ => True) (okp := fun _ => True) ?hr ?hp (fun _ hk => hk) trivial (Below.refl _ _) (Nat.le_refl _) (by simp) ?_; (case hd => rfl); (case hg => rfl); (case hr => exact zb21); (case hp => exact zb121); intro v367 w5 ho6 hb hg_ hnew_; clear hg_ hnew_; (first | rw [← Ny366.out] at ho6 | (simp only [Int.reduceToNat] at ho6; rw [← Ny366.out] at ho6)); have n0_ := zz (Kd.XT ho6 (Xq zb5)); have n1_ := zz (Xe zb5 hb); clear HB; have Oe := n0_; have HB := n1_; clear n0_ n1_; clear hb ho6) | ((with_reducible refine Xg (f := 32) rfl ?_); refine X6 (some 9) rfl rfl Try.func32 zb13 rfl #[.slice A0 l0.length c0] rfl zb0 ?_; (with_reducible refine (Xk.calls k _ _ l0 true _ ?side1 ?side2 A3.out).mono ?_); (case side1 => exact zb16); (case side2 => exact HC0.out); rintro e w7 ⟨rfl, hb⟩; refine ⟨_, rfl, ?_⟩; have n0_ := zz (Kd.Xz zb99 hb); have n1_ := zz (Xe zb5 hb); clear Oe; clear HB; have Oe := n0_; have HB := n1_; clear n0_ n1_; (try clear hb); (try clear hb2); (try clear hk); (try clear hi)))
    go_loopg [5, 6] k (fun kq v5 v6 w' => ∃ (Yh : List Int) (JL : Int), v6 = .int .i64 JL ∧ Aside0 (XP.l0 kq l0 a1 Yh JL = some r) ∧ Aside0 (kq ≤ k) ∧ Aside0 (Kd.R (Kd.int .i64) 3 w' w.heap.size (fun _ => True) v5 Yh) ∧ Aside0 (Below w.heap.size w w'))
    case atStart => exact ⟨(Ls), (0), zb12, H', ⟨Nat.le_refl _⟩, ⟨zb99⟩, ⟨zb5⟩⟩
    case round =>
      clear H'
      try clear p2
      try clear c3
      try clear c4
      try clear c7
      obtain ⟨Yh, JL, rfl, HA, HK1, HO_5, HB⟩ := hrel
      cases gk with
      | zero => exact absurd HA.out (by simp [XP.l0])
      | succ k1 =>
        have H := HA.out; clear HA; simp only [XP.l0] at H
        by_cases c8 : JL < 5
        · rw [if_pos c8] at H
          have c8b0 : decide (JL < 5) = true := decide_eq_true c8; clear c8; replace H := Option.bind_eq_some_iff.mp H; obtain ⟨Xac, A90, H⟩ := H; replace H : (if Xac = true then (if Yh.length < 17592186044416 then (XP.l0 k1 l0 a1 (Yh ++ [JL]) (wrap64 (JL + 1))) else (none)) else (XP.l0 k1 l0 a1 Yh (wrap64 (JL + 1)))) = some r := H; have A9 := zz A90; clear A90
          by_cases c10 : Xac = true
          · subst c10
            have H1 : (if Yh.length < 17592186044416 then (XP.l0 k1 l0 a1 (Yh ++ [JL]) (wrap64 (JL + 1))) else (none)) = some r := by rw [if_pos rfl] at H; exact H
            clear H; have H := H1; clear H1
            by_cases c11 : Yh.length < 17592186044416
            · rw [if_pos c11] at H
              have LMc11 := zz c11; clear c11
              obtain ⟨y371, hy371⟩ : ∃ y_ : List Int, y_ = (Yh ++ [JL]) := ⟨_, rfl⟩
              replace H : (XP.l0 k1 l0 a1 y371 (wrap64 (JL + 1))) = some r := by first | (rw [hy371]; with_reducible exact H) | (have H2_ := (Option.bind_some _ _).symm.trans H; rw [hy371]; with_reducible exact H2_) | (have H2_ := (Option.bind_some _ _).symm.trans H; with_reducible exact H2_) | with_reducible exact H | (rw [hy371]; exact H) | exact H
              have Ny371 := zz hy371; clear hy371; have H' := zz H; clear H
              go_wp2_with (first | ((with_reducible refine Xg (f := 108) rfl ?_); refine X6 (some 19) rfl rfl Try.func108 zb13 rfl #[.slice A0 l0.length c0, .int .i64 a1, .int .i64 JL] rfl zb0 ?_; (with_reducible refine (YK.calls k1 _ _ l0 a1 JL true _ ?side1 ?side2 A9.out).mono ?_); (case side1 => exact zb16); (case side2 => exact HC0.out); rintro e w' ⟨rfl, ⟨nd, rfl⟩⟩; refine ⟨_, rfl, ?_⟩) | ((with_reducible refine Zk (b := .append) (xs := #[.tmp 20, .tmp 22]) rfl ?_); at_builtin; refine Kd.Gv (Kd.int .i64) (w0 := w) w.heap.size rfl (.tmp 20) (.tmp 22) 23 3 (.int .i64 0) 8 rfl Try.underlying23 info3 rfl (by decide) (by omega) u5 Yh JL [.int .i64 JL] (fun _ => True) (fun _ => False) rfl rfl ?aP (fun _ hk => hk.elim) ?aF ?aO ?aB ?aS ?aL ?_; (case aP => exact rfl); (case aB => exact zb5); (case aF => exact zb139); (case aO => exact zb58); (case aS => exact (Xq zb5)); (case aL => have := LMc11.out; omega); intro v372 w12 ho hb hg hat; rw [← Ny371.out] at ho; have n0_ := zz (hb); have n1_ := zz (ho); clear HB; clear HO_5; have HB := n0_; have Xtm := n1_; clear n0_ n1_; clear ho hb hg hat))
              go_roundg k1
              case measure => have := HK1.out; omega
              case rel => exact ⟨(y371), (wrap64 (JL + 1)), zb12, H', ⟨zb61⟩, ⟨by (with_reducible repeat (first | apply Kd.XI | apply Kd.XJ | apply Kd.XR)); exact Xtm.out⟩, ⟨zb5⟩⟩
            · rw [if_neg c11] at H
              exact absurd H (by simp)
          · replace c10 := Bool.eq_false_iff.mpr c10
            subst c10
            have H1 : (XP.l0 k1 l0 a1 Yh (wrap64 (JL + 1))) = some r := by rw [if_neg (show ¬ (false = true) by decide)] at H; exact H
            clear H; have H := H1; clear H1; have H' := zz H; clear H
            go_wp2_with (first | ((with_reducible refine Xg (f := 108) rfl ?_); refine X6 (some 19) rfl rfl Try.func108 zb13 rfl #[.slice A0 l0.length c0, .int .i64 a1, .int .i64 JL] rfl zb0 ?_; (with_reducible refine (YK.calls k1 _ _ l0 a1 JL false _ ?side1 ?side2 A9.out).mono ?_); (case side1 => exact zb16); (case side2 => exact HC0.out); rintro e w' ⟨rfl, ⟨nd, rfl⟩⟩; refine ⟨_, rfl, ?_⟩))
            go_roundg k1
            case measure => have := HK1.out; omega
            case rel => exact ⟨(Yh), (wrap64 (JL + 1)), zb12, H', ⟨zb61⟩, ⟨zb58⟩, ⟨zb5⟩⟩
        · rw [if_neg c8] at H
          have c8b0 : decide (JL < 5) = false := decide_eq_false c8; clear c8; obtain rfl := Option.some.inj H
          go_wp2
          go_ret
          exact ⟨_, zb11, zb58, zb5⟩
  · replace c4 := Bool.eq_false_iff.mpr c4
    subst c4
    have H1 : (some Ls) = some r := by rw [if_neg (show ¬ (false = true) by decide)] at H; exact H
    clear H; have H := H1; clear H1; obtain rfl := Option.some.inj H
    go_enter Try.func72, Try.ntmps72
    go_wp2_with (first | ((with_reducible refine XZ (N := 7) rfl ?_); refine Kd.Gb (Kd.int .i64) _ 3 ?hg (N := 7) ?hd (xs := ([] : List Int)) (inner := []) (ok := fun _ => True) (okp := fun _ => True) ?hr ?hp (fun _ hk => hk) trivial (Below.refl _ _) (Nat.le_refl _) (by simp) ?_; (case hd => rfl); (case hg => rfl); (case hr => exact zb21); (case hp => exact zb121); intro v367 w13 ho14 hb hg_ hnew_; clear hg_ hnew_; (first | rw [← Ny366.out] at ho14 | (simp only [Int.reduceToNat] at ho14; rw [← Ny366.out] at ho14)); have n0_ := zz (Kd.XT ho14 (Xq zb5)); have n1_ := zz (Xe zb5 hb); clear HB; have Oe := n0_; have HB := n1_; clear n0_ n1_; clear hb ho14) | ((with_reducible refine Xg (f := 32) rfl ?_); refine X6 (some 9) rfl rfl Try.func32 zb13 rfl #[.slice A0 l0.length c0] rfl zb0 ?_; (with_reducible refine (Xk.calls k _ _ l0 false _ ?side1 ?side2 A3.out).mono ?_); (case side1 => exact zb16); (case side2 => exact HC0.out); rintro e w15 ⟨rfl, hb⟩; refine ⟨_, rfl, ?_⟩; have n0_ := zz (Kd.Xz zb99 hb); have n1_ := zz (Xe zb5 hb); clear Oe; clear HB; have Oe := n0_; have HB := n1_; clear n0_ n1_; (try clear hb); (try clear hb2); (try clear hk); (try clear hi)))
    go_ret
    exact ⟨_, zb11, zb99, zb5⟩
end Go.Proofs.Ytcefiblpnegepaa.Pr
