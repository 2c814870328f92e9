import Derived.Test.YtcefiblpnegepaaQAByq
import Derived.Test.YtcefiblpnegepaaQAWLogB
import Derived.Test.YtcefiblpnegepaaQASx
import Derived.Test.YtcefiblpnegepaaQALast
import Derived.Test.YtcefiblpnegepaaQALogP
namespace Go.Proofs.Ytcefiblpnegepaa.Pr
open Go.RowKit Go.PW Go.PL Go.PM
attribute [local go_sem] YB YC Zc Zd Yn Yo YD YE
set_option linter.unusedVariables false
set_option linter.unusedSimpArgs false
def XT.l0 : Nat → List (S41) → List Int → Int → Option (List Int)
  | 0, _, _, _ => none
  | k + 1, x0, x3, x4 => if x4 ≤ 3 then ((Xn.f k x0 x4).bind fun Rt => (if Rt > 0 then (if x3.length < 17592186044416 then (XT.l0 k x0 (x3 ++ [x4]) (wrap64 (x4 + 1))) else (none)) else (XT.l0 k x0 x3 (wrap64 (x4 + 1))))) else (some x3)
def XT.f (k : Nat) (l0 : List (S41)) : Option (List Int) := (some (([] : List Int) : List Int)).bind fun NB => ((Xi.f k l0).bind fun Ru => (if Ru = true then (XT.l0 k l0 NB 1) else (some NB)))
set_option maxHeartbeats 8000000 in
set_option maxRecDepth 100000 in
theorem XT.calls (k : Nat) (A0 : Option Addr) (c0 : Nat) (l0 : List (S41)) (r : List Int) (w : World) (hr0 : Kd.C k41 w A0 l0.length l0) (hc0 : l0.length ≤ c0) (h : XT.f k l0 = some r) :
    Calls Try.prog 65 #[.slice A0 l0.length c0] w fun e w' => ∃ v0_ : Value, e = .returned (v0_) ∧ Kd.R (Kd.int .i64) 3 w' w.heap.size (fun _ => True) v0_ r ∧ Below w.heap.size w w' := by
  have HR0 := zz hr0; have HC0 := zz hc0; clear hr0 hc0; have HB := zz (Below.refl w.heap.size w); have H : ((some (([] : List Int) : List Int)).bind fun NB => ((Xi.f k l0).bind fun Ru => (if Ru = true then (XT.l0 k l0 NB 1) else (some NB)))) = some r := h; clear h
  obtain ⟨NB, hy1122⟩ : ∃ y_ : List Int, y_ = (([] : List Int)) := ⟨_, rfl⟩
  replace H : ((Xi.f k l0).bind fun Ru => (if Ru = true then (XT.l0 k l0 NB 1) else (some NB))) = some r := by first | (rw [hy1122]; with_reducible exact H) | (have H2_ := (Option.bind_some _ _).symm.trans H; rw [hy1122]; with_reducible exact H2_) | (have H2_ := (Option.bind_some _ _).symm.trans H; with_reducible exact H2_) | with_reducible exact H | (rw [hy1122]; exact H) | exact H
  have Ny1122 := zz hy1122; clear hy1122; replace H := Option.bind_eq_some_iff.mp H; obtain ⟨Ru, A20, H⟩ := H; replace H : (if Ru = true then (XT.l0 k l0 NB 1) else (some NB)) = some r := H; have A2 := zz A20; clear A20
  by_cases c3 : Ru = true
  · subst c3
    have H1 : (XT.l0 k l0 NB 1) = some r := by rw [if_pos rfl] at H; exact H
    clear H; have H := H1; clear H1; have H' := zz H; clear H
    go_enter Try.func65, Try.ntmps65
    go_wp2_with (first | ((with_reducible refine XO (N := 5) rfl ?_); refine Kd.Gp (Kd.int .i64) _ 3 ?hg (N := 5) ?hd (xs := ([] : List Int)) (inner := []) (ok := fun _ => True) (okp := fun _ => True) ?hr ?hp (fun _ hk => hk) trivial (Below.refl _ _) (Nat.le_refl _) (by simp) ?_; (case hd => rfl); (case hg => rfl); (case hr => exact zb22); (case hp => exact zb121); intro XsU w4 ho5 hb hg_ hnew_; clear hg_ hnew_; (first | rw [← Ny1122.out] at ho5 | (simp only [Int.reduceToNat] at ho5; rw [← Ny1122.out] at ho5)); have n0_ := zz (Kd.Ye ho5 (Xr zb4)); have n1_ := zz (Xe zb4 hb); clear HB; have LU := n0_; have HB := n1_; clear n0_ n1_; clear hb ho5) | ((with_reducible refine Xg (f := 32) rfl ?_); refine Xz (some 7) rfl rfl Try.func32 zb14 rfl #[.slice A0 l0.length c0] rfl zb0 ?_; (with_reducible refine (Xi.calls k _ _ l0 true _ ?side1 ?side2 A2.out).mono ?_); (case side1 => exact zb15); (case side2 => exact HC0.out); rintro e w6 ⟨rfl, hb⟩; refine ⟨_, rfl, ?_⟩; have n0_ := zz (Kd.XA zb96 hb); have n1_ := zz (Xe zb4 hb); clear LU; clear HB; have LU := n0_; have HB := n1_; clear n0_ n1_; (try clear hb); (try clear hb2); (try clear hk); (try clear hi)))
    go_loopg [3, 4] k (fun kq v3 v4 w' => ∃ (Xv : List Int) (ZG : Int), v4 = .int .i64 ZG ∧ Aside0 (XT.l0 kq l0 Xv ZG = some r) ∧ Aside0 (kq ≤ k) ∧ Aside0 (Kd.R (Kd.int .i64) 3 w' w.heap.size (fun _ => True) v3 Xv) ∧ Aside0 (Below w.heap.size w w'))
    case atStart => exact ⟨(NB), (1), zb12, H', ⟨Nat.le_refl _⟩, ⟨zb96⟩, ⟨zb4⟩⟩
    case round =>
      clear H'
      try clear p2
      try clear c3
      try clear c6
      obtain ⟨Xv, ZG, rfl, HA, HK1, HO_3, HB⟩ := hrel
      cases gk with
      | zero => exact absurd HA.out (by simp [XT.l0])
      | succ k1 =>
        have H := HA.out; clear HA; simp only [XT.l0] at H
        by_cases c7 : ZG ≤ 3
        · rw [if_pos c7] at H
          have c7b0 : decide (ZG ≤ 3) = true := decide_eq_true c7; clear c7; replace H := Option.bind_eq_some_iff.mp H; obtain ⟨Rt, A80, H⟩ := H; replace H : (if Rt > 0 then (if Xv.length < 17592186044416 then (XT.l0 k1 l0 (Xv ++ [ZG]) (wrap64 (ZG + 1))) else (none)) else (XT.l0 k1 l0 Xv (wrap64 (ZG + 1)))) = some r := H; have A8 := zz A80; clear A80
          by_cases c9 : Rt > 0
          · rw [if_pos c9] at H
            have c9b0 : decide (0 < Rt) = true := decide_eq_true c9; clear c9
            by_cases c10 : Xv.length < 17592186044416
            · rw [if_pos c10] at H
              have LMc10 := zz c10; clear c10
              obtain ⟨Xmp, hy1127⟩ : ∃ y_ : List Int, y_ = (Xv ++ [ZG]) := ⟨_, rfl⟩
              replace H : (XT.l0 k1 l0 Xmp (wrap64 (ZG + 1))) = some r := by first | (rw [hy1127]; with_reducible exact H) | (have H2_ := (Option.bind_some _ _).symm.trans H; rw [hy1127]; with_reducible exact H2_) | (have H2_ := (Option.bind_some _ _).symm.trans H; with_reducible exact H2_) | with_reducible exact H | (rw [hy1127]; exact H) | exact H
              have Ny1127 := zz hy1127; clear hy1127; have H' := zz H; clear H
              go_wp2_with (first | ((with_reducible refine Xg (f := 84) rfl ?_); refine Xz (some 16) rfl rfl Try.func84 zb14 rfl #[.slice A0 l0.length c0, .int .i64 ZG] rfl zb0 ?_; (with_reducible refine (Xn.calls k1 _ _ l0 ZG Rt _ ?side1 ?side2 A8.out).mono ?_); (case side1 => exact zb15); (case side2 => exact HC0.out); rintro e w' ⟨rfl, ⟨nd, rfl⟩⟩; refine ⟨_, rfl, ?_⟩) | ((with_reducible refine Zh (b := .append) (xs := #[.tmp 18, .tmp 20]) rfl ?_); at_builtin; refine Kd.Uz (Kd.int .i64) (w0 := w) w.heap.size rfl (.tmp 18) (.tmp 20) 23 3 (.int .i64 0) 8 rfl Try.underlying23 info3 rfl (by decide) (by omega) u3 Xv ZG [.int .i64 ZG] (fun _ => True) (fun _ => False) rfl rfl ?aP (fun _ hk => hk.elim) ?aF ?aO ?aB ?aS ?aL ?_; (case aP => exact rfl); (case aB => exact zb4); (case aF => exact zb135); (case aO => exact zb45); (case aS => exact (Xr zb4)); (case aL => have := LMc10.out; omega); intro v1128 w11 ho hb hg hat; rw [← Ny1127.out] at ho; have n0_ := zz (hb); have n1_ := zz (ho); clear HB; clear HO_3; have HB := n0_; have Xn0 := n1_; clear n0_ n1_; clear ho hb hg hat))
              go_roundg k1
              case measure => have := HK1.out; omega
              case rel => exact ⟨(Xmp), (wrap64 (ZG + 1)), zb12, H', ⟨zb54⟩, ⟨by (with_reducible repeat (first | apply Kd.Yf | apply Kd.Ym | apply Kd.Y3)); exact Xn0.out⟩, ⟨zb4⟩⟩
            · rw [if_neg c10] at H
              exact absurd H (by simp)
          · rw [if_neg c9] at H
            have c9b0 : decide (0 < Rt) = false := decide_eq_false c9; clear c9; have H' := zz H; clear H
            go_wp2_with (first | ((with_reducible refine Xg (f := 84) rfl ?_); refine Xz (some 16) rfl rfl Try.func84 zb14 rfl #[.slice A0 l0.length c0, .int .i64 ZG] rfl zb0 ?_; (with_reducible refine (Xn.calls k1 _ _ l0 ZG Rt _ ?side1 ?side2 A8.out).mono ?_); (case side1 => exact zb15); (case side2 => exact HC0.out); rintro e w' ⟨rfl, ⟨nd, rfl⟩⟩; refine ⟨_, rfl, ?_⟩))
            go_roundg k1
            case measure => have := HK1.out; omega
            case rel => exact ⟨(Xv), (wrap64 (ZG + 1)), zb12, H', ⟨zb54⟩, ⟨zb45⟩, ⟨zb4⟩⟩
        · rw [if_neg c7] at H
          have c7b0 : decide (ZG ≤ 3) = false := decide_eq_false c7; clear c7; obtain rfl := Option.some.inj H
          go_wp2
          go_ret
          exact ⟨_, zb8, zb45, zb4⟩
  · replace c3 := Bool.eq_false_iff.mpr c3
    subst c3
    have H1 : (some NB) = some r := by rw [if_neg (show ¬ (false = true) by decide)] at H; exact H
    clear H; have H := H1; clear H1; obtain rfl := Option.some.inj H
    go_enter Try.func65, Try.ntmps65
    go_wp2_with (first | ((with_reducible refine XO (N := 5) rfl ?_); refine Kd.Gp (Kd.int .i64) _ 3 ?hg (N := 5) ?hd (xs := ([] : List Int)) (inner := []) (ok := fun _ => True) (okp := fun _ => True) ?hr ?hp (fun _ hk => hk) trivial (Below.refl _ _) (Nat.le_refl _) (by simp) ?_; (case hd => rfl); (case hg => rfl); (case hr => exact zb22); (case hp => exact zb121); intro XsU w12 ho13 hb hg_ hnew_; clear hg_ hnew_; (first | rw [← Ny1122.out] at ho13 | (simp only [Int.reduceToNat] at ho13; rw [← Ny1122.out] at ho13)); have n0_ := zz (Kd.Ye ho13 (Xr zb4)); have n1_ := zz (Xe zb4 hb); clear HB; have LU := n0_; have HB := n1_; clear n0_ n1_; clear hb ho13) | ((with_reducible refine Xg (f := 32) rfl ?_); refine Xz (some 7) rfl rfl Try.func32 zb14 rfl #[.slice A0 l0.length c0] rfl zb0 ?_; (with_reducible refine (Xi.calls k _ _ l0 false _ ?side1 ?side2 A2.out).mono ?_); (case side1 => exact zb15); (case side2 => exact HC0.out); rintro e w14 ⟨rfl, hb⟩; refine ⟨_, rfl, ?_⟩; have n0_ := zz (Kd.XA zb96 hb); have n1_ := zz (Xe zb4 hb); clear LU; clear HB; have LU := n0_; have HB := n1_; clear n0_ n1_; (try clear hb); (try clear hb2); (try clear hk); (try clear hi)))
    go_ret
    exact ⟨_, zb8, zb96, zb4⟩
def Z7.l0 : Nat → List (S41) → List Int → Int → Option (List Int)
  | 0, _, _, _ => none
  | k + 1, x0, x3, x4 => if x4 ≤ 3 then ((Jv.f k x0 x4).bind fun PG => (if PG = 0 then (Z7.l0 k x0 x3 (wrap64 (x4 + 1))) else (if x3.length < 17592186044416 then (Z7.l0 k x0 (x3 ++ [x4]) (wrap64 (x4 + 1))) else (none)))) else (some x3)
def Z7.f (k : Nat) (l0 : List (S41)) : Option (List Int) := Z7.l0 k l0 ([] : List Int) 1
set_option maxHeartbeats 8000000 in
set_option maxRecDepth 100000 in
theorem Z7.calls (k : Nat) (A0 : Option Addr) (c0 : Nat) (l0 : List (S41)) (r : List Int) (w : World) (hr0 : Kd.C k41 w A0 l0.length l0) (hc0 : l0.length ≤ c0) (h : Z7.f k l0 = some r) :
    Calls Try.prog 106 #[.slice A0 l0.length c0] w fun e w' => ∃ v0_ : Value, e = .returned (v0_) ∧ Kd.R (Kd.int .i64) 3 w' w.heap.size (fun _ => True) v0_ r ∧ Below w.heap.size w w' := by
  have HR0 := zz hr0; have HC0 := zz hc0; clear hr0 hc0; have HB := zz (Below.refl w.heap.size w); have H : (Z7.l0 k l0 ([] : List Int) 1) = some r := h; clear h; have H' := zz H; clear H
  go_enter Try.func106, Try.ntmps106
  go_wp2
  go_loopg [3, 4] k (fun kq v3 v4 w' => ∃ (Xv : List Int) (ZG : Int), v4 = .int .i64 ZG ∧ Aside0 (Z7.l0 kq l0 Xv ZG = some r) ∧ Aside0 (kq ≤ k) ∧ Aside0 (Kd.R (Kd.int .i64) 3 w' w.heap.size (fun _ => True) v3 Xv) ∧ Aside0 (Below w.heap.size w w'))
  case atStart => exact ⟨(([] : List Int)), (1), zb12, H', ⟨Nat.le_refl _⟩, ⟨zb18⟩, ⟨zb4⟩⟩
  case round =>
    clear H'
    try clear c1
    obtain ⟨Xv, ZG, rfl, HA, HK1, HO_3, HB⟩ := hrel
    cases gk with
    | zero => exact absurd HA.out (by simp [Z7.l0])
    | succ k1 =>
      have H := HA.out; clear HA; simp only [Z7.l0] at H
      by_cases c2 : ZG ≤ 3
      · rw [if_pos c2] at H
        have c2b0 : decide (ZG ≤ 3) = true := decide_eq_true c2; clear c2; replace H := Option.bind_eq_some_iff.mp H; obtain ⟨PG, A30, H⟩ := H; replace H : (if PG = 0 then (Z7.l0 k1 l0 Xv (wrap64 (ZG + 1))) else (if Xv.length < 17592186044416 then (Z7.l0 k1 l0 (Xv ++ [ZG]) (wrap64 (ZG + 1))) else (none))) = some r := H; have A3 := zz A30; clear A30
        by_cases c4 : PG = 0
        · rw [if_pos c4] at H
          have c4b0 : (PG == 0) = true := beq_iff_eq.mpr c4; have c4b1 : (PG != 0) = false := bne_eq_false_iff_eq.mpr c4; clear c4; have H' := zz H; clear H
          go_wp2_with (first | ((with_reducible refine Xg (f := 87) rfl ?_); refine Xz (some 11) rfl rfl Try.func87 zb14 rfl #[.slice A0 l0.length c0, .int .i64 ZG] rfl zb0 ?_; (with_reducible refine (Jv.calls k1 _ _ l0 ZG PG _ ?side1 ?side2 A3.out).mono ?_); (case side1 => exact zb15); (case side2 => exact HC0.out); rintro e w5 ⟨rfl, hb⟩; refine ⟨_, rfl, ?_⟩; have n0_ := zz (Kd.XA zb45 hb); have n1_ := zz (Xe zb4 hb); clear HO_3; clear HB; have HO_3 := n0_; have HB := n1_; clear n0_ n1_; (try clear hb); (try clear hb2); (try clear hk); (try clear hi)))
          go_roundg k1
          case measure => have := HK1.out; omega
          case rel => exact ⟨(Xv), (wrap64 (ZG + 1)), zb12, H', ⟨zb54⟩, ⟨zb45⟩, ⟨zb4⟩⟩
        · rw [if_neg c4] at H
          have c4b0 : (PG == 0) = false := beq_eq_false_iff_ne.mpr c4; have c4b1 : (PG != 0) = true := bne_iff_ne.mpr c4
          by_cases c6 : Xv.length < 17592186044416
          · rw [if_pos c6] at H
            have LMc6 := zz c6; clear c6
            obtain ⟨Xmq, hy1131⟩ : ∃ y_ : List Int, y_ = (Xv ++ [ZG]) := ⟨_, rfl⟩
            replace H : (Z7.l0 k1 l0 Xmq (wrap64 (ZG + 1))) = some r := by first | (rw [hy1131]; with_reducible exact H) | (have H2_ := (Option.bind_some _ _).symm.trans H; rw [hy1131]; with_reducible exact H2_) | (have H2_ := (Option.bind_some _ _).symm.trans H; with_reducible exact H2_) | with_reducible exact H | (rw [hy1131]; exact H) | exact H
            have Ny1131 := zz hy1131; clear hy1131; have H' := zz H; clear H
            go_wp2_with (first | ((with_reducible refine Xg (f := 87) rfl ?_); refine Xz (some 11) rfl rfl Try.func87 zb14 rfl #[.slice A0 l0.length c0, .int .i64 ZG] rfl zb0 ?_; (with_reducible refine (Jv.calls k1 _ _ l0 ZG PG _ ?side1 ?side2 A3.out).mono ?_); (case side1 => exact zb15); (case side2 => exact HC0.out); rintro e w7 ⟨rfl, hb⟩; refine ⟨_, rfl, ?_⟩; have n0_ := zz (Kd.XA zb45 hb); have n1_ := zz (Xe zb4 hb); clear HO_3; clear HB; have HO_3 := n0_; have HB := n1_; clear n0_ n1_; (try clear hb); (try clear hb2); (try clear hk); (try clear hi)) | ((with_reducible refine Zh (b := .append) (xs := #[.tmp 13, .tmp 15]) rfl ?_); at_builtin; refine Kd.Uz (Kd.int .i64) (w0 := w) w.heap.size rfl (.tmp 13) (.tmp 15) 23 3 (.int .i64 0) 8 rfl Try.underlying23 info3 rfl (by decide) (by omega) u3 Xv ZG [.int .i64 ZG] (fun _ => True) (fun _ => False) rfl rfl ?aP (fun _ hk => hk.elim) ?aF ?aO ?aB ?aS ?aL ?_; (case aP => exact rfl); (case aB => exact zb4); (case aF => exact zb135); (case aO => exact zb45); (case aS => exact (Xr zb4)); (case aL => have := LMc6.out; omega); intro v1132 w8 ho hb hg hat; rw [← Ny1131.out] at ho; have n0_ := zz (hb); have n1_ := zz (ho); clear HB; clear HO_3; have HB := n0_; have Xn1 := n1_; clear n0_ n1_; clear ho hb hg hat))
            go_roundg k1
            case measure => have := HK1.out; omega
            case rel => exact ⟨(Xmq), (wrap64 (ZG + 1)), zb12, H', ⟨zb54⟩, ⟨by (with_reducible repeat (first | apply Kd.Yf | apply Kd.Ym | apply Kd.Y3)); exact Xn1.out⟩, ⟨zb4⟩⟩
          · rw [if_neg c6] at H
            exact absurd H (by simp)
      · rw [if_neg c2] at H
        have c2b0 : decide (ZG ≤ 3) = false := decide_eq_false c2; clear c2; obtain rfl := Option.some.inj H
        go_wp2
        go_ret
        exact ⟨_, zb8, zb45, zb4⟩
def Zj.f (k : Nat) (l0 : List (S41)) : Option (List Int) := (Xq.f k l0).bind fun OX => (if OX = true then ((Z7.f k l0).bind fun PH => (some PH)) else (some ([] : List Int)))
set_option maxHeartbeats 8000000 in
set_option maxRecDepth 100000 in
theorem Zj.calls (k : Nat) (A0 : Option Addr) (c0 : Nat) (l0 : List (S41)) (r : List Int) (w : World) (hr0 : Kd.C k41 w A0 l0.length l0) (hc0 : l0.length ≤ c0) (h : Zj.f k l0 = some r) :
    Calls Try.prog 66 #[.slice A0 l0.length c0] w fun e w' => ∃ v0_ : Value, e = .returned (v0_) ∧ Kd.R (Kd.int .i64) 3 w' w.heap.size (fun _ => True) v0_ r ∧ Below w.heap.size w w' := by
  have HR0 := zz hr0; have HC0 := zz hc0; clear hr0 hc0; have HB := zz (Below.refl w.heap.size w); have H : ((Xq.f k l0).bind fun OX => (if OX = true then ((Z7.f k l0).bind fun PH => (some PH)) else (some ([] : List Int)))) = some r := h; clear h; replace H := Option.bind_eq_some_iff.mp H; obtain ⟨OX, A20, H⟩ := H; replace H : (if OX = true then ((Z7.f k l0).bind fun PH => (some PH)) else (some ([] : List Int))) = some r := H; have A2 := zz A20; clear A20
  by_cases c3 : OX = true
  · subst c3
    have H1 : ((Z7.f k l0).bind fun PH => (some PH)) = some r := by rw [if_pos rfl] at H; exact H
    clear H; have H := H1; clear H1; replace H := Option.bind_eq_some_iff.mp H; obtain ⟨PH, A40, H⟩ := H; replace H : (some PH) = some r := H; have A4 := zz A40; clear A40; obtain rfl := Option.some.inj H
    go_enter Try.func66, Try.ntmps66
    go_wp2_with (first | ((with_reducible refine Xg (f := 34) rfl ?_); refine Xz (some 4) rfl rfl Try.func34 zb14 rfl #[.slice A0 l0.length c0] rfl zb0 ?_; (with_reducible refine (Xq.calls k _ _ l0 true _ ?side1 ?side2 A2.out).mono ?_); (case side1 => exact zb17); (case side2 => exact HC0.out); rintro e w5 ⟨rfl, hb⟩; refine ⟨_, rfl, ?_⟩; have n0_ := zz (Xe zb4 hb); clear HB; have HB := n0_; clear n0_; (try clear hb); (try clear hb2); (try clear hk); (try clear hi)) | ((with_reducible refine Xg (f := 106) rfl ?_); refine Xz (some 7) rfl rfl Try.func106 zb14 rfl #[.slice A0 l0.length c0] rfl zb0 ?_; (with_reducible refine (Z7.calls k _ _ l0 PH _ ?side1 ?side2 A4.out).mono ?_); (case side1 => exact zb15); (case side2 => exact HC0.out); rintro e w6 ⟨v1136, rfl, ho0, hb⟩; refine ⟨_, rfl, ?_⟩; have n0_ := zz (Kd.Ye ho0 (Xr zb4)); have n1_ := zz (Xe zb4 hb); clear HB; have Xn2 := n0_; have HB := n1_; clear n0_ n1_; (try clear hb); (try clear hb2); (try clear hk); (try clear hi); (try clear ho0)))
    go_ret
    exact ⟨_, zb8, by (with_reducible repeat (first | apply Kd.Yf | apply Kd.Ym | apply Kd.Y3)); exact Xn2.out, zb4⟩
  · replace c3 := Bool.eq_false_iff.mpr c3
    subst c3
    have H1 : (some ([] : List Int)) = some r := by rw [if_neg (show ¬ (false = true) by decide)] at H; exact H
    clear H; have H := H1; clear H1; obtain rfl := Option.some.inj H
    go_enter Try.func66, Try.ntmps66
    go_wp2_with (first | ((with_reducible refine Xg (f := 34) rfl ?_); refine Xz (some 4) rfl rfl Try.func34 zb14 rfl #[.slice A0 l0.length c0] rfl zb0 ?_; (with_reducible refine (Xq.calls k _ _ l0 false _ ?side1 ?side2 A2.out).mono ?_); (case side1 => exact zb17); (case side2 => exact HC0.out); rintro e w7 ⟨rfl, hb⟩; refine ⟨_, rfl, ?_⟩; have n0_ := zz (Xe zb4 hb); clear HB; have HB := n0_; clear n0_; (try clear hb); (try clear hb2); (try clear hk); (try clear hi)))
    go_ret
    exact ⟨_, zb8, zb18, zb4⟩
end Go.Proofs.Ytcefiblpnegepaa.Pr
