import Derived.Test.YtphnphmbfogmlaaGreatQEByq
import Derived.Test.YtphnphmbfogmlaaGreatQEPrK
import Derived.Test.YtphnphmbfogmlaaGreatQESx
namespace Go.Proofs.YtphnphmbfogmlaaGreat.Pr
open Go.RowKit Go.PW Go.PL Go.PM
attribute [local go_sem] YO YP Zm Zn Yv Yw YQ YS
set_option linter.unusedVariables false
set_option linter.unusedSimpArgs false
def VF.f (l0 : List Int) (a1 : Int) : Option (Int) := if (wrap64 (a1 - (l0.length : Int))) < 0 then (some (-1)) else (some (wrap64 (a1 - (l0.length : Int))))
set_option maxHeartbeats 8000000 in
set_option maxRecDepth 100000 in
theorem VF.calls (A0 : Option Addr) (c0 : Nat) (l0 : List Int) (a1 : Int) (r : Int) (w : World) (hr0 : Kd.C (Kd.int .i64) w A0 l0.length l0) (hc0 : l0.length ≤ c0) (h : VF.f l0 a1 = some r) :
 Calls Tryz.prog 87 #[.slice A0 l0.length c0, .int .i64 a1] w fun e w' => e = .returned (.int .i64 r) ∧ Jc w w' := by
 have HR0 := az hr0; have HC0 := az hc0; clear hr0 hc0; have H : (if (wrap64 (a1 - (l0.length : Int))) < 0 then (some (-1)) else (some (wrap64 (a1 - (l0.length : Int))))) = some r := h; clear h
 by_cases c3 : (wrap64 (a1 - (l0.length : Int))) < 0
 ·rw [if_pos c3] at H
  have c3b0 : decide ((wrap64 (a1 - (l0.length : Int))) < 0) = true := decide_eq_true c3; clear c3; obtain rfl := Option.some.inj H
  go_enter Tryz.func87, Tryz.ntmps87
  go_wp2
  go_ret
  exact ⟨zb6, zb11⟩
 ·rw [if_neg c3] at H
  have c3b0 : decide ((wrap64 (a1 - (l0.length : Int))) < 0) = false := decide_eq_false c3; clear c3; obtain rfl := Option.some.inj H
  go_enter Tryz.func87, Tryz.ntmps87
  go_wp2
  go_ret
  exact ⟨zb6, zb11⟩
def Yr.l0 : Nat → List Int → List Int → Int → Option (List Int)
 | 0, _, _, _ => none
 | k + 1, x0, x3, x4 => if x4 < (x0.length : Int) then (if 0 ≤ x4 then (if x4 < (x3.length : Int) then (Yr.l0 k x0 (x3.set (x4 : Int).toNat (rd x0 x4)) (wrap64 (x4 + 1))) else (none)) else (none)) else (some x3)
def Yr.f (k : Nat) (l0 : List Int) : Option (List Int) := if 0 ≤ (l0.length : Int) then (if ((l0.length : Int) : Int).toNat ≤ 35184372088832 then (Yr.l0 k l0 (List.replicate ((l0.length : Int) : Int).toNat 0) 0) else (none)) else (none)
theorem Yr.Dz : ∀ k, (∀ y0 y1 y2, LeO (Yr.l0 k y0 y1 y2) (Yr.l0 (k + 1) y0 y1 y2))
 | 0 => fun _ _ _ r h => by simp [Yr.l0] at h
 | k + 1 => by
  have ih0 := Yr.Dz k
  ·intro y0 y1 y2
   unfold Yr.l0
   repeat' first
   | (with_reducible exact ih0 _ _ _)
   | (with_reducible exact LeO.refl _)
   | (with_reducible exact LeO.none _)
   | (with_reducible refine LeO.ite ?_ ?_)
   | (with_reducible refine LeO.bind ?_ (fun _ => ?_))
   | exact ih0 _ _ _
   | exact LeO.none _
   | refine LeO.ite ?_ ?_
   | refine LeO.bind ?_ (fun _ => ?_)
theorem Yr.mono : ∀ a0 k, LeO (Yr.f k a0) (Yr.f (k + 1) a0) := by
 intro a0 k; have ih0 := Yr.Dz k
 unfold Yr.f
 repeat' first
  | (with_reducible exact ih0 _ _ _)
  | (with_reducible exact LeO.refl _)
  | (with_reducible exact LeO.none _)
  | (with_reducible refine LeO.ite ?_ ?_)
  | (with_reducible refine LeO.bind ?_ (fun _ => ?_))
  | exact ih0 _ _ _
  | exact LeO.none _
  | refine LeO.ite ?_ ?_
  | refine LeO.bind ?_ (fun _ => ?_)
set_option maxHeartbeats 8000000 in
set_option maxRecDepth 100000 in
theorem Yr.calls (k : Nat) (A0 : Option Addr) (c0 : Nat) (l0 : List Int) (r : List Int) (w : World) (hr0 : Kd.C (Kd.int .i64) w A0 l0.length l0) (hc0 : l0.length ≤ c0) (h : Yr.f k l0 = some r) :
 Calls Tryz.prog 88 #[.slice A0 l0.length c0] w fun e w' => ∃ v0_ : Value, e = .returned (v0_) ∧ Kd.R (Kd.int .i64) 3 w' w.heap.size (fun _ => True) v0_ r ∧ Below w.heap.size w w' := by
 have HR0 := az hr0; have HC0 := az hc0; clear hr0 hc0; have HB := az (Below.refl w.heap.size w); have H : (if 0 ≤ (l0.length : Int) then (if ((l0.length : Int) : Int).toNat ≤ 35184372088832 then (Yr.l0 k l0 (List.replicate ((l0.length : Int) : Int).toNat 0) 0) else (none)) else (none)) = some r := h; clear h
 by_cases c2 : 0 ≤ (l0.length : Int)
 ·rw [if_pos c2] at H
  have c2b0 := eq_true c2; have c2b1 : decide (0 ≤ (l0.length : Int)) = true := decide_eq_true c2; clear c2
  by_cases c3 : ((l0.length : Int) : Int).toNat ≤ 35184372088832
  ·rw [if_pos c3] at H
   have c3b0 := eq_true c3; have c3b1 : decide (((l0.length : Int) : Int).toNat ≤ 35184372088832) = true := decide_eq_true c3; clear c3
   obtain ⟨y291, hy291⟩ : ∃ y_ : List Int, y_ = (List.replicate ((l0.length : Int) : Int).toNat 0) := ⟨_, rfl⟩
   replace H : (Yr.l0 k l0 y291 0) = some r := by first | (rw [hy291]; with_reducible exact H) | (have H2_ := (Option.bind_some _ _).symm.trans H; rw [hy291]; with_reducible exact H2_) | (have H2_ := (Option.bind_some _ _).symm.trans H; with_reducible exact H2_) | with_reducible exact H | (rw [hy291]; exact H) | exact H
   have Ny291 := az hy291; clear hy291; have H' := az H; clear H
   go_enter Tryz.func88, Tryz.ntmps88
   go_wp2_with (first | ((with_reducible refine Xn (N := 7) rfl ?_); refine Kd.XeM (Kd.int .i64) _ 3 rfl (N := 7) rfl 37 _ _ rfl (l0.length : Int) rfl rfl Tryz.underlying37 (.int .i64 0) 8 info3 rfl (by decide) (by omega) 0 (ok := fun _ => True) (okp := fun _ => True) rfl (fun _ hk => hk) trivial (of_decide_eq_true zb3) (Nat.le_trans (Nat.mul_le_mul_right _ (of_decide_eq_true zb3 : (l0.length : Int).toNat ≤ 35184372088832)) (by omega)) (Below.refl _ _) (Nat.le_refl _) ?_; intro v292 w4 ho5 hb hg_ hnew_; clear hg_ hnew_; (first | rw [← Ny291.out] at ho5 | (simp only [Int.reduceToNat] at ho5; rw [← Ny291.out] at ho5)); have X0i := az (Kd.Zh ho5 (Xv zb1)); replace HB := az (Xc zb1 hb); clear hb ho5))
   go_loopg [4] k (fun kq v4 w' => ∃ (Xt : List Int) (XG : Int), v4 = .int .i64 XG ∧ Aside0 (Yr.l0 kq l0 Xt XG = some r) ∧ Aside0 (kq ≤ k) ∧ Aside0 (Kd.R (Kd.int .i64) 3 w' w.heap.size (fun _ => True) v292 Xt) ∧ Aside0 (Below w.heap.size w w'))
   case atStart => exact ⟨(y291), (0), zb6, H', ⟨Nat.le_refl _⟩, ⟨by (with_reducible repeat (first | apply Kd.XU | apply Kd.XX | apply Kd.Yj)); exact X0i.out⟩, ⟨zb1⟩⟩
   case round =>
    clear H';(try clear c2);(try clear c2b0);(try clear c2b1);(try clear p2);(try clear c3);(try clear c3b0);(try clear c3b1)
    obtain ⟨Xt, XG, rfl, HA, HK1, HO_3, HB⟩ := hrel
    cases gk with
    | zero => exact absurd HA.out (by simp [Yr.l0])
    | succ k1 =>
     have H := HA.out; clear HA; simp only [Yr.l0] at H
     by_cases c6 : XG < (l0.length : Int)
     ·rw [if_pos c6] at H
      have c6b0 : decide (XG < (l0.length : Int)) = true := decide_eq_true c6; clear c6
      by_cases c7 : 0 ≤ XG
      ·rw [if_pos c7] at H
       have c7b0 : decide (0 ≤ XG) = true := decide_eq_true c7; clear c7
       by_cases c8 : XG < (Xt.length : Int)
       ·rw [if_pos c8] at H
        have c8b0 : decide (XG < (Xt.length : Int)) = true := decide_eq_true c8; clear c8
        obtain ⟨Xxz, hy295⟩ : ∃ y_ : List Int, y_ = (Xt.set (XG : Int).toNat (rd l0 XG)) := ⟨_, rfl⟩
        replace H : (Yr.l0 k1 l0 Xxz (wrap64 (XG + 1))) = some r := by first | (rw [hy295]; with_reducible exact H) | (have H2_ := (Option.bind_some _ _).symm.trans H; rw [hy295]; with_reducible exact H2_) | (have H2_ := (Option.bind_some _ _).symm.trans H; with_reducible exact H2_) | with_reducible exact H | (rw [hy295]; exact H) | exact H
        have Ny295 := az hy295; clear hy295; have H' := az H; clear H; have Xx0 : 0 ≤ (XG : Int) := of_decide_eq_true zb3; have Xx1 : XG < (l0.length : Int) := of_decide_eq_true zb3; obtain ⟨ad294, e294, Xdf⟩ := Kd.Jh HR0.out XG Xx0 Xx1
        cases e294
        replace Xdf := (HB.out.cell (World.block_lt_of_cell? w _ Xdf)).trans Xdf; replace Xx0 := eq_true Xx0; replace Xx1 := eq_true Xx1; have p9 : 0 ≤ (XG : Int) := of_decide_eq_true zb3; have q9 : (XG : Int) < ((Xt.length : Int) : Int) := of_decide_eq_true zb3; obtain ⟨go9, co9, eo9, gb9, gl9, cl9, HG9⟩ := Kd.CK HO_3.out (by omega)
        (first | cases eo9 | (injection eo9 with ea_ en_ ec_; (first | subst ea_ | (injection ea_ with ea_; subst ea_)); subst ec_; clear en_))
        have GB9 := az gb9; have GG9 := az HG9; clear gb9 gl9 HG9; obtain ⟨hx9_0, hf9_0⟩ := Kd.XeL 0 HO_3.out (XG : Int) p9 q9; replace p9 := eq_true p9; replace q9 := eq_true q9; have HP10 := Kd.Xzh HO_3.out (XG : Int) (rd l0 XG)
        go_wp2_with (first | ((with_reducible refine MU (t := 3) (p := 20) rfl ?_); refine Uw (t := 3) (p := 20) (v := ?vo_w11) (w1 := (wr.setCell ⟨go9, (XG : Int).toNat, none⟩ (.int .i64 (rd l0 XG)))) ?hg ?ho ?hn ?hr ?_; (case ho => rfl); (case hg => rfl); (case hn => rfl); (case hr => exact zb10); intro w11 hw; have hg : wr.grownBy w11 (some go9) := (by rw [hw]; exact HP10.2); have hp_ : Kd.R (Kd.int .i64) 3 w11 w.heap.size (fun _ => True) (.slice (some ⟨go9, 0, none⟩) Xt.length co9) Xxz := (by rw [hw, Ny295.out]; exact HP10.1); clear HP10; replace HO_3 := az (hp_); replace HB := az ((by rw [hw]; exact Xz (HB.out) GB9.out : Below w.heap.size w w11)); clear hg hw hp_))
        go_roundg k1
        case measure => have := HK1.out; omega
        case rel => exact ⟨(Xxz), (wrap64 (XG + 1)), zb6, H', ⟨zb37⟩, ⟨zb21⟩, ⟨zb1⟩⟩
       ·rw [if_neg c8] at H
        exact absurd H (by simp)
      ·rw [if_neg c7] at H
       exact absurd H (by simp)
     ·rw [if_neg c6] at H
      have c6b0 : decide (XG < (l0.length : Int)) = false := decide_eq_false c6; clear c6; obtain rfl := Option.some.inj H
      go_wp2
      go_ret
      exact ⟨_, zb4, zb21, zb1⟩
  ·rw [if_neg c3] at H
   exact absurd H (by simp)
 ·rw [if_neg c2] at H
  exact absurd H (by simp)
def Y3.l0 : Nat → List Int → List Int → Int → Option (Bool)
 | 0, _, _, _ => none
 | k + 1, x0, x1, x5 => if x5 < (x0.length : Int) then (if 0 ≤ x5 then (if x5 < (x1.length : Int) then (if (rd x0 x5) = (rd x1 x5) then (Y3.l0 k x0 x1 (wrap64 (x5 + 1))) else (some false)) else (none)) else (none)) else (some true)
def Y3.f (k : Nat) (l0 : List Int) (l1 : List Int) : Option (Bool) := if (l0.length : Int) = (l1.length : Int) then (Y3.l0 k l0 l1 0) else (some false)
theorem Y3.Dz : ∀ k, (∀ y0 y1 y2, LeO (Y3.l0 k y0 y1 y2) (Y3.l0 (k + 1) y0 y1 y2))
 | 0 => fun _ _ _ r h => by simp [Y3.l0] at h
 | k + 1 => by
  have ih0 := Y3.Dz k
  ·intro y0 y1 y2
   unfold Y3.l0
   repeat' first
   | (with_reducible exact ih0 _ _ _)
   | (with_reducible exact LeO.refl _)
   | (with_reducible exact LeO.none _)
   | (with_reducible refine LeO.ite ?_ ?_)
   | (with_reducible refine LeO.bind ?_ (fun _ => ?_))
   | exact ih0 _ _ _
   | exact LeO.none _
   | refine LeO.ite ?_ ?_
   | refine LeO.bind ?_ (fun _ => ?_)
theorem Y3.mono : ∀ a0 a1 k, LeO (Y3.f k a0 a1) (Y3.f (k + 1) a0 a1) := by
 intro a0 a1 k; have ih0 := Y3.Dz k
 unfold Y3.f
 repeat' first
  | (with_reducible exact ih0 _ _ _)
  | (with_reducible exact LeO.refl _)
  | (with_reducible exact LeO.none _)
  | (with_reducible refine LeO.ite ?_ ?_)
  | (with_reducible refine LeO.bind ?_ (fun _ => ?_))
  | exact ih0 _ _ _
  | exact LeO.none _
  | refine LeO.ite ?_ ?_
  | refine LeO.bind ?_ (fun _ => ?_)
set_option maxHeartbeats 8000000 in
set_option maxRecDepth 100000 in
theorem Y3.calls (k : Nat) (A0 : Option Addr) (c0 : Nat) (l0 : List Int) (A1 : Option Addr) (c1 : Nat) (l1 : List Int) (r : Bool) (w : World) (hr0 : Kd.C (Kd.int .i64) w A0 l0.length l0) (hc0 : l0.length ≤ c0) (hr1 : Kd.C (Kd.int .i64) w A1 l1.length l1) (hc1 : l1.length ≤ c1) (h : Y3.f k l0 l1 = some r) :
 Calls Tryz.prog 17 #[.slice A0 l0.length c0, .slice A1 l1.length c1] w fun e w' => e = .returned (.bool r) ∧ Jc w w' := by
 have HR0 := az hr0; have HC0 := az hc0; clear hr0 hc0; have HR1 := az hr1; have HC1 := az hc1; clear hr1 hc1; have H : (if (l0.length : Int) = (l1.length : Int) then (Y3.l0 k l0 l1 0) else (some false)) = some r := h; clear h
 by_cases c3 : (l0.length : Int) = (l1.length : Int)
 ·rw [if_pos c3] at H
  have c3b0 : ((l0.length : Int) == (l1.length : Int)) = true := beq_iff_eq.mpr c3; have c3b1 : ((l0.length : Int) != (l1.length : Int)) = false := bne_eq_false_iff_eq.mpr c3
  have c3b2 : (l0.length == l1.length) = true := by first | simpa using c3 | (simp at c3 ⊢; omega)
  clear c3; have H' := az H; clear H
  go_enter Tryz.func17, Tryz.ntmps17
  go_wp2
  repeat (go_quiet (fail); try go_wp2)
  go_loopg [5] k (fun kq v5 w' => ∃ (Xk : Int), v5 = .int .i64 Xk ∧ Aside0 (Y3.l0 kq l0 l1 Xk = some r) ∧ Aside0 (kq ≤ k) ∧ Jc w w')
  case atStart => exact ⟨(0), zb6, H', ⟨Nat.le_refl _⟩, zb11⟩
  case round =>
   clear H';(try clear c1);(try clear p2);(try clear c3);(try clear c3b0);(try clear c3b1);(try clear c3b2)
   obtain ⟨Xk, rfl, HA, HK1, ⟨m1, rfl⟩⟩ := hrel
   cases gk with
   | zero => exact absurd HA.out (by simp [Y3.l0])
   | succ k1 =>
    have H := HA.out; clear HA; simp only [Y3.l0] at H
    by_cases c4 : Xk < (l0.length : Int)
    ·rw [if_pos c4] at H
     have c4b0 : decide (Xk < (l0.length : Int)) = true := decide_eq_true c4; clear c4
     by_cases c5 : 0 ≤ Xk
     ·rw [if_pos c5] at H
      have c5b0 : decide (0 ≤ Xk) = true := decide_eq_true c5; clear c5
      by_cases c6 : Xk < (l1.length : Int)
      ·rw [if_pos c6] at H
       have c6b0 : decide (Xk < (l1.length : Int)) = true := decide_eq_true c6; clear c6
       by_cases c7 : (rd l0 Xk) = (rd l1 Xk)
       ·rw [if_pos c7] at H
        have c7b0 : ((rd l0 Xk) == (rd l1 Xk)) = true := beq_iff_eq.mpr c7; have c7b1 : ((rd l0 Xk) != (rd l1 Xk)) = false := bne_eq_false_iff_eq.mpr c7; clear c7; have H' := az H; clear H; have Xh8 : 0 ≤ (Xk : Int) := of_decide_eq_true zb3; have Xh9 : Xk < (l0.length : Int) := of_decide_eq_true zb3; obtain ⟨X0j, Xx2, Xsy⟩ := Kd.Jh HR0.out Xk Xh8 Xh9
        cases Xx2
        replace Xh8 := eq_true Xh8; replace Xh9 := eq_true Xh9; have XhA : 0 ≤ (Xk : Int) := of_decide_eq_true zb3; have XhB : Xk < (l1.length : Int) := of_decide_eq_true zb3; obtain ⟨X0k, Xx3, Xsz⟩ := Kd.Jh HR1.out Xk XhA XhB
        cases Xx3
        replace XhA := eq_true XhA; replace XhB := eq_true XhB
        go_wp2
        repeat (go_quiet (fail); try go_wp2)
        go_roundg k1
        case measure => have := HK1.out; omega
        case rel => exact ⟨(wrap64 (Xk + 1)), zb6, H', ⟨zb37⟩, zb11⟩
       ·rw [if_neg c7] at H
        have c7b0 : ((rd l0 Xk) == (rd l1 Xk)) = false := beq_eq_false_iff_ne.mpr c7; have c7b1 : ((rd l0 Xk) != (rd l1 Xk)) = true := bne_iff_ne.mpr c7; obtain rfl := Option.some.inj H; have Xh8 : 0 ≤ (Xk : Int) := of_decide_eq_true zb3; have Xh9 : Xk < (l0.length : Int) := of_decide_eq_true zb3; obtain ⟨X0j, Xx2, Xsy⟩ := Kd.Jh HR0.out Xk Xh8 Xh9
        cases Xx2
        replace Xh8 := eq_true Xh8; replace Xh9 := eq_true Xh9; have XhA : 0 ≤ (Xk : Int) := of_decide_eq_true zb3; have XhB : Xk < (l1.length : Int) := of_decide_eq_true zb3; obtain ⟨X0k, Xx3, Xsz⟩ := Kd.Jh HR1.out Xk XhA XhB
        cases Xx3
        replace XhA := eq_true XhA; replace XhB := eq_true XhB
        go_wp2
        repeat (go_quiet (fail); try go_wp2)
        go_ret
        exact ⟨zb6, zb11⟩
      ·rw [if_neg c6] at H
       exact absurd H (by simp)
     ·rw [if_neg c5] at H
      exact absurd H (by simp)
    ·rw [if_neg c4] at H
     have c4b0 : decide (Xk < (l0.length : Int)) = false := decide_eq_false c4; clear c4; obtain rfl := Option.some.inj H
     go_wp2
     repeat (go_quiet (fail); try go_wp2)
     go_ret
     exact ⟨zb6, zb11⟩
 ·rw [if_neg c3] at H
  have c3b0 : ((l0.length : Int) == (l1.length : Int)) = false := beq_eq_false_iff_ne.mpr c3; have c3b1 : ((l0.length : Int) != (l1.length : Int)) = true := bne_iff_ne.mpr c3
  have c3b2 : (l0.length == l1.length) = false := by first | simpa using c3 | (simp at c3 ⊢; omega)
  obtain rfl := Option.some.inj H
  go_enter Tryz.func17, Tryz.ntmps17
  go_wp2
  repeat (go_quiet (fail); try go_wp2)
  go_ret
  exact ⟨zb6, zb11⟩
end Go.Proofs.YtphnphmbfogmlaaGreat.Pr
