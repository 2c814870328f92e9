import Derived.Test.YtphnphmbfogmlaaGreatQFByq
import Derived.Test.YtphnphmbfogmlaaGreatQFPrK
import Derived.Test.YtphnphmbfogmlaaGreatQFSx
namespace Go.Proofs.YtphnphmbfogmlaaGreat.Pr
open Go.RowKit Go.PW Go.PL Go.PM
attribute [local go_sem] Y3 Y4 YN YO Ya Yb Y5 Y6
set_option linter.unusedVariables false
set_option linter.unusedSimpArgs false
def Vs.f (l0 : List Int) (a1 : Int) : Option (Int) := if (wrap64 (a1 - (l0.length : Int))) < 0 then (some (-1)) else (some (wrap64 (a1 - (l0.length : Int))))
set_option maxHeartbeats 8000000 in
set_option maxRecDepth 100000 in
theorem Vs.calls (A0 : Option Addr) (c0 : Nat) (l0 : List Int) (a1 : Int) (r : Int) (w : World) (hr0 : Kd.C (Kd.int .i64) w A0 l0.length l0) (hc0 : l0.length ≤ c0) (h : Vs.f l0 a1 = some r) :
 Calls Tryz.prog 87 #[.slice A0 l0.length c0, .int .i64 a1] w fun e w' => e = .returned (.int .i64 r) ∧ ZE w w' := by
 have HR0 := az hr0; have HC0 := az hc0; clear hr0 hc0; have H : (if (wrap64 (a1 - (l0.length : Int))) < 0 then (some (-1)) else (some (wrap64 (a1 - (l0.length : Int))))) = some r := h; clear h
 by_cases c3 : (wrap64 (a1 - (l0.length : Int))) < 0
 ·rw [if_pos c3] at H
  have c3b0 : decide ((wrap64 (a1 - (l0.length : Int))) < 0) = true := decide_eq_true c3; clear c3; obtain rfl := Option.some.inj H
  go_enter Tryz.func87, Tryz.ntmps87
  go_wp2
  go_ret
  exact ⟨zb5, zb9⟩
 ·rw [if_neg c3] at H
  have c3b0 : decide ((wrap64 (a1 - (l0.length : Int))) < 0) = false := decide_eq_false c3; clear c3; obtain rfl := Option.some.inj H
  go_enter Tryz.func87, Tryz.ntmps87
  go_wp2
  go_ret
  exact ⟨zb5, zb9⟩
def Yk.l0 : Nat → List Int → List Int → Int → Option (List Int)
 | 0, _, _, _ => none
 | k + 1, x0, x3, x4 => if x4 < (x0.length : Int) then (if 0 ≤ x4 then (if x4 < (x3.length : Int) then (Yk.l0 k x0 (x3.set (x4 : Int).toNat (rd x0 x4)) (wrap64 (x4 + 1))) else (none)) else (none)) else (some x3)
def Yk.f (k : Nat) (l0 : List Int) : Option (List Int) := if 0 ≤ (l0.length : Int) then (if ((l0.length : Int) : Int).toNat ≤ 35184372088832 then (Yk.l0 k l0 (List.replicate ((l0.length : Int) : Int).toNat 0) 0) else (none)) else (none)
theorem Yk.VZ : ∀ k, (∀ y0 y1 y2, LeO (Yk.l0 k y0 y1 y2) (Yk.l0 (k + 1) y0 y1 y2))
 | 0 => fun _ _ _ r h => by simp [Yk.l0] at h
 | k + 1 => by
  have ih0 := Yk.VZ k
  ·intro y0 y1 y2
   unfold Yk.l0
   repeat' first
   | (with_reducible exact ih0 _ _ _)
   | (with_reducible exact LeO.refl _)
   | (with_reducible exact LeO.none _)
   | (with_reducible refine LeO.ite ?_ ?_)
   | (with_reducible refine LeO.bind ?_ (fun _ => ?_))
   | exact ih0 _ _ _
   | exact LeO.none _
   | refine LeO.ite ?_ ?_
   | refine LeO.bind ?_ (fun _ => ?_)
theorem Yk.mono : ∀ a0 k, LeO (Yk.f k a0) (Yk.f (k + 1) a0) := by
 intro a0 k; have ih0 := Yk.VZ k
 unfold Yk.f
 repeat' first
  | (with_reducible exact ih0 _ _ _)
  | (with_reducible exact LeO.refl _)
  | (with_reducible exact LeO.none _)
  | (with_reducible refine LeO.ite ?_ ?_)
  | (with_reducible refine LeO.bind ?_ (fun _ => ?_))
  | exact ih0 _ _ _
  | exact LeO.none _
  | refine LeO.ite ?_ ?_
  | refine LeO.bind ?_ (fun _ => ?_)
set_option maxHeartbeats 8000000 in
set_option maxRecDepth 100000 in
theorem Yk.calls (k : Nat) (A0 : Option Addr) (c0 : Nat) (l0 : List Int) (r : List Int) (w : World) (hr0 : Kd.C (Kd.int .i64) w A0 l0.length l0) (hc0 : l0.length ≤ c0) (h : Yk.f k l0 = some r) :
 Calls Tryz.prog 88 #[.slice A0 l0.length c0] w fun e w' => ∃ v0_ : Value, e = .returned (v0_) ∧ Kd.R (Kd.int .i64) 3 w' w.heap.size (fun _ => True) v0_ r ∧ Below w.heap.size w w' := by
 have HR0 := az hr0; have HC0 := az hc0; clear hr0 hc0; have HB := az (Below.refl w.heap.size w); have H : (if 0 ≤ (l0.length : Int) then (if ((l0.length : Int) : Int).toNat ≤ 35184372088832 then (Yk.l0 k l0 (List.replicate ((l0.length : Int) : Int).toNat 0) 0) else (none)) else (none)) = some r := h; clear h
 by_cases c2 : 0 ≤ (l0.length : Int)
 ·rw [if_pos c2] at H
  have c2b0 := eq_true c2; have c2b1 : decide (0 ≤ (l0.length : Int)) = true := decide_eq_true c2; clear c2
  by_cases c3 : ((l0.length : Int) : Int).toNat ≤ 35184372088832
  ·rw [if_pos c3] at H
   have c3b0 := eq_true c3; have c3b1 : decide (((l0.length : Int) : Int).toNat ≤ 35184372088832) = true := decide_eq_true c3; clear c3
   obtain ⟨y291, hy291⟩ : ∃ y_ : List Int, y_ = (List.replicate ((l0.length : Int) : Int).toNat 0) := ⟨_, rfl⟩
   replace H : (Yk.l0 k l0 y291 0) = some r := by first | (rw [hy291]; with_reducible exact H) | (have H2_ := (Option.bind_some _ _).symm.trans H; rw [hy291]; with_reducible exact H2_) | (have H2_ := (Option.bind_some _ _).symm.trans H; with_reducible exact H2_) | with_reducible exact H | (rw [hy291]; exact H) | exact H
   have Ny291 := az hy291; clear hy291; have H' := az H; clear H
   go_enter Tryz.func88, Tryz.ntmps88
   go_wp2_with (first | ((with_reducible refine Xp (N := 7) rfl ?_); refine Kd.Xb9 (Kd.int .i64) _ 3 rfl (N := 7) rfl 37 _ _ rfl (l0.length : Int) rfl rfl Tryz.underlying37 (.int .i64 0) 8 info3 rfl (by decide) (by omega) 0 (ok := fun _ => True) (okp := fun _ => True) rfl (fun _ hk => hk) trivial (of_decide_eq_true zb3) (Nat.le_trans (Nat.mul_le_mul_right _ (of_decide_eq_true zb3 : (l0.length : Int).toNat ≤ 35184372088832)) (by omega)) (Below.refl _ _) (Nat.le_refl _) ?_; intro v292 w4 ho5 hb hg_ hnew_; clear hg_ hnew_; (first | rw [← Ny291.out] at ho5 | (simp only [Int.reduceToNat] at ho5; rw [← Ny291.out] at ho5)); have Xvk := az (Kd.YY ho5 (XA zb0)); replace HB := az (Xc zb0 hb); clear hb ho5))
   go_loopg [4] k (fun kq v4 w' => ∃ (Xl : List Int) (X4 : Int), v4 = .int .i64 X4 ∧ Aside0 (Yk.l0 kq l0 Xl X4 = some r) ∧ Aside0 (kq ≤ k) ∧ Aside0 (Kd.R (Kd.int .i64) 3 w' w.heap.size (fun _ => True) v292 Xl) ∧ Aside0 (Below w.heap.size w w'))
   case atStart => exact ⟨(y291), (0), zb5, H', ⟨Nat.le_refl _⟩, ⟨by (with_reducible repeat (first | apply Kd.Yp | apply Kd.Y0 | apply Kd.YC)); exact Xvk.out⟩, ⟨zb0⟩⟩
   case round =>
    clear H';(try clear c2);(try clear c2b0);(try clear c2b1);(try clear p2);(try clear c3);(try clear c3b0);(try clear c3b1)
    obtain ⟨Xl, X4, rfl, HA, HK1, HO_3, HB⟩ := hrel
    cases gk with
    | zero => exact absurd HA.out (by simp [Yk.l0])
    | succ k1 =>
     have H := HA.out; clear HA; simp only [Yk.l0] at H
     by_cases c6 : X4 < (l0.length : Int)
     ·rw [if_pos c6] at H
      have c6b0 : decide (X4 < (l0.length : Int)) = true := decide_eq_true c6; clear c6
      by_cases c7 : 0 ≤ X4
      ·rw [if_pos c7] at H
       have c7b0 : decide (0 ≤ X4) = true := decide_eq_true c7; clear c7
       by_cases c8 : X4 < (Xl.length : Int)
       ·rw [if_pos c8] at H
        have c8b0 : decide (X4 < (Xl.length : Int)) = true := decide_eq_true c8; clear c8
        obtain ⟨XsH, hy295⟩ : ∃ y_ : List Int, y_ = (Xl.set (X4 : Int).toNat (rd l0 X4)) := ⟨_, rfl⟩
        replace H : (Yk.l0 k1 l0 XsH (wrap64 (X4 + 1))) = some r := by first | (rw [hy295]; with_reducible exact H) | (have H2_ := (Option.bind_some _ _).symm.trans H; rw [hy295]; with_reducible exact H2_) | (have H2_ := (Option.bind_some _ _).symm.trans H; with_reducible exact H2_) | with_reducible exact H | (rw [hy295]; exact H) | exact H
        have Ny295 := az hy295; clear hy295; have H' := az H; clear H; have XsI : 0 ≤ (X4 : Int) := of_decide_eq_true zb3; have XsJ : X4 < (l0.length : Int) := of_decide_eq_true zb3; obtain ⟨ad294, e294, Xai⟩ := Kd.Jn HR0.out X4 XsI XsJ
        cases e294
        replace Xai := (HB.out.cell (World.block_lt_of_cell? w _ Xai)).trans Xai; replace XsI := eq_true XsI; replace XsJ := eq_true XsJ; have p9 : 0 ≤ (X4 : Int) := of_decide_eq_true zb3; have q9 : (X4 : Int) < ((Xl.length : Int) : Int) := of_decide_eq_true zb3; obtain ⟨go9, co9, eo9, gb9, gl9, cl9, HG9⟩ := Kd.NB HO_3.out (by omega)
        (first | cases eo9 | (injection eo9 with ea_ en_ ec_; (first | subst ea_ | (injection ea_ with ea_; subst ea_)); subst ec_; clear en_))
        have GB9 := az gb9; have GG9 := az HG9; clear gb9 gl9 HG9; obtain ⟨hx9_0, hf9_0⟩ := Kd.RP 0 HO_3.out (X4 : Int) p9 q9; replace p9 := eq_true p9; replace q9 := eq_true q9; have HP10 := Kd.XmY HO_3.out (X4 : Int) (rd l0 X4)
        go_wp2_with (first | ((with_reducible refine Fg (t := 3) (p := 20) rfl ?_); refine D5 (t := 3) (p := 20) (v := ?vo_w11) (w1 := (wr.setCell ⟨go9, (X4 : Int).toNat, none⟩ (.int .i64 (rd l0 X4)))) ?hg ?ho ?hn ?hr ?_; (case ho => rfl); (case hg => rfl); (case hn => rfl); (case hr => exact zb7); intro w11 hw; have hg : wr.grownBy w11 (some go9) := (by rw [hw]; exact HP10.2); have hp_ : Kd.R (Kd.int .i64) 3 w11 w.heap.size (fun _ => True) (.slice (some ⟨go9, 0, none⟩) Xl.length co9) XsH := (by rw [hw, Ny295.out]; exact HP10.1); clear HP10; replace HO_3 := az (hp_); replace HB := az ((by rw [hw]; exact Xq (HB.out) GB9.out : Below w.heap.size w w11)); clear hg hw hp_))
        go_roundg k1
        case measure => have := HK1.out; omega
        case rel => exact ⟨(XsH), (wrap64 (X4 + 1)), zb5, H', ⟨zb33⟩, ⟨zb22⟩, ⟨zb0⟩⟩
       ·rw [if_neg c8] at H
        exact absurd H (by simp)
      ·rw [if_neg c7] at H
       exact absurd H (by simp)
     ·rw [if_neg c6] at H
      have c6b0 : decide (X4 < (l0.length : Int)) = false := decide_eq_false c6; clear c6; obtain rfl := Option.some.inj H
      go_wp2
      go_ret
      exact ⟨_, zb4, zb22, zb0⟩
  ·rw [if_neg c3] at H
   exact absurd H (by simp)
 ·rw [if_neg c2] at H
  exact absurd H (by simp)
def XK.l0 : Nat → List Int → List Int → Int → Option (Bool)
 | 0, _, _, _ => none
 | k + 1, x0, x1, x5 => if x5 < (x0.length : Int) then (if 0 ≤ x5 then (if x5 < (x1.length : Int) then (if (rd x0 x5) = (rd x1 x5) then (XK.l0 k x0 x1 (wrap64 (x5 + 1))) else (some false)) else (none)) else (none)) else (some true)
def XK.f (k : Nat) (l0 : List Int) (l1 : List Int) : Option (Bool) := if (l0.length : Int) = (l1.length : Int) then (XK.l0 k l0 l1 0) else (some false)
theorem XK.VZ : ∀ k, (∀ y0 y1 y2, LeO (XK.l0 k y0 y1 y2) (XK.l0 (k + 1) y0 y1 y2))
 | 0 => fun _ _ _ r h => by simp [XK.l0] at h
 | k + 1 => by
  have ih0 := XK.VZ k
  ·intro y0 y1 y2
   unfold XK.l0
   repeat' first
   | (with_reducible exact ih0 _ _ _)
   | (with_reducible exact LeO.refl _)
   | (with_reducible exact LeO.none _)
   | (with_reducible refine LeO.ite ?_ ?_)
   | (with_reducible refine LeO.bind ?_ (fun _ => ?_))
   | exact ih0 _ _ _
   | exact LeO.none _
   | refine LeO.ite ?_ ?_
   | refine LeO.bind ?_ (fun _ => ?_)
theorem XK.mono : ∀ a0 a1 k, LeO (XK.f k a0 a1) (XK.f (k + 1) a0 a1) := by
 intro a0 a1 k; have ih0 := XK.VZ k
 unfold XK.f
 repeat' first
  | (with_reducible exact ih0 _ _ _)
  | (with_reducible exact LeO.refl _)
  | (with_reducible exact LeO.none _)
  | (with_reducible refine LeO.ite ?_ ?_)
  | (with_reducible refine LeO.bind ?_ (fun _ => ?_))
  | exact ih0 _ _ _
  | exact LeO.none _
  | refine LeO.ite ?_ ?_
  | refine LeO.bind ?_ (fun _ => ?_)
set_option maxHeartbeats 8000000 in
set_option maxRecDepth 100000 in
theorem XK.calls (k : Nat) (A0 : Option Addr) (c0 : Nat) (l0 : List Int) (A1 : Option Addr) (c1 : Nat) (l1 : List Int) (r : Bool) (w : World) (hr0 : Kd.C (Kd.int .i64) w A0 l0.length l0) (hc0 : l0.length ≤ c0) (hr1 : Kd.C (Kd.int .i64) w A1 l1.length l1) (hc1 : l1.length ≤ c1) (h : XK.f k l0 l1 = some r) :
 Calls Tryz.prog 17 #[.slice A0 l0.length c0, .slice A1 l1.length c1] w fun e w' => e = .returned (.bool r) ∧ ZE w w' := by
 have HR0 := az hr0; have HC0 := az hc0; clear hr0 hc0; have HR1 := az hr1; have HC1 := az hc1; clear hr1 hc1; have H : (if (l0.length : Int) = (l1.length : Int) then (XK.l0 k l0 l1 0) else (some false)) = some r := h; clear h
 by_cases c3 : (l0.length : Int) = (l1.length : Int)
 ·rw [if_pos c3] at H
  have c3b0 : ((l0.length : Int) == (l1.length : Int)) = true := beq_iff_eq.mpr c3; have c3b1 : ((l0.length : Int) != (l1.length : Int)) = false := bne_eq_false_iff_eq.mpr c3
  have c3b2 : (l0.length == l1.length) = true := by first | simpa using c3 | (simp at c3 ⊢; omega)
  clear c3; have H' := az H; clear H
  go_enter Tryz.func17, Tryz.ntmps17
  go_wp2
  repeat (go_quiet (fail); try go_wp2)
  go_loopg [5] k (fun kq v5 w' => ∃ (Xh : Int), v5 = .int .i64 Xh ∧ Aside0 (XK.l0 kq l0 l1 Xh = some r) ∧ Aside0 (kq ≤ k) ∧ ZE w w')
  case atStart => exact ⟨(0), zb5, H', ⟨Nat.le_refl _⟩, zb9⟩
  case round =>
   clear H';(try clear c1);(try clear p2);(try clear c3);(try clear c3b0);(try clear c3b1);(try clear c3b2)
   obtain ⟨Xh, rfl, HA, HK1, ⟨m1, rfl⟩⟩ := hrel
   cases gk with
   | zero => exact absurd HA.out (by simp [XK.l0])
   | succ k1 =>
    have H := HA.out; clear HA; simp only [XK.l0] at H
    by_cases c4 : Xh < (l0.length : Int)
    ·rw [if_pos c4] at H
     have c4b0 : decide (Xh < (l0.length : Int)) = true := decide_eq_true c4; clear c4
     by_cases c5 : 0 ≤ Xh
     ·rw [if_pos c5] at H
      have c5b0 : decide (0 ≤ Xh) = true := decide_eq_true c5; clear c5
      by_cases c6 : Xh < (l1.length : Int)
      ·rw [if_pos c6] at H
       have c6b0 : decide (Xh < (l1.length : Int)) = true := decide_eq_true c6; clear c6
       by_cases c7 : (rd l0 Xh) = (rd l1 Xh)
       ·rw [if_pos c7] at H
        have c7b0 : ((rd l0 Xh) == (rd l1 Xh)) = true := beq_iff_eq.mpr c7; have c7b1 : ((rd l0 Xh) != (rd l1 Xh)) = false := bne_eq_false_iff_eq.mpr c7; clear c7; have H' := az H; clear H; have Xej : 0 ≤ (Xh : Int) := of_decide_eq_true zb3; have Xek : Xh < (l0.length : Int) := of_decide_eq_true zb3; obtain ⟨Xvl, XsK, XnS⟩ := Kd.Jn HR0.out Xh Xej Xek
        cases XsK
        replace Xej := eq_true Xej; replace Xek := eq_true Xek; have Xel : 0 ≤ (Xh : Int) := of_decide_eq_true zb3; have Xem : Xh < (l1.length : Int) := of_decide_eq_true zb3; obtain ⟨Xvm, XsL, XnT⟩ := Kd.Jn HR1.out Xh Xel Xem
        cases XsL
        replace Xel := eq_true Xel; replace Xem := eq_true Xem
        go_wp2
        repeat (go_quiet (fail); try go_wp2)
        go_roundg k1
        case measure => have := HK1.out; omega
        case rel => exact ⟨(wrap64 (Xh + 1)), zb5, H', ⟨zb33⟩, zb9⟩
       ·rw [if_neg c7] at H
        have c7b0 : ((rd l0 Xh) == (rd l1 Xh)) = false := beq_eq_false_iff_ne.mpr c7; have c7b1 : ((rd l0 Xh) != (rd l1 Xh)) = true := bne_iff_ne.mpr c7; obtain rfl := Option.some.inj H; have Xej : 0 ≤ (Xh : Int) := of_decide_eq_true zb3; have Xek : Xh < (l0.length : Int) := of_decide_eq_true zb3; obtain ⟨Xvl, XsK, XnS⟩ := Kd.Jn HR0.out Xh Xej Xek
        cases XsK
        replace Xej := eq_true Xej; replace Xek := eq_true Xek; have Xel : 0 ≤ (Xh : Int) := of_decide_eq_true zb3; have Xem : Xh < (l1.length : Int) := of_decide_eq_true zb3; obtain ⟨Xvm, XsL, XnT⟩ := Kd.Jn HR1.out Xh Xel Xem
        cases XsL
        replace Xel := eq_true Xel; replace Xem := eq_true Xem
        go_wp2
        repeat (go_quiet (fail); try go_wp2)
        go_ret
        exact ⟨zb5, zb9⟩
      ·rw [if_neg c6] at H
       exact absurd H (by simp)
     ·rw [if_neg c5] at H
      exact absurd H (by simp)
    ·rw [if_neg c4] at H
     have c4b0 : decide (Xh < (l0.length : Int)) = false := decide_eq_false c4; clear c4; obtain rfl := Option.some.inj H
     go_wp2
     repeat (go_quiet (fail); try go_wp2)
     go_ret
     exact ⟨zb5, zb9⟩
 ·rw [if_neg c3] at H
  have c3b0 : ((l0.length : Int) == (l1.length : Int)) = false := beq_eq_false_iff_ne.mpr c3; have c3b1 : ((l0.length : Int) != (l1.length : Int)) = true := bne_iff_ne.mpr c3
  have c3b2 : (l0.length == l1.length) = false := by first | simpa using c3 | (simp at c3 ⊢; omega)
  obtain rfl := Option.some.inj H
  go_enter Tryz.func17, Tryz.ntmps17
  go_wp2
  repeat (go_quiet (fail); try go_wp2)
  go_ret
  exact ⟨zb5, zb9⟩
def YT.l0 : Nat → List Int → Int → Int → Option (Int × List Int)
 | 0, _, _, _ => none
 | k + 1, x0, x1, x5 => if x5 < (x0.length : Int) then (if 0 ≤ x5 then (YT.l0 k (x0.set (x5 : Int).toNat x1) (wrap64 (x1 + 1)) (wrap64 (x5 + 1))) else (none)) else (some (x1, x0))
def YT.f (k : Nat) (l0 : List Int) (a1 : Int) : Option (Int × List Int) := YT.l0 k l0 a1 0
set_option maxHeartbeats 8000000 in
set_option maxRecDepth 100000 in
theorem YT.calls (k : Nat) (P0_ : Nat → Prop) (Cz : Value) (l0 : List Int) (a1 : Int) (r1 : Int) (r2 : List Int) (w0 w : World) (hB : Below w0.heap.size w0 w) (ho0 : Kd.R (Kd.int .i64) 3 w w0.heap.size P0_ Cz l0) (h : YT.f k l0 a1 = some (r1, r2)) :
 Calls Tryz.prog 19 #[Cz, .int .i64 a1] w fun e w' => e = .returned (.int .i64 r1) ∧ Kd.R (Kd.int .i64) 3 w' w0.heap.size (fun k_ => (P0_ k_ ∨ w.heap.size ≤ k_)) Cz r2 ∧ Below w0.heap.size w0 w' ∧ Kept w w' (fun k_ => P0_ k_) := by
 have HO0 := az (show Kd.R (Kd.int .i64) 3 w w0.heap.size (fun k_ => (P0_ k_ ∨ w.heap.size ≤ k_)) Cz l0 from Kd.XZ ho0 (fun k_ hk => (.inl hk))); have HK := az (Kept.refl w (fun k_ => P0_ k_)); have HW0 := az hB.size; have HB := az hB; clear hB; have H : (YT.l0 k l0 a1 0) = some (r1, r2) := h; clear h; have H' := az H; clear H
 go_enter Tryz.func19, Tryz.ntmps19
 go_wp2
 go_loopg [1, 5] k (fun kq v1 v5 w' => ∃ (Xaj : List Int) (ZB : Int) (Xh : Int), v1 = .int .i64 ZB ∧ v5 = .int .i64 Xh ∧ Aside0 (YT.l0 kq Xaj ZB Xh = some (r1, r2)) ∧ Aside0 (kq ≤ k) ∧ Aside0 (Kd.R (Kd.int .i64) 3 w' w0.heap.size (fun k_ => (P0_ k_ ∨ w.heap.size ≤ k_)) Cz Xaj) ∧ Aside0 (Kept w w' (fun k_ => P0_ k_)) ∧ Aside0 (Below w0.heap.size w0 w'))
 case atStart => exact ⟨(l0), (a1), (0), zb5, zb5, H', ⟨Nat.le_refl _⟩, ⟨by (with_reducible repeat (first | apply Kd.Yp | apply Kd.Y0 | apply Kd.YC)); exact HO0.out⟩, ⟨zb55⟩, ⟨zb0⟩⟩
 case round =>
  clear H';(try clear c1);(try clear p2)
  obtain ⟨Xaj, ZB, Xh, rfl, rfl, HA, HK1, HO_0, HK, HB⟩ := hrel
  cases gk with
  | zero => exact absurd HA.out (by simp [YT.l0])
  | succ k1 =>
   have H := HA.out; clear HA; simp only [YT.l0] at H
   by_cases c3 : Xh < (Xaj.length : Int)
   ·rw [if_pos c3] at H
    have c3b0 : decide (Xh < (Xaj.length : Int)) = true := decide_eq_true c3; clear c3
    by_cases c4 : 0 ≤ Xh
    ·rw [if_pos c4] at H
     have c4b0 : decide (0 ≤ Xh) = true := decide_eq_true c4; clear c4
     obtain ⟨XsM, hy641⟩ : ∃ y_ : List Int, y_ = (Xaj.set (Xh : Int).toNat ZB) := ⟨_, rfl⟩
     replace H : (YT.l0 k1 XsM (wrap64 (ZB + 1)) (wrap64 (Xh + 1))) = some (r1, r2) := by first | (rw [hy641]; with_reducible exact H) | (have H2_ := (Option.bind_some _ _).symm.trans H; rw [hy641]; with_reducible exact H2_) | (have H2_ := (Option.bind_some _ _).symm.trans H; with_reducible exact H2_) | with_reducible exact H | (rw [hy641]; exact H) | exact H
     have Ny641 := az hy641; clear hy641; have H' := az H; clear H; obtain ⟨Ao6, co6, eo6⟩ := Kd.Y2 HO_0.out; subst eo6; have p5 : 0 ≤ (Xh : Int) := of_decide_eq_true zb3; have q5 : (Xh : Int) < ((Xaj.length : Int) : Int) := of_decide_eq_true zb3; obtain ⟨go5, co5, eo5, gb5, gl5, cl5, HG5⟩ := Kd.NB HO_0.out (by omega)
     (first | cases eo5 | (injection eo5 with ea_ en_ ec_; (first | subst ea_ | (injection ea_ with ea_; subst ea_)); subst ec_; clear en_))
     have GB5 := az gb5; have GG5 := az HG5; clear gb5 gl5 HG5; have HMgo5 := az (show (P0_ go5 ∨ w.heap.size ≤ go5) from (HO_0.out.1 _ rfl)); obtain ⟨hx5_0, hf5_0⟩ := Kd.RP 0 HO_0.out (Xh : Int) p5 q5; replace p5 := eq_true p5; replace q5 := eq_true q5; have HP7 := Kd.XmY HO_0.out (Xh : Int) ZB
     go_wp2_with (first | ((with_reducible refine Fg (t := 3) (p := 15) rfl ?_); refine D5 (t := 3) (p := 15) (v := ?vo_w8) (w1 := (wr.setCell ⟨go5, (Xh : Int).toNat, none⟩ (.int .i64 ZB))) ?hg ?ho ?hn ?hr ?_; (case ho => rfl); (case hg => rfl); (case hn => rfl); (case hr => exact zb7); intro w8 hw; have hg : wr.grownBy w8 (some go5) := (by rw [hw]; exact HP7.2); have hp_ : Kd.R (Kd.int .i64) 3 w8 w0.heap.size (fun k_ => (P0_ k_ ∨ w.heap.size ≤ k_)) (.slice (some ⟨go5, 0, none⟩) Xaj.length co6) XsM := (by rw [hw, Ny641.out]; exact HP7.1); clear HP7; replace HB := az ((by rw [hw]; exact Xq (HB.out) GB5.out : Below w0.heap.size w0 w8)); replace HK := az (Kept.Xdx (S := (fun k_ => P0_ k_)) hg zb55 (fun k_ e_ => (HO_0.out.1 k_ e_))); replace HO_0 := az (hp_); clear hg hw hp_))
     go_roundg k1
     case measure => have := HK1.out; omega
     case rel => exact ⟨(XsM), (wrap64 (ZB + 1)), (wrap64 (Xh + 1)), zb5, zb5, H', ⟨zb33⟩, ⟨by (with_reducible repeat (first | apply Kd.Yp | apply Kd.Y0 | apply Kd.YC)); exact HO_0.out⟩, ⟨zb55⟩, ⟨zb0⟩⟩
    ·rw [if_neg c4] at H
     exact absurd H (by simp)
   ·rw [if_neg c3] at H
    have c3b0 : decide (Xh < (Xaj.length : Int)) = false := decide_eq_false c3; clear c3; simp only [Option.some.injEq, Prod.mk.injEq] at H; obtain ⟨rfl, rfl⟩ := H; obtain ⟨Ao9, co9, eo9⟩ := Kd.Y2 HO_0.out; subst eo9
    go_wp2
    go_ret
    exact ⟨zb4, by (with_reducible repeat (first | apply Kd.Yp | apply Kd.Y0 | apply Kd.YC)); exact HO_0.out, zb0, zb55⟩
def YF.l0 : Nat → List Int → Int → Int → Option (Int)
 | 0, _, _, _ => none
 | k + 1, x0, x1, x5 => if x5 < (x0.length : Int) then (if 0 ≤ x5 then (if (rd x0 x5) = x1 then (YF.l0 k x0 (wrap64 (x1 + 1)) (wrap64 (x5 + 1))) else (some (-1))) else (none)) else (some x1)
def YF.f (k : Nat) (l0 : List Int) (a1 : Int) : Option (Int) := YF.l0 k l0 a1 0
set_option maxHeartbeats 8000000 in
set_option maxRecDepth 100000 in
theorem YF.calls (k : Nat) (A0 : Option Addr) (c0 : Nat) (l0 : List Int) (a1 : Int) (r : Int) (w : World) (hr0 : Kd.C (Kd.int .i64) w A0 l0.length l0) (hc0 : l0.length ≤ c0) (h : YF.f k l0 a1 = some r) :
 Calls Tryz.prog 20 #[.slice A0 l0.length c0, .int .i64 a1] w fun e w' => e = .returned (.int .i64 r) ∧ ZE w w' := by
 have HR0 := az hr0; have HC0 := az hc0; clear hr0 hc0; have H : (YF.l0 k l0 a1 0) = some r := h; clear h; have H' := az H; clear H
 go_enter Tryz.func20, Tryz.ntmps20
 go_wp2
 go_loopg [1, 5] k (fun kq v1 v5 w' => ∃ (ZB : Int) (Xh : Int), v1 = .int .i64 ZB ∧ v5 = .int .i64 Xh ∧ Aside0 (YF.l0 kq l0 ZB Xh = some r) ∧ Aside0 (kq ≤ k) ∧ ZE w w')
 case atStart => exact ⟨(a1), (0), zb5, zb5, H', ⟨Nat.le_refl _⟩, zb9⟩
 case round =>
  clear H';(try clear c2);(try clear p2)
  obtain ⟨ZB, Xh, rfl, rfl, HA, HK1, ⟨m1, rfl⟩⟩ := hrel
  cases gk with
  | zero => exact absurd HA.out (by simp [YF.l0])
  | succ k1 =>
   have H := HA.out; clear HA; simp only [YF.l0] at H
   by_cases c3 : Xh < (l0.length : Int)
   ·rw [if_pos c3] at H
    have c3b0 : decide (Xh < (l0.length : Int)) = true := decide_eq_true c3; clear c3
    by_cases c4 : 0 ≤ Xh
    ·rw [if_pos c4] at H
     have c4b0 : decide (0 ≤ Xh) = true := decide_eq_true c4; clear c4
     by_cases c5 : (rd l0 Xh) = ZB
     ·rw [if_pos c5] at H
      have c5b0 : ((rd l0 Xh) == ZB) = true := beq_iff_eq.mpr c5; have c5b1 : ((rd l0 Xh) != ZB) = false := bne_eq_false_iff_eq.mpr c5; clear c5; have H' := az H; clear H; have Xen : 0 ≤ (Xh : Int) := of_decide_eq_true zb3; have Xeo : Xh < (l0.length : Int) := of_decide_eq_true zb3; obtain ⟨Xvn, XsN, XnU⟩ := Kd.Jn HR0.out Xh Xen Xeo
      cases XsN
      replace Xen := eq_true Xen; replace Xeo := eq_true Xeo
      go_wp2
      go_roundg k1
      case measure => have := HK1.out; omega
      case rel => exact ⟨(wrap64 (ZB + 1)), (wrap64 (Xh + 1)), zb5, zb5, H', ⟨zb33⟩, zb9⟩
     ·rw [if_neg c5] at H
      have c5b0 : ((rd l0 Xh) == ZB) = false := beq_eq_false_iff_ne.mpr c5; have c5b1 : ((rd l0 Xh) != ZB) = true := bne_iff_ne.mpr c5; obtain rfl := Option.some.inj H; have Xen : 0 ≤ (Xh : Int) := of_decide_eq_true zb3; have Xeo : Xh < (l0.length : Int) := of_decide_eq_true zb3; obtain ⟨Xvn, XsN, XnU⟩ := Kd.Jn HR0.out Xh Xen Xeo
      cases XsN
      replace Xen := eq_true Xen; replace Xeo := eq_true Xeo
      go_wp2
      go_ret
      exact ⟨zb5, zb9⟩
    ·rw [if_neg c4] at H
     exact absurd H (by simp)
   ·rw [if_neg c3] at H
    have c3b0 : decide (Xh < (l0.length : Int)) = false := decide_eq_false c3; clear c3; obtain rfl := Option.some.inj H
    go_wp2
    go_ret
    exact ⟨zb5, zb9⟩
end Go.Proofs.YtphnphmbfogmlaaGreat.Pr
