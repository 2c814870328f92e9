import Derived.Test.YtphnphmbfogmlaaGreatQFByq
import Derived.Test.YtphnphmbfogmlaaGreatQFWMore
import Derived.Test.YtphnphmbfogmlaaGreatQFPrK
import Derived.Test.YtphnphmbfogmlaaGreatQFSx
import Derived.Test.YtphnphmbfogmlaaGreatQFPrInts
import Derived.Test.YtphnphmbfogmlaaGreatQFLogOk
import Derived.Test.YtphnphmbfogmlaaGreatQFLast
import Derived.Test.YtphnphmbfogmlaaGreatQFPrLogB
namespace Go.Proofs.YtphnphmbfogmlaaGreat.T
open Go.RowKit Go.PW Go.Proofs.YtphnphmbfogmlaaGreat.Pr
set_option linter.unusedSimpArgs false
set_option linter.unusedVariables false
theorem Xdm (l : List S76) (t : Int) (hl : l.length ≤ 9223372036854775807) : ∀ (i k : Nat), i ≤ l.length → i < k → Yr.l0 k l t ((i : Int) - 1) = some (lastB (l.take i) t)
 | 0, k + 1, _, _ => by
  rw [Yr.l0, if_neg (by omega)]
  rfl
 | i + 1, k + 1, hi, hk => by
  have e : ((i + 1 : Nat) : Int) - 1 = (i : Int) := by omega
  rw [e, Yr.l0, if_pos (by omega), if_pos (by omega), if_pos (by omega), XR l i (by omega)]
  by_cases h1 : ((Xa l i).f1) = t
  ·rw [if_pos h1, if_pos h1]
   by_cases h4 : ((Xa l i).f0) = 4
   ·simp [h4]
   ·by_cases h5 : ((Xa l i).f0) = 5
    ·simp [h5]
    ·rw [if_neg h4, if_neg h5, if_neg (by omega), T.wrap_small (by omega) (by omega)]
  ·rw [if_neg h1, if_neg h1, T.wrap_small (by omega) (by omega)]
   exact Xdm l t hl i k (by omega) (by omega)
theorem PQ (l : List S76) (t : Int) (hl : l.length ≤ 9223372036854775807) (k : Nat) (hk : l.length < k) : Yr.f k l t = some (lastB l t) := by
 unfold Yr.f
 rw [T.wrap_small (by omega) (by omega), Xdm l t hl l.length k (Nat.le_refl _) hk, List.take_length]
theorem Xfx (n i : Nat) (h : i < n) : (List.range n).drop i = i :: (List.range n).drop (i + 1) := by
 rw [List.drop_eq_getElem_cons (by simpa using h)]
 simp
theorem PV (l : List S76) (hl : l.length ≤ 9223372036854775807) : ∀ (d i k : Nat), i + d = l.length → 2 * d + l.length + 4 < k → Xt.l0 k l i = some (decide (l.length ≤ 150) && ((List.range l.length).drop i).all (Jt l))
 | 0, i, k + 1, hi, _ => by
  rw [Xt.l0, if_neg (by omega), List.drop_of_length_le zb99]
  have : decide ((l.length : Int) ≤ 150) = decide (l.length ≤ 150) := by
   rw [decide_eq_decide]; omega
  simp [this]
 | d + 1, i, k + 2, hi, hk => by
  have hlt : i < l.length := by omega
  rw [Xfx _ _ hlt, List.all_cons]; have ih := PV l hl d (i + 1) k (by omega) (by omega)
  have hw : wrap64 ((i : Int) + 1) = ((i + 1 : Nat) : Int) := by rw [T.wrap_small (by omega) (by omega)]; omega
  have hjt : Xt.j1 (k + 1) l i true = some false := by rw [Xt.j1]; rfl
  obtain ⟨k1, rfl⟩ : ∃ j, k = j + 2 := ⟨k - 2, by omega⟩
  rw [Xt.l0, if_pos (by omega), if_pos (by omega), PX _ _ _ _ _ _ _ _ (k1 + 1)]; simp only [Option.bind_some]
  by_cases hok : V6 ((Xa l i).f0) ((Xa l i).f1) ((Xa l i).f2) ((Xa l i).f3) ((Xa l i).f4) ((Xa l i).f5) ((Xa l i).f6) ((Xa l i).f7) = true
  ·have hnx := Qv hok
   rw [if_pos hok, if_pos (by omega), PQ _ _ zb99 _ zb99]; simp only [Option.bind_some, Int.toNat_natCast]
   by_cases hpv : ((Xa l i).f6) = lastB (l.take i) ((Xa l i).f1)
   ·rw [if_pos hpv]
    by_cases hni : ((Xa l i).f7) > (i : Int)
    ·have e : Jt l i = false := by unfold Jt; simp; omega
     rw [decide_eq_true hni, hjt, e]
     simp
    ·rw [decide_eq_false hni, Xt.j1]
     simp only [Bool.false_eq_true, if_false]; rw [if_pos (by omega), if_pos (by omega)]
     by_cases hn0 : ((Xa l i).f7) > 0
     ·rw [if_pos hn0, T.wrap_small (by omega) (by omega), if_pos (by omega), if_pos (by omega)]
      by_cases hsm : (Xa l (((Xa l i).f7) - 1)).f1 = ((Xa l i).f1)
      ·have e : Jt l i = true := by unfold Jt; rw [hok]; simp [← hpv, hsm]; omega
       rw [if_pos hsm, hw, ih, e]
       simp
      ·have e : Jt l i = false := by unfold Jt; simp [hsm]; omega
       rw [if_neg hsm, e]
       simp
     ·have e : Jt l i = true := by unfold Jt; rw [hok]; simp [← hpv]; omega
      rw [if_neg hn0, hw, ih, e]
      simp
   ·have e : Jt l i = false := by unfold Jt; simp [hpv]
    rw [if_neg hpv, hjt, e]
    simp
  ·have e : Jt l i = false := by unfold Jt; simp [hok]
   rw [if_neg hok, hjt, e]
   simp
theorem Xb6 (l : List S76) (hl : l.length ≤ 9223372036854775807) (k : Nat) (hk : 3 * l.length + 4 < k) : Xt.f k l = some (YP l) := by
 unfold Xt.f YP
 have h := PV l hl l.length 0 k (by omega) (by omega)
 simpa using h
def cv (x : S78) : S76 := ⟨x.f0, x.f1, x.f2, x.f3, x.f4, x.f5, x.f6, x.f7⟩
theorem Xdn (l : List S78) (hl : l.length ≤ 4398046511104) : ∀ (d i k : Nat), i + d = l.length → d < k → YW.l0 k l ((l.take i).map cv ++ List.replicate d z76) i = some (l.map cv)
 | 0, i, k + 1, hi, _ => by
  rw [YW.l0, if_neg (by omega), List.take_of_length_le (by omega)]
  simp
 | d + 1, i, k + 1, hi, hk => by
  have hlt : i < l.length := by omega
  rw [YW.l0, if_pos (by omega), if_pos (by omega)]
  unfold U1.f
  simp only [Option.bind_some]; rw [if_pos zb99, T.wrap_small (by omega) (by omega)]
  have e : ((l.take i).map cv ++ List.replicate (d + 1) z76).set ((i : Int)).toNat (cv (ZF l i)) = (l.take (i + 1)).map cv ++ List.replicate d z76 := by
   rw [Int.toNat_natCast, List.set_append_right _ _ zb99, List.length_map, List.length_take, Nat.min_eq_left (by omega), Nat.sub_self, List.replicate_succ, List.set_cons_zero]
   have e1 : l.take (i + 1) = l.take i ++ [ZF l i] := by
    rw [List.take_add_one, List.getElem?_eq_getElem hlt]
    simp [ZF, List.getD_eq_getElem?_getD, List.getElem?_eq_getElem hlt]
   rw [e1, List.map_append]
   simp
  have e2 : (i : Int) + 1 = ((i + 1 : Nat) : Int) := by omega
  rw [e2]; refine (congrArg (fun z => YW.l0 k l z ((i + 1 : Nat) : Int)) ?_).trans (Xdn l hl d (i + 1) k (by omega) (by omega)); exact e
theorem Xdo (l : List S78) (hl : l.length ≤ 4398046511104) (k : Nat) (hk : l.length < k) : YW.f k l = some (l.map cv) := by
 unfold YW.f
 rw [if_pos (by omega), if_pos (by omega), Int.toNat_natCast]; have h := Xdn l hl l.length 0 k (by omega) hk
 simpa using h
theorem Xdp (l : List S76) (hl : l.length ≤ 9223372036854775807) : ∀ (d i k : Nat), i + d = l.length → d < k → XJ.l0 k l l i = some true
 | 0, i, k + 1, hi, _ => by
  rw [XJ.l0, if_neg (by omega)]
 | d + 1, i, k + 1, hi, hk => by
  rw [XJ.l0, if_pos (by omega), if_pos (by omega), if_pos (by omega)]
  unfold Ff.f
  simp only [if_true, Option.bind_some]; rw [T.wrap_small (by omega) (by omega), show (i : Int) + 1 = ((i + 1 : Nat) : Int) by omega]; exact Xdp l hl d (i + 1) k (by omega) (by omega)
theorem XmH (l : List S76) (hl : l.length ≤ 9223372036854775807) (k : Nat) (hk : l.length < k) : XJ.f k l l = some true := by
 unfold XJ.f
 rw [if_pos rfl]; exact Xdp l hl l.length 0 k (by omega) hk
end Go.Proofs.YtphnphmbfogmlaaGreat.T
namespace Go.Proofs.YtphnphmbfogmlaaGreat.Pr
open Go.RowKit Go.PW Go.Proofs.YtphnphmbfogmlaaGreat.T
end Go.Proofs.YtphnphmbfogmlaaGreat.Pr
namespace Go.Proofs.YtphnphmbfogmlaaGreat.Pr
open Go.RowKit Go.PW Go.PL Go.PM
attribute [local go_sem] Y3 Y4 YN YO Ya Yb Y5 Y6
set_option linter.unusedVariables false
set_option linter.unusedSimpArgs false
def Zf.l0 : Nat → List (S76) → List Int → Int → Option (List Int)
 | 0, _, _, _ => none
 | k + 1, x0, x3, x4 => if x4 ≤ 3 then ((Jw.f k x0 x4).bind fun O1 => (if O1 = 0 then (Zf.l0 k x0 x3 (wrap64 (x4 + 1))) else (if x3.length < 17592186044416 then (Zf.l0 k x0 (x3 ++ [x4]) (wrap64 (x4 + 1))) else (none)))) else (some x3)
def Zf.f (k : Nat) (l0 : List (S76)) : Option (List Int) := Zf.l0 k l0 ([] : List Int) 1
set_option maxHeartbeats 8000000 in
set_option maxRecDepth 100000 in
theorem Zf.calls (k : Nat) (A0 : Option Addr) (c0 : Nat) (l0 : List (S76)) (r : List Int) (w : World) (hr0 : Kd.C k76 w A0 l0.length l0) (hc0 : l0.length ≤ c0) (h : Zf.f k l0 = some r) :
 Calls Tryz.prog 59 #[.slice A0 l0.length c0] w fun e w' => ∃ v0_ : Value, e = .returned (v0_) ∧ Kd.R (Kd.int .i64) 3 w' w.heap.size (fun _ => True) v0_ r ∧ Below w.heap.size w w' := by
 have HR0 := az hr0; have HC0 := az hc0; clear hr0 hc0; have HB := az (Below.refl w.heap.size w); have H : (Zf.l0 k l0 ([] : List Int) 1) = some r := h; clear h; have H' := az H; clear H
 go_enter Tryz.func59, Tryz.ntmps59
 go_wp2
 go_loopg [3, 4] k (fun kq v3 v4 w' => ∃ (Xl : List Int) (X4 : Int), v4 = .int .i64 X4 ∧ Aside0 (Zf.l0 kq l0 Xl X4 = some r) ∧ Aside0 (kq ≤ k) ∧ Aside0 (Kd.R (Kd.int .i64) 3 w' w.heap.size (fun _ => True) v3 Xl) ∧ Aside0 (Below w.heap.size w w'))
 case atStart => exact ⟨(([] : List Int)), (1), zb5, H', ⟨Nat.le_refl _⟩, ⟨zb44⟩, ⟨zb0⟩⟩
 case round =>
  clear H'; obtain ⟨Xl, X4, rfl, HA, HK1, HO_3, HB⟩ := hrel
  cases gk with
  | zero => exact absurd HA.out (by simp [Zf.l0])
  | succ k1 =>
   have H := HA.out; clear HA; simp only [Zf.l0] at H
   by_cases c2 : X4 ≤ 3
   ·rw [if_pos c2] at H
    have c2b0 : decide (X4 ≤ 3) = true := decide_eq_true c2; clear c2; replace H := Option.bind_eq_some_iff.mp H; obtain ⟨O1, A30, H⟩ := H; replace H : (if O1 = 0 then (Zf.l0 k1 l0 Xl (wrap64 (X4 + 1))) else (if Xl.length < 17592186044416 then (Zf.l0 k1 l0 (Xl ++ [X4]) (wrap64 (X4 + 1))) else (none))) = some r := H; have A3 := az A30; clear A30
    by_cases c4 : O1 = 0
    ·rw [if_pos c4] at H
     have c4b0 : (O1 == 0) = true := beq_iff_eq.mpr c4; have c4b1 : (O1 != 0) = false := bne_eq_false_iff_eq.mpr c4; clear c4; have H' := az H; clear H
     go_wp2_with (first | ((with_reducible refine Xo (f := 89) rfl ?_); refine Yx (some 11) rfl rfl Tryz.func89 zb6 rfl #[.slice A0 l0.length c0, .int .i64 X4] rfl zb2 ?_; (with_reducible refine (Jw.calls k1 _ _ l0 X4 O1 _ ?side1 ?side2 A3.out).mono ?_); (case side1 => exact zb15); (case side2 => exact HC0.out); rintro e w5 ⟨rfl, hb⟩; refine ⟨_, rfl, ?_⟩; replace HO_3 := az (Kd.Xr zb22 hb); replace HB := az (Xc zb0 hb); (try clear hb); (try clear hb2); (try clear hk); (try clear hi)))
     go_roundg k1
     case measure => have := HK1.out; omega
     case rel => exact ⟨(Xl), (wrap64 (X4 + 1)), zb5, H', ⟨zb33⟩, ⟨zb22⟩, ⟨zb0⟩⟩
    ·rw [if_neg c4] at H
     have c4b0 : (O1 == 0) = false := beq_eq_false_iff_ne.mpr c4; have c4b1 : (O1 != 0) = true := bne_iff_ne.mpr c4
     by_cases c6 : Xl.length < 17592186044416
     ·rw [if_pos c6] at H
      have LMc6 := az c6; clear c6
      obtain ⟨y343, hy343⟩ : ∃ y_ : List Int, y_ = (Xl ++ [X4]) := ⟨_, rfl⟩
      replace H : (Zf.l0 k1 l0 y343 (wrap64 (X4 + 1))) = some r := by first | (rw [hy343]; with_reducible exact H) | (have H2_ := (Option.bind_some _ _).symm.trans H; rw [hy343]; with_reducible exact H2_) | (have H2_ := (Option.bind_some _ _).symm.trans H; with_reducible exact H2_) | with_reducible exact H | (rw [hy343]; exact H) | exact H
      have Ny343 := az hy343; clear hy343; have H' := az H; clear H
      go_wp2_with (first | ((with_reducible refine Xo (f := 89) rfl ?_); refine Yx (some 11) rfl rfl Tryz.func89 zb6 rfl #[.slice A0 l0.length c0, .int .i64 X4] rfl zb2 ?_; (with_reducible refine (Jw.calls k1 _ _ l0 X4 O1 _ ?side1 ?side2 A3.out).mono ?_); (case side1 => exact zb15); (case side2 => exact HC0.out); rintro e w7 ⟨rfl, hb⟩; refine ⟨_, rfl, ?_⟩; replace HO_3 := az (Kd.Xr zb22 hb); replace HB := az (Xc zb0 hb); (try clear hb); (try clear hb2); (try clear hk); (try clear hi)) | ((with_reducible refine Z0 (b := .append) (xs := #[.tmp 13, .tmp 15]) rfl ?_); at_builtin; refine Kd.VV (Kd.int .i64) (w0 := w) w.heap.size rfl (.tmp 13) (.tmp 15) 37 3 (.int .i64 0) 8 rfl Tryz.underlying37 info3 rfl (by decide) (by omega) u3 Xl X4 [.int .i64 X4] (fun _ => True) (fun _ => False) rfl rfl ?aP (fun _ hk => hk.elim) ?aF ?aO ?aB ?aS ?aL ?_; (case aP => exact rfl); (case aB => exact zb0); (case aF => exact zb89); (case aO => exact zb22); (case aS => exact (XA zb0)); (case aL => have := LMc6.out; omega); intro v344 w8 ho hb hg hat; rw [← Ny343.out] at ho; replace HB := az (hb); have Xvp := az (ho); clear HO_3; clear ho hb hg hat))
      go_roundg k1
      case measure => have := HK1.out; omega
      case rel => exact ⟨(y343), (wrap64 (X4 + 1)), zb5, H', ⟨zb33⟩, ⟨by (with_reducible repeat (first | apply Kd.Yp | apply Kd.Y0 | apply Kd.YC)); exact Xvp.out⟩, ⟨zb0⟩⟩
     ·rw [if_neg c6] at H
      exact absurd H (by simp)
   ·rw [if_neg c2] at H
    have c2b0 : decide (X4 ≤ 3) = false := decide_eq_false c2; clear c2; obtain rfl := Option.some.inj H
    go_wp2
    go_ret
    exact ⟨_, zb4, zb22, zb0⟩
end Go.Proofs.YtphnphmbfogmlaaGreat.Pr
namespace Go.Proofs.YtphnphmbfogmlaaGreat.Pr
open Go.RowKit Go.PW Go.PL Go.PM
attribute [local go_sem] Y3 Y4 YN YO Ya Yb Y5 Y6
set_option linter.unusedVariables false
set_option linter.unusedSimpArgs false
def Ze.l0 : Nat → List (S76) → List Int → Int → Option (List Int)
 | 0, _, _, _ => none
 | k + 1, x0, x5, x6 => if x6 = 0 then (some x5) else (if x5.length < 17592186044416 then (if 0 ≤ (wrap64 (x6 - 1)) then (if (wrap64 (x6 - 1)) < (x0.length : Int) then (Ze.l0 k x0 (x5 ++ [x6]) ((Xa x0 (wrap64 (x6 - 1))).f6)) else (none)) else (none)) else (none))
def Ze.f (k : Nat) (l0 : List (S76)) (a1 : Int) : Option (List Int) := (Jw.f k l0 a1).bind fun Xep => (Ze.l0 k l0 ([] : List Int) Xep)
set_option maxHeartbeats 8000000 in
set_option maxRecDepth 100000 in
theorem Ze.calls (k : Nat) (A0 : Option Addr) (c0 : Nat) (l0 : List (S76)) (a1 : Int) (r : List Int) (w : World) (hr0 : Kd.C k76 w A0 l0.length l0) (hc0 : l0.length ≤ c0) (h : Ze.f k l0 a1 = some r) :
 Calls Tryz.prog 91 #[.slice A0 l0.length c0, .int .i64 a1] w fun e w' => ∃ v0_ : Value, e = .returned (v0_) ∧ Kd.R (Kd.int .i64) 3 w' w.heap.size (fun _ => True) v0_ r ∧ Below w.heap.size w w' := by
 have HR0 := az hr0; have HC0 := az hc0; clear hr0 hc0; have HB := az (Below.refl w.heap.size w); have H : ((Jw.f k l0 a1).bind fun Xep => (Ze.l0 k l0 ([] : List Int) Xep)) = some r := h; clear h; replace H := Option.bind_eq_some_iff.mp H; obtain ⟨Xep, A30, H⟩ := H; replace H : (Ze.l0 k l0 ([] : List Int) Xep) = some r := H; have A3 := az A30; clear A30; have H' := az H; clear H
 go_enter Tryz.func91, Tryz.ntmps91
 go_wp2_with (first | ((with_reducible refine Xo (f := 89) rfl ?_); refine Yx (some 9) rfl rfl Tryz.func89 zb6 rfl #[.slice A0 l0.length c0, .int .i64 a1] rfl zb2 ?_; (with_reducible refine (Jw.calls k _ _ l0 a1 Xep _ ?side1 ?side2 A3.out).mono ?_); (case side1 => exact zb16); (case side2 => exact HC0.out); rintro e w4 ⟨rfl, hb⟩; refine ⟨_, rfl, ?_⟩; replace HB := az (Xc zb0 hb); (try clear hb); (try clear hb2); (try clear hk); (try clear hi)))
 go_loopg [5, 6] k (fun kq v5 v6 w' => ∃ (Xh : List Int) (Yi : Int), v6 = .int .i64 Yi ∧ Aside0 (Ze.l0 kq l0 Xh Yi = some r) ∧ Aside0 (kq ≤ k) ∧ Aside0 (Kd.R (Kd.int .i64) 3 w' w.heap.size (fun _ => True) v5 Xh) ∧ Aside0 (Below w.heap.size w w'))
 case atStart => exact ⟨(([] : List Int)), (Xep), zb5, H', ⟨Nat.le_refl _⟩, ⟨zb44⟩, ⟨zb0⟩⟩
 case round =>
  clear H';(try clear p2)
  obtain ⟨Xh, Yi, rfl, HA, HK1, HO_5, HB⟩ := hrel
  cases gk with
  | zero => exact absurd HA.out (by simp [Ze.l0])
  | succ k1 =>
   have H := HA.out; clear HA; simp only [Ze.l0] at H
   by_cases c5 : Yi = 0
   ·rw [if_pos c5] at H
    have c5b0 : (Yi == 0) = true := beq_iff_eq.mpr c5; have c5b1 : (Yi != 0) = false := bne_eq_false_iff_eq.mpr c5; clear c5; obtain rfl := Option.some.inj H
    go_wp2
    go_ret
    exact ⟨_, zb4, zb59, zb0⟩
   ·rw [if_neg c5] at H
    have c5b0 : (Yi == 0) = false := beq_eq_false_iff_ne.mpr c5; have c5b1 : (Yi != 0) = true := bne_iff_ne.mpr c5
    by_cases c6 : Xh.length < 17592186044416
    ·rw [if_pos c6] at H
     have LMc6 := az c6; clear c6
     obtain ⟨XsO, hy350⟩ : ∃ y_ : List Int, y_ = (Xh ++ [Yi]) := ⟨_, rfl⟩
     replace H : (if 0 ≤ (wrap64 (Yi - 1)) then (if (wrap64 (Yi - 1)) < (l0.length : Int) then (Ze.l0 k1 l0 XsO ((Xa l0 (wrap64 (Yi - 1))).f6)) else (none)) else (none)) = some r := by first | (rw [hy350]; with_reducible exact H) | (have H2_ := (Option.bind_some _ _).symm.trans H; rw [hy350]; with_reducible exact H2_) | (have H2_ := (Option.bind_some _ _).symm.trans H; with_reducible exact H2_) | with_reducible exact H | (rw [hy350]; exact H) | exact H
     have Ny350 := az hy350; clear hy350
     obtain ⟨ji7, hji7⟩ : ∃ j_ : Int, (wrap64 (Yi - 1)) = j_ := ⟨_, rfl⟩
     replace H : (if 0 ≤ (ji7) then (if (ji7) < (l0.length : Int) then (Ze.l0 k1 l0 XsO ((Xa l0 (ji7)).f6)) else (none)) else (none)) = some r := by first | (rw [hji7] at H; exact H) | (simp only [hji7] at H ⊢; exact H)
     have hji7w : (IntKind.i64.wrap (Yi - 1)) = ji7 := (Xz _).trans hji7
     by_cases c8 : 0 ≤ (ji7)
     ·rw [if_pos c8] at H
      have c8b0 : decide (0 ≤ (ji7)) = true := decide_eq_true c8; clear c8
      by_cases c9 : (ji7) < (l0.length : Int)
      ·rw [if_pos c9] at H
       have c9b0 : decide ((ji7) < (l0.length : Int)) = true := decide_eq_true c9; clear c9; have H' := az H; clear H
       go_wp2_with (first | ((with_reducible refine Z0 (b := .append) (xs := #[.tmp 18, .tmp 20]) rfl ?_); at_builtin; refine Kd.VV (Kd.int .i64) (w0 := w) w.heap.size rfl (.tmp 18) (.tmp 20) 37 3 (.int .i64 0) 8 rfl Tryz.underlying37 info3 rfl (by decide) (by omega) u5 Xh Yi [.int .i64 Yi] (fun _ => True) (fun _ => False) rfl rfl ?aP (fun _ hk => hk.elim) ?aF ?aO ?aB ?aS ?aL ?_; (case aP => exact rfl); (case aB => exact zb0); (case aF => exact zb89); (case aO => exact zb59); (case aS => exact (XA zb0)); (case aL => have := LMc6.out; omega); intro v351 w10 ho hb hg hat; rw [← Ny350.out] at ho; replace HB := az (hb); have Xvo := az (ho); clear HO_5; clear ho hb hg hat; have XsP : 0 ≤ ((ji7) : Int) := of_decide_eq_true zb3; have XsQ : (ji7) < (l0.length : Int) := of_decide_eq_true zb3; obtain ⟨ad353, e353, Xak, Xal, Xam, Xan, Xao, Xap, Xaq, Xar⟩ := Ym HR0.out (ji7) XsP XsQ; cases e353; replace Xak := (HB.out.cell (World.block_lt_of_cell? w _ Xak)).trans Xak; replace Xal := (HB.out.cell (World.block_lt_of_cell? w _ Xal)).trans Xal; replace Xam := (HB.out.cell (World.block_lt_of_cell? w _ Xam)).trans Xam; replace Xan := (HB.out.cell (World.block_lt_of_cell? w _ Xan)).trans Xan; replace Xao := (HB.out.cell (World.block_lt_of_cell? w _ Xao)).trans Xao; replace Xap := (HB.out.cell (World.block_lt_of_cell? w _ Xap)).trans Xap; replace Xaq := (HB.out.cell (World.block_lt_of_cell? w _ Xaq)).trans Xaq; replace Xar := (HB.out.cell (World.block_lt_of_cell? w _ Xar)).trans Xar; replace XsP := eq_true XsP; replace XsQ := eq_true XsQ))
       go_roundg k1
       case measure => have := HK1.out; omega
       case rel => exact ⟨(XsO), ((Xa l0 (ji7)).f6), (by first | rfl | (simp; done) | (simp only [← hji7] <;> (first | rfl | simp)) | (simp [*]; done)), H', ⟨zb33⟩, ⟨by (with_reducible repeat (first | apply Kd.Yp | apply Kd.Y0 | apply Kd.YC)); exact Xvo.out⟩, ⟨zb0⟩⟩
      ·rw [if_neg c9] at H
       exact absurd H (by simp)
     ·rw [if_neg c8] at H
      exact absurd H (by simp)
    ·rw [if_neg c6] at H
     exact absurd H (by simp)
end Go.Proofs.YtphnphmbfogmlaaGreat.Pr
