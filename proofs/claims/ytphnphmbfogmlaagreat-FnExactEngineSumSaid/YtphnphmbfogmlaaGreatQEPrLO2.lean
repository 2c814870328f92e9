import Derived.Test.YtphnphmbfogmlaaGreatQEByq
import Derived.Test.YtphnphmbfogmlaaGreatQEWMore
import Derived.Test.YtphnphmbfogmlaaGreatQEPrK
import Derived.Test.YtphnphmbfogmlaaGreatQESx
import Derived.Test.YtphnphmbfogmlaaGreatQEPrInts
import Derived.Test.YtphnphmbfogmlaaGreatQERec
import Derived.Test.YtphnphmbfogmlaaGreatQEPrLogA
import Derived.Test.YtphnphmbfogmlaaGreatQELogOk
import Derived.Test.YtphnphmbfogmlaaGreatQELast
import Derived.Test.YtphnphmbfogmlaaGreatQEOpen
import Derived.Test.YtphnphmbfogmlaaGreatQEPrLogB
namespace Go.Proofs.YtphnphmbfogmlaaGreat.T
open Go.RowKit Go.PW Go.Proofs.YtphnphmbfogmlaaGreat.Pr
set_option linter.unusedSimpArgs false
set_option linter.unusedVariables false
theorem XgO (l : List S76) (t : Int) (hl : l.length ≤ 9223372036854775807) : ∀ (i k : Nat), i ≤ l.length → i < k → Y2.l0 k l t ((i : Int) - 1) = some (lastB (l.take i) t)
 | 0, k + 1, _, _ => by
  rw [Y2.l0, if_neg (by omega)]
  rfl
 | i + 1, k + 1, hi, hk => by
  have e : ((i + 1 : Nat) : Int) - 1 = (i : Int) := by omega
  rw [e, Y2.l0, if_pos (by omega), if_pos (by omega), if_pos (by omega), Yc l i (by omega)]
  by_cases h1 : ((Xa l i).f1) = t
  ·rw [if_pos h1, if_pos h1]
   by_cases h4 : ((Xa l i).f0) = 4
   ·simp [h4]
   ·by_cases h5 : ((Xa l i).f0) = 5
    ·simp [h5]
    ·rw [if_neg h4, if_neg h5, if_neg (by omega), T.wrap_small (by omega) (by omega)]
  ·rw [if_neg h1, if_neg h1, T.wrap_small (by omega) (by omega)]
   exact XgO l t hl i k (by omega) (by omega)
theorem RS (l : List S76) (t : Int) (hl : l.length ≤ 9223372036854775807) (k : Nat) (hk : l.length < k) : Y2.f k l t = some (lastB l t) := by
 unfold Y2.f
 rw [T.wrap_small (by omega) (by omega), XgO l t hl l.length k (Nat.le_refl _) hk, List.take_length]
theorem XiN (n i : Nat) (h : i < n) : (List.range n).drop i = i :: (List.range n).drop (i + 1) := by
 rw [List.drop_eq_getElem_cons (by simpa using h)]
 simp
theorem Ca (l : List S76) (hl : l.length ≤ 9223372036854775807) : ∀ (d i k : Nat), i + d = l.length → 2 * d + l.length + 4 < k → Xy.l0 k l i = some (decide (l.length ≤ 150) && ((List.range l.length).drop i).all (JB l))
 | 0, i, k + 1, hi, _ => by
  rw [Xy.l0, if_neg (by omega), List.drop_of_length_le zb133]
  have : decide ((l.length : Int) ≤ 150) = decide (l.length ≤ 150) := by
   rw [decide_eq_decide]; omega
  simp [this]
 | d + 1, i, k + 2, hi, hk => by
  have hlt : i < l.length := by omega
  rw [XiN _ _ hlt, List.all_cons]; have ih := Ca l hl d (i + 1) k (by omega) (by omega)
  have hw : wrap64 ((i : Int) + 1) = ((i + 1 : Nat) : Int) := by rw [T.wrap_small (by omega) (by omega)]; omega
  have hjt : Xy.j1 (k + 1) l i true = some false := by rw [Xy.j1]; rfl
  obtain ⟨k1, rfl⟩ : ∃ j, k = j + 2 := ⟨k - 2, by omega⟩
  rw [Xy.l0, if_pos (by omega), if_pos (by omega), Cb _ _ _ _ _ _ _ _ (k1 + 1)]; simp only [Option.bind_some]
  by_cases hok : VQ ((Xa l i).f0) ((Xa l i).f1) ((Xa l i).f2) ((Xa l i).f3) ((Xa l i).f4) ((Xa l i).f5) ((Xa l i).f6) ((Xa l i).f7) = true
  ·have hnx := Xcf hok
   rw [if_pos hok, if_pos (by omega), RS _ _ zb133 _ zb133]; simp only [Option.bind_some, Int.toNat_natCast]
   by_cases hpv : ((Xa l i).f6) = lastB (l.take i) ((Xa l i).f1)
   ·rw [if_pos hpv]
    by_cases hni : ((Xa l i).f7) > (i : Int)
    ·have e : JB l i = false := by unfold JB; simp; omega
     rw [decide_eq_true hni, hjt, e]
     simp
    ·rw [decide_eq_false hni, Xy.j1]
     simp only [Bool.false_eq_true, if_false]; rw [if_pos (by omega), if_pos (by omega)]
     by_cases hn0 : ((Xa l i).f7) > 0
     ·rw [if_pos hn0, T.wrap_small (by omega) (by omega), if_pos (by omega), if_pos (by omega)]
      by_cases hsm : (Xa l (((Xa l i).f7) - 1)).f1 = ((Xa l i).f1)
      ·have e : JB l i = true := by unfold JB; rw [hok]; simp [← hpv, hsm]; omega
       rw [if_pos hsm, hw, ih, e]
       simp
      ·have e : JB l i = false := by unfold JB; simp [hsm]; omega
       rw [if_neg hsm, e]
       simp
     ·have e : JB l i = true := by unfold JB; rw [hok]; simp [← hpv]; omega
      rw [if_neg hn0, hw, ih, e]
      simp
   ·have e : JB l i = false := by unfold JB; simp [hpv]
    rw [if_neg hpv, hjt, e]
    simp
  ·have e : JB l i = false := by unfold JB; simp [hok]
   rw [if_neg hok, hjt, e]
   simp
theorem XeG (l : List S76) (hl : l.length ≤ 9223372036854775807) (k : Nat) (hk : 3 * l.length + 4 < k) : Xy.f k l = some (Za l) := by
 unfold Xy.f Za
 have h := Ca l hl l.length 0 k (by omega) (by omega)
 simpa using h
def cv (x : S78) : S76 := ⟨x.f0, x.f1, x.f2, x.f3, x.f4, x.f5, x.f6, x.f7⟩
theorem XgP (l : List S78) (hl : l.length ≤ 4398046511104) : ∀ (d i k : Nat), i + d = l.length → d < k → Zg.l0 k l ((l.take i).map cv ++ List.replicate d z76) i = some (l.map cv)
 | 0, i, k + 1, hi, _ => by
  rw [Zg.l0, if_neg (by omega), List.take_of_length_le (by omega)]
  simp
 | d + 1, i, k + 1, hi, hk => by
  have hlt : i < l.length := by omega
  rw [Zg.l0, if_pos (by omega), if_pos (by omega)]
  unfold MR.f
  simp only [Option.bind_some]; rw [if_pos zb133, T.wrap_small (by omega) (by omega)]
  have e : ((l.take i).map cv ++ List.replicate (d + 1) z76).set ((i : Int)).toNat (cv (ZV l i)) = (l.take (i + 1)).map cv ++ List.replicate d z76 := by
   rw [Int.toNat_natCast, List.set_append_right _ _ zb133, List.length_map, List.length_take, Nat.min_eq_left (by omega), Nat.sub_self, List.replicate_succ, List.set_cons_zero]
   have e1 : l.take (i + 1) = l.take i ++ [ZV l i] := by
    rw [List.take_add_one, List.getElem?_eq_getElem hlt]
    simp [ZV, List.getD_eq_getElem?_getD, List.getElem?_eq_getElem hlt]
   rw [e1, List.map_append]
   simp
  have e2 : (i : Int) + 1 = ((i + 1 : Nat) : Int) := by omega
  rw [e2]; refine (congrArg (fun z => Zg.l0 k l z ((i + 1 : Nat) : Int)) ?_).trans (XgP l hl d (i + 1) k (by omega) (by omega)); exact e
theorem XqU (l : List S78) (hl : l.length ≤ 4398046511104) (k : Nat) (hk : l.length < k) : Zg.f k l = some (l.map cv) := by
 unfold Zg.f
 rw [if_pos (by omega), if_pos (by omega), Int.toNat_natCast]; have h := XgP l hl l.length 0 k (by omega) hk
 simpa using h
theorem XgQ (l : List S76) (hl : l.length ≤ 9223372036854775807) : ∀ (d i k : Nat), i + d = l.length → d < k → XW.l0 k l l i = some true
 | 0, i, k + 1, hi, _ => by
  rw [XW.l0, if_neg (by omega)]
 | d + 1, i, k + 1, hi, hk => by
  rw [XW.l0, if_pos (by omega), if_pos (by omega), if_pos (by omega)]
  unfold Gm.f
  simp only [if_true, Option.bind_some]; rw [T.wrap_small (by omega) (by omega), show (i : Int) + 1 = ((i + 1 : Nat) : Int) by omega]; exact XgQ l hl d (i + 1) k (by omega) (by omega)
theorem XqV (l : List S76) (hl : l.length ≤ 9223372036854775807) (k : Nat) (hk : l.length < k) : XW.f k l l = some true := by
 unfold XW.f
 rw [if_pos rfl]; exact XgQ l hl l.length 0 k (by omega) hk
end Go.Proofs.YtphnphmbfogmlaaGreat.T
namespace Go.Proofs.YtphnphmbfogmlaaGreat.Pr
open Go.RowKit Go.PW Go.Proofs.YtphnphmbfogmlaaGreat.T
end Go.Proofs.YtphnphmbfogmlaaGreat.Pr
namespace Go.Proofs.YtphnphmbfogmlaaGreat.T
open Go.RowKit Go.PW Go.WideShapes Go.ChangeShapes Go.Deep Go.Proofs.YtphnphmbfogmlaaGreat.Pr
set_option linter.unusedVariables false
variable {P : Program}
def XwO (x : S78) : Prop := I64 x.f0 ∧ I64 x.f1 ∧ I64 x.f2 ∧ I64 x.f3 ∧ I64 x.f4 ∧ I64 x.f5 ∧ I64 x.f6 ∧ I64 x.f7
theorem Xpa {t : TypeId} {fs : Array Field} (ht : P.underlying t = some (.struct fs)) (hone : oneCellFields P fs = true) (hC : P.cellsOf t = fs.size) (hn : fs.size = 8) (hall : XnA P fs = true) :
 Wy P t k78 XwO := by
 intro H enc w base sp held fuel cs x h; obtain ⟨xs, hl, hcs, hg⟩ := Cc ht hone hC (XiP hall) h; rw [hn] at hl
 match xs, hl with
 | [a0, a1, a2, a3, a4, a5, a6, a7], _ =>
  refine ⟨⟨a0, a1, a2, a3, a4, a5, a6, a7⟩, ?_, ?_⟩
  ·subst hcs
   exact Xze w ⟨a0, a1, a2, a3, a4, a5, a6, a7⟩
  ·exact ⟨hg _ (by simp), hg _ (by simp), hg _ (by simp), hg _ (by simp), hg _ (by simp), hg _ (by simp), hg _ (by simp), hg _ (by simp)⟩
end Go.Proofs.YtphnphmbfogmlaaGreat.T
namespace Go.Proofs.YtphnphmbfogmlaaGreat.T
open Go.RowKit Go.PW Go.Proofs.YtphnphmbfogmlaaGreat.Pr
set_option linter.unusedSimpArgs false
set_option linter.unusedVariables false
theorem RX (t : Int) : ∀ l : List S76, 0 ≤ PK t l ∧ PK t l ≤ (l.length : Int)
 | [] => by simp [PK]
 | x :: r => by
  have ih := RX t r
  unfold PK
  split
  ·split <;> simp <;> omega
  ·simp
   omega
theorem MB (l : List S76) (t : Int) : 0 ≤ lastB l t := (RX t l.reverse).1
theorem Ff (l : List S76) (t : Int) : lastB l t ≤ (l.length : Int) := by
 have h := (RX t l.reverse).2; rw [List.length_reverse] at h; exact h
theorem Gb {l : List S76} (h : Za l = true) (i : Nat) (hi : i < l.length) : 0 ≤ (Xa l (i : Int)).f6 ∧ (Xa l (i : Int)).f6 ≤ (i : Int) := by
 unfold Za at h
 simp only [Bool.and_eq_true, List.all_eq_true] at h; have h2 := h.2 i (by simpa using hi)
 unfold JB at h2
 simp only [Bool.and_eq_true, beq_iff_eq] at h2; have e := h2.1.1.2; rw [e]; have b := Ff (l.take i) (Xa l (i : Int)).f1; rw [List.length_take] at b; exact ⟨MB _ _, by omega⟩
theorem ZY {l : List S76} (h : Za l = true) : l.length ≤ 150 := by
 unfold Za at h
 simp only [Bool.and_eq_true, decide_eq_true_eq] at h; exact h.1
def chainB (l : List S76) : Nat → Int → List Int
 | 0, _ => []
 | n + 1, x => if 0 < x then x :: chainB l n (Xa l (x - 1)).f6 else []
theorem Ta (l : List S76) : ∀ n x, (chainB l n x).length ≤ n
 | 0, _ => by simp [chainB]
 | n + 1, x => by
  have := Ta l n (Xa l (x - 1)).f6
  unfold chainB
  split <;> simp <;> omega
end Go.Proofs.YtphnphmbfogmlaaGreat.T
namespace Go.Proofs.YtphnphmbfogmlaaGreat.Pr
open Go.RowKit Go.PW Go.PL Go.PM
attribute [local go_sem] YO YP Zm Zn Yv Yw YQ YS
set_option linter.unusedVariables false
set_option linter.unusedSimpArgs false
def Zw.l0 : Nat → List (S76) → List Int → Int → Option (List Int)
 | 0, _, _, _ => none
 | k + 1, x0, x3, x4 => if x4 ≤ 3 then ((JE.f k x0 x4).bind fun Xa1 => (if Xa1 = 0 then (Zw.l0 k x0 x3 (wrap64 (x4 + 1))) else (if x3.length < 17592186044416 then (Zw.l0 k x0 (x3 ++ [x4]) (wrap64 (x4 + 1))) else (none)))) else (some x3)
def Zw.f (k : Nat) (l0 : List (S76)) : Option (List Int) := Zw.l0 k l0 ([] : List Int) 1
set_option maxHeartbeats 8000000 in
set_option maxRecDepth 100000 in
theorem Zw.calls (k : Nat) (A0 : Option Addr) (c0 : Nat) (l0 : List (S76)) (r : List Int) (w : World) (hr0 : Kd.C k76 w A0 l0.length l0) (hc0 : l0.length ≤ c0) (h : Zw.f k l0 = some r) :
 Calls Tryz.prog 59 #[.slice A0 l0.length c0] w fun e w' => ∃ v0_ : Value, e = .returned (v0_) ∧ Kd.R (Kd.int .i64) 3 w' w.heap.size (fun _ => True) v0_ r ∧ Below w.heap.size w w' := by
 have HR0 := az hr0; have HC0 := az hc0; clear hr0 hc0; have HB := az (Below.refl w.heap.size w); have H : (Zw.l0 k l0 ([] : List Int) 1) = some r := h; clear h; have H' := az H; clear H
 go_enter Tryz.func59, Tryz.ntmps59
 go_wp2
 go_loopg [3, 4] k (fun kq v3 v4 w' => ∃ (Xt : List Int) (XG : Int), v4 = .int .i64 XG ∧ Aside0 (Zw.l0 kq l0 Xt XG = some r) ∧ Aside0 (kq ≤ k) ∧ Aside0 (Kd.R (Kd.int .i64) 3 w' w.heap.size (fun _ => True) v3 Xt) ∧ Aside0 (Below w.heap.size w w'))
 case atStart => exact ⟨(([] : List Int)), (1), zb6, H', ⟨Nat.le_refl _⟩, ⟨zb54⟩, ⟨zb1⟩⟩
 case round =>
  clear H'; obtain ⟨Xt, XG, rfl, HA, HK1, HO_3, HB⟩ := hrel
  cases gk with
  | zero => exact absurd HA.out (by simp [Zw.l0])
  | succ k1 =>
   have H := HA.out; clear HA; simp only [Zw.l0] at H
   by_cases c2 : XG ≤ 3
   ·rw [if_pos c2] at H
    have c2b0 : decide (XG ≤ 3) = true := decide_eq_true c2; clear c2; replace H := Option.bind_eq_some_iff.mp H; obtain ⟨Xa1, A30, H⟩ := H; replace H : (if Xa1 = 0 then (Zw.l0 k1 l0 Xt (wrap64 (XG + 1))) else (if Xt.length < 17592186044416 then (Zw.l0 k1 l0 (Xt ++ [XG]) (wrap64 (XG + 1))) else (none))) = some r := H; have A3 := az A30; clear A30
    by_cases c4 : Xa1 = 0
    ·rw [if_pos c4] at H
     have c4b0 : (Xa1 == 0) = true := beq_iff_eq.mpr c4; have c4b1 : (Xa1 != 0) = false := bne_eq_false_iff_eq.mpr c4; clear c4; have H' := az H; clear H
     go_wp2_with (first | ((with_reducible refine Xi (f := 89) rfl ?_); refine XI (some 11) rfl rfl Tryz.func89 zb9 rfl #[.slice A0 l0.length c0, .int .i64 XG] rfl zb2 ?_; (with_reducible refine (JE.calls k1 _ _ l0 XG Xa1 _ ?side1 ?side2 A3.out).mono ?_); (case side1 => exact zb15); (case side2 => exact HC0.out); rintro e w5 ⟨rfl, hb⟩; refine ⟨_, rfl, ?_⟩; replace HO_3 := az (Kd.X3 zb21 hb); replace HB := az (Xc zb1 hb); (try clear hb); (try clear hb2); (try clear hk); (try clear hi)))
     go_roundg k1
     case measure => have := HK1.out; omega
     case rel => exact ⟨(Xt), (wrap64 (XG + 1)), zb6, H', ⟨zb37⟩, ⟨zb21⟩, ⟨zb1⟩⟩
    ·rw [if_neg c4] at H
     have c4b0 : (Xa1 == 0) = false := beq_eq_false_iff_ne.mpr c4; have c4b1 : (Xa1 != 0) = true := bne_iff_ne.mpr c4
     by_cases c6 : Xt.length < 17592186044416
     ·rw [if_pos c6] at H
      have LMc6 := az c6; clear c6
      obtain ⟨y343, hy343⟩ : ∃ y_ : List Int, y_ = (Xt ++ [XG]) := ⟨_, rfl⟩
      replace H : (Zw.l0 k1 l0 y343 (wrap64 (XG + 1))) = some r := by first | (rw [hy343]; with_reducible exact H) | (have H2_ := (Option.bind_some _ _).symm.trans H; rw [hy343]; with_reducible exact H2_) | (have H2_ := (Option.bind_some _ _).symm.trans H; with_reducible exact H2_) | with_reducible exact H | (rw [hy343]; exact H) | exact H
      have Ny343 := az hy343; clear hy343; have H' := az H; clear H
      go_wp2_with (first | ((with_reducible refine Xi (f := 89) rfl ?_); refine XI (some 11) rfl rfl Tryz.func89 zb9 rfl #[.slice A0 l0.length c0, .int .i64 XG] rfl zb2 ?_; (with_reducible refine (JE.calls k1 _ _ l0 XG Xa1 _ ?side1 ?side2 A3.out).mono ?_); (case side1 => exact zb15); (case side2 => exact HC0.out); rintro e w7 ⟨rfl, hb⟩; refine ⟨_, rfl, ?_⟩; replace HO_3 := az (Kd.X3 zb21 hb); replace HB := az (Xc zb1 hb); (try clear hb); (try clear hb2); (try clear hk); (try clear hi)) | ((with_reducible refine JV (b := .append) (xs := #[.tmp 13, .tmp 15]) rfl ?_); at_builtin; refine Kd.Sv (Kd.int .i64) (w0 := w) w.heap.size rfl (.tmp 13) (.tmp 15) 37 3 (.int .i64 0) 8 rfl Tryz.underlying37 info3 rfl (by decide) (by omega) u3 Xt XG [.int .i64 XG] (fun _ => True) (fun _ => False) rfl rfl ?aP (fun _ hk => hk.elim) ?aF ?aO ?aB ?aS ?aL ?_; (case aP => exact rfl); (case aB => exact zb1); (case aF => exact (fun _ _ => trivial)); (case aO => exact zb21); (case aS => exact (Xv zb1)); (case aL => have := LMc6.out; omega); intro v344 w8 ho hb hg hat; rw [← Ny343.out] at ho; replace HB := az (hb); have X0m := az (ho); clear HO_3; clear ho hb hg hat))
      go_roundg k1
      case measure => have := HK1.out; omega
      case rel => exact ⟨(y343), (wrap64 (XG + 1)), zb6, H', ⟨zb37⟩, ⟨by (with_reducible repeat (first | apply Kd.XU | apply Kd.XX | apply Kd.Yj)); exact X0m.out⟩, ⟨zb1⟩⟩
     ·rw [if_neg c6] at H
      exact absurd H (by simp)
   ·rw [if_neg c2] at H
    have c2b0 : decide (XG ≤ 3) = false := decide_eq_false c2; clear c2; obtain rfl := Option.some.inj H
    go_wp2
    go_ret
    exact ⟨_, zb4, zb21, zb1⟩
end Go.Proofs.YtphnphmbfogmlaaGreat.Pr
