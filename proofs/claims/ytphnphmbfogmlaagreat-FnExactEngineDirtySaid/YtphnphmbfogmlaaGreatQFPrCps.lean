import Derived.Test.YtphnphmbfogmlaaGreatQFByq
import Derived.Test.YtphnphmbfogmlaaGreatQFPrK
import Derived.Test.YtphnphmbfogmlaaGreatQFSx
import Derived.Test.YtphnphmbfogmlaaGreatQFPrInts
import Derived.Test.YtphnphmbfogmlaaGreatQFPrM
import Derived.Test.YtphnphmbfogmlaaGreatQFPage2
import Derived.Test.YtphnphmbfogmlaaGreatQFWith
namespace Go.Proofs.YtphnphmbfogmlaaGreat.Pr
open Go.RowKit Go.PW Go.Proofs.YtphnphmbfogmlaaGreat.T
set_option linter.unusedSimpArgs false
set_option linter.unusedVariables false
theorem KA {α : Type} {g : Nat → Option α} (m : ∀ k, LeO (g k) (g (k + 1))) {k : Nat} {r : α} (h : g k = some r) : ∀ d, g (k + d) = some r
 | 0 => h
 | d + 1 => m (k + d) r (KA m h d)
theorem EA {α : Type} {g : Nat → Option α} (m : ∀ k, LeO (g k) (g (k + 1))) {k k' : Nat} {r r' : α} (h : g k = some r) (h' : g k' = some r') : r = r' := by
 have e1 := KA m h k'; have e2 := KA m h' k; rw [Nat.add_comm] at e2; rw [e1] at e2; exact Option.some.inj e2
theorem MG (n lo hi : Int) : Zu.f n lo hi = some (inB n lo hi) := by
 unfold Zu.f inB
 by_cases h : lo ≤ n
 ·rw [if_pos h]
  simp [h]
 ·rw [if_neg h]
  simp [h]
theorem XjN {l : List Int} {i : Nat} (h : i < l.length) : l.drop i = rd l i :: l.drop (i + 1) := by
 rw [List.drop_eq_getElem_cons h]
 simp [rd, List.getD_eq_getElem?_getD, List.getElem?_eq_getElem h]
theorem SY (a b : Int) (l : List Int) (hl : l.length ≤ 9223372036854775807) : ∀ (d k i : Nat), i + d = l.length → d < k → XC.l0 k i a b l = some (!(l.drop i).any (Dv b))
 | 0, k + 1, i, hi, _ => by
  unfold XC.l0
  rw [if_neg (by omega), List.drop_of_length_le (by omega)]
  rfl
 | d + 1, k + 1, i, hi, hk => by
  unfold XC.l0
  rw [if_pos (by omega), if_pos (by omega), T.wrap_small (by omega) (by omega), MG]; have e := XjN (l := l) (i := i) (by omega); have ih := SY a b l hl d k (i + 1) (by omega) (by omega); rw [show (i : Int) + 1 = ((i + 1 : Nat) : Int) by omega, ih, e]; simp only [Option.bind_some, List.any_cons, Dv]
  by_cases h1 : inB (rd l i) 0 9 = true
  ·by_cases hb : b = 0
   ·by_cases hz : rd l i = 0
    ·simp [h1, hb, hz, inB]
    ·simp [h1, hb, hz, inB]
   ·simp [h1, hb]
  ·simp [h1]
theorem Dh (a b : Int) (l : List Int) (hl : l.length ≤ 9223372036854775807) (k : Nat) (hk : l.length + 1 < k) : XC.f k a b l = some (Zr a b l) := by
 obtain ⟨k, rfl⟩ : ∃ j, k = j + 1 := ⟨k - 1, by omega⟩
 unfold XC.f
 rw [MG, MG, VW]; have h := SY a b l hl l.length k 0 (by omega) (by omega)
 have h3 : ((l.length : Int) != 3) = !(l.length == 3) := by
  rw [Bool.eq_iff_iff]; simp only [bne_iff_ne, Bool.not_eq_true', beq_eq_false_iff_ne, ne_eq]; omega
 rw [h3]; simp only [Option.bind_some, XC.j0]
 cases inB a 0 150 <;> cases inB b 0 3 <;> cases l.length == 3 <;> simp
 simpa using h
theorem XC.calls (k : Nat) (Xu : Int) (Xy : Int) (Yg : Option Addr) (Yh : Nat) (Xm : List Int) (r : Bool) (w : World) (hr0_2 : Kd.C (Kd.int .i64) w Yg Xm.length Xm) (hc0_2 : Xm.length ≤ Yh) (h : XC.f k Xu Xy Xm = some r) :
 Calls Tryz.prog 70 #[.agg #[.int .i64 Xu, .int .i64 Xy, .slice Yg Xm.length Yh]] w fun e w' => e = .returned (.bool r) ∧ Below w.heap.size w w' := by
 obtain rfl : r = Zr Xu Xy Xm := EA (XC.mono _ _ _) h (Dh _ _ _ hr0_2.2.1 (Xm.length + 2) (by omega)); exact KJ _ _ _ _ _ _ hr0_2 hc0_2
theorem Wd (a b : Int) (l : List Int) (hl : l.length ≤ 9223372036854775807) : ∀ (d k i : Nat), i + d = l.length → d < k → XV.l0 k i a b l = some (!(l.drop i).any (Dv b))
 | 0, k + 1, i, hi, _ => by
  unfold XV.l0
  rw [if_neg (by omega), List.drop_of_length_le (by omega)]
  rfl
 | d + 1, k + 1, i, hi, hk => by
  unfold XV.l0
  rw [if_pos (by omega), if_pos (by omega), T.wrap_small (by omega) (by omega), MG]; have e := XjN (l := l) (i := i) (by omega); have ih := Wd a b l hl d k (i + 1) (by omega) (by omega); rw [show (i : Int) + 1 = ((i + 1 : Nat) : Int) by omega, ih, e]; simp only [Option.bind_some, List.any_cons, Dv]
  by_cases h1 : inB (rd l i) 0 9 = true
  ·by_cases hb : b = 0
   ·by_cases hz : rd l i = 0
    ·simp [h1, hb, hz, inB]
    ·simp [h1, hb, hz, inB]
   ·simp [h1, hb]
  ·simp [h1]
theorem SS (a b : Int) (l : List Int) (hl : l.length ≤ 9223372036854775807) (k : Nat) (hk : l.length + 1 < k) : XV.f k a b l = some (Zr a b l) := by
 obtain ⟨k, rfl⟩ : ∃ j, k = j + 1 := ⟨k - 1, by omega⟩
 unfold XV.f
 rw [MG, MG, VW]; have h := Wd a b l hl l.length k 0 (by omega) (by omega)
 have h3 : ((l.length : Int) != 3) = !(l.length == 3) := by
  rw [Bool.eq_iff_iff]; simp only [bne_iff_ne, Bool.not_eq_true', beq_eq_false_iff_ne, ne_eq]; omega
 rw [h3]; simp only [Option.bind_some, XV.j0]
 cases inB a 0 150 <;> cases inB b 0 3 <;> cases l.length == 3 <;> simp
 simpa using h
theorem XV.calls (k : Nat) (Xu : Int) (Xy : Int) (Yg : Option Addr) (Yh : Nat) (Xm : List Int) (r : Bool) (w : World) (hr0_2 : Kd.C (Kd.int .i64) w Yg Xm.length Xm) (hc0_2 : Xm.length ≤ Yh) (h : XV.f k Xu Xy Xm = some r) :
 Calls Tryz.prog 79 #[.agg #[.int .i64 Xu, .int .i64 Xy, .slice Yg Xm.length Yh]] w fun e w' => e = .returned (.bool r) ∧ Below w.heap.size w w' := by
 obtain rfl : r = Zr Xu Xy Xm := EA (XV.mono _ _ _) h (SS _ _ _ hr0_2.2.1 (Xm.length + 2) (by omega)); exact Mo _ _ _ _ _ _ hr0_2 hc0_2
theorem Xuw (k tx p s o n pv nx : Int) (j : Nat) : Zi.f (j + 1) k tx p s o n pv nx = some (Tt p s o n) := by
 unfold Zi.f Tt
 simp only [MG, Option.bind_some, Zi.j0]
 cases h1 : inB p 0 4 <;> cases h2 : inB s (-1) 2 <;> simp
 by_cases hs : s < 0
 ·simp only [hs, if_true]
  cases inB o 0 3 <;> simp
 ·simp only [hs, if_false]
  cases inB o 0 9 <;> simp
theorem PX (k tx p s o n pv nx : Int) (j : Nat) : YV.f (j + 2) k tx p s o n pv nx = some (V6 k tx p s o n pv nx) := by
 unfold YV.f
 rw [KI]; simp only [MG, Option.bind_some, YV.j0, Xuw]
 cases h1 : inB tx 1 3 <;> cases h2 : inB pv 0 150 <;> cases h3 : inB nx 0 150 <;> simp
 repeat' split
 all_goals try simp_all
 all_goals (try (intros; omega))
theorem YV.calls (k : Nat) (Xu : Int) (Xy : Int) (ZM : Int) (Yu : Int) (Yt : Int) (Jk : Int) (ZU : Int) (Js : Int) (r : Bool) (w : World) (h : YV.f k Xu Xy ZM Yu Yt Jk ZU Js = some r) :
 Calls Tryz.prog 71 #[.agg #[.int .i64 Xu, .int .i64 Xy, .int .i64 ZM, .int .i64 Yu, .int .i64 Yt, .int .i64 Jk, .int .i64 ZU, .int .i64 Js]] w fun e w' => e = .returned (.bool r) ∧ Below w.heap.size w w' := by
 obtain rfl : r = V6 Xu Xy ZM Yu Yt Jk ZU Js := EA (YV.mono _ _ _ _ _ _ _ _) h (PX _ _ _ _ _ _ _ _ 0); exact TJ _ _ _ _ _ _ _ _ _
end Go.Proofs.YtphnphmbfogmlaaGreat.Pr
namespace Go.Proofs.YtphnphmbfogmlaaGreat.Pr
open Go.RowKit Go.PW Go.PL Go.PM
attribute [local go_sem] Y3 Y4 YN YO Ya Yb Y5 Y6
set_option linter.unusedVariables false
set_option linter.unusedSimpArgs false
def Yj.l0 : Nat → List (S56) → Int → Option (Bool)
 | 0, _, _ => none
 | k + 1, x0, x3 => if x3 < (x0.length : Int) then (if 0 ≤ x3 then ((XC.f k ((Xb x0 x3).f0) ((Xb x0 x3).f1) ((Xb x0 x3).f2)).bind fun XnP => (if XnP = true then (Yj.l0 k x0 (wrap64 (x3 + 1))) else (some false))) else (none)) else (some ((x0.length : Int) == 5))
def Yj.f (k : Nat) (l0 : List (S56)) : Option (Bool) := Yj.l0 k l0 0
set_option maxHeartbeats 8000000 in
set_option maxRecDepth 100000 in
theorem Yj.calls (k : Nat) (A0 : Option Addr) (c0 : Nat) (l0 : List (S56)) (r : Bool) (w : World) (hr0 : Kd.C k56 w A0 l0.length l0) (hc0 : l0.length ≤ c0) (h : Yj.f k l0 = some r) :
 Calls Tryz.prog 42 #[.slice A0 l0.length c0] w fun e w' => e = .returned (.bool r) ∧ Below w.heap.size w w' := by
 have hu56 := Tryz.underlying56; have HR0 := az hr0; have HC0 := az hc0; clear hr0 hc0; have HB := az (Below.refl w.heap.size w); have H : (Yj.l0 k l0 0) = some r := h; clear h; have H' := az H; clear H
 go_enter Tryz.func42, Tryz.ntmps42
 go_wp2
 go_loopg [3] k (fun kq v3 w' => ∃ (Xl : Int), v3 = .int .i64 Xl ∧ Aside0 (Yj.l0 kq l0 Xl = some r) ∧ Aside0 (kq ≤ k) ∧ Aside0 (Below w.heap.size w w'))
 case atStart => exact ⟨(0), zb5, H', ⟨Nat.le_refl _⟩, ⟨zb0⟩⟩
 case round =>
  clear H'; obtain ⟨Xl, rfl, HA, HK1, HB⟩ := hrel
  cases gk with
  | zero => exact absurd HA.out (by simp [Yj.l0])
  | succ k1 =>
   have H := HA.out; clear HA; simp only [Yj.l0] at H
   by_cases c2 : Xl < (l0.length : Int)
   ·rw [if_pos c2] at H
    have c2b0 : decide (Xl < (l0.length : Int)) = true := decide_eq_true c2; clear c2
    by_cases c3 : 0 ≤ Xl
    ·rw [if_pos c3] at H
     have c3b0 : decide (0 ≤ Xl) = true := decide_eq_true c3; clear c3; replace H := Option.bind_eq_some_iff.mp H; obtain ⟨XnP, A40, H⟩ := H; replace H : (if XnP = true then (Yj.l0 k1 l0 (wrap64 (Xl + 1))) else (some false)) = some r := H; have A4 := az A40; clear A40
     by_cases c5 : XnP = true
     ·subst c5
      have H1 : (Yj.l0 k1 l0 (wrap64 (Xl + 1))) = some r := by rw [if_pos rfl] at H; exact H
      clear H; have H := H1; clear H1; have H' := az H; clear H; have Xec : 0 ≤ (Xl : Int) := of_decide_eq_true zb3; have Xed : Xl < (l0.length : Int) := of_decide_eq_true zb3; obtain ⟨Xvj, Xee, Xef, XsD, Mv, Mw, Mx, hl162_2, hi162_2⟩ := Zl HR0.out Xl Xec Xed
      cases XsD
      replace Mv := (HB.out.cell (World.block_lt_of_cell? w _ Mv)).trans Mv; replace Mw := (HB.out.cell (World.block_lt_of_cell? w _ Mw)).trans Mw; replace Mx := (HB.out.cell (World.block_lt_of_cell? w _ Mx)).trans Mx; have XfY := az hi162_2; have Xab := az hl162_2; clear hi162_2 hl162_2; replace Xec := eq_true Xec; replace Xed := eq_true Xed
      go_wp2_with (first | ((with_reducible refine Xo (f := 70) rfl ?_); refine Yx (some 14) rfl rfl Tryz.func70 zb6 rfl #[.agg #[.int .i64 ((Xb l0 Xl).f0), .int .i64 ((Xb l0 Xl).f1), .slice Xee ((Xb l0 Xl).f2).length Xef]] rfl zb2 ?_; (with_reducible refine (XC.calls k1 ((Xb l0 Xl).f0) ((Xb l0 Xl).f1) _ _ ((Xb l0 Xl).f2) true _ ?side1 ?side2 A4.out).mono ?_); (case side1 => exact zb76); (case side2 => exact Xab.out); rintro e w6 ⟨rfl, hb⟩; refine ⟨_, rfl, ?_⟩; replace HB := az (Xc zb0 hb); (try clear hb); (try clear hb2); (try clear hk); (try clear hi)))
      go_roundg k1
      case measure => have := HK1.out; omega
      case rel => exact ⟨(wrap64 (Xl + 1)), zb5, H', ⟨zb33⟩, ⟨zb0⟩⟩
     ·replace c5 := Bool.eq_false_iff.mpr c5
      subst c5
      have H1 : (some false) = some r := by rw [if_neg (show ¬ (false = true) by decide)] at H; exact H
      clear H; have H := H1; clear H1; obtain rfl := Option.some.inj H; have Xec : 0 ≤ (Xl : Int) := of_decide_eq_true zb3; have Xed : Xl < (l0.length : Int) := of_decide_eq_true zb3; obtain ⟨Xvj, Xee, Xef, XsD, Mv, Mw, Mx, hl162_2, hi162_2⟩ := Zl HR0.out Xl Xec Xed
      cases XsD
      replace Mv := (HB.out.cell (World.block_lt_of_cell? w _ Mv)).trans Mv; replace Mw := (HB.out.cell (World.block_lt_of_cell? w _ Mw)).trans Mw; replace Mx := (HB.out.cell (World.block_lt_of_cell? w _ Mx)).trans Mx; have XfY := az hi162_2; have Xab := az hl162_2; clear hi162_2 hl162_2; replace Xec := eq_true Xec; replace Xed := eq_true Xed
      go_wp2_with (first | ((with_reducible refine Xo (f := 70) rfl ?_); refine Yx (some 14) rfl rfl Tryz.func70 zb6 rfl #[.agg #[.int .i64 ((Xb l0 Xl).f0), .int .i64 ((Xb l0 Xl).f1), .slice Xee ((Xb l0 Xl).f2).length Xef]] rfl zb2 ?_; (with_reducible refine (XC.calls k1 ((Xb l0 Xl).f0) ((Xb l0 Xl).f1) _ _ ((Xb l0 Xl).f2) false _ ?side1 ?side2 A4.out).mono ?_); (case side1 => exact zb76); (case side2 => exact Xab.out); rintro e w7 ⟨rfl, hb⟩; refine ⟨_, rfl, ?_⟩; replace HB := az (Xc zb0 hb); (try clear hb); (try clear hb2); (try clear hk); (try clear hi)))
      go_ret
      exact ⟨zb4, zb0⟩
    ·rw [if_neg c3] at H
     exact absurd H (by simp)
   ·rw [if_neg c2] at H
    have c2b0 : decide (Xl < (l0.length : Int)) = false := decide_eq_false c2; clear c2; obtain rfl := Option.some.inj H
    go_wp2
    go_ret
    exact ⟨zb4, zb0⟩
end Go.Proofs.YtphnphmbfogmlaaGreat.Pr
namespace Go.Proofs.YtphnphmbfogmlaaGreat.Pr
open Go.RowKit Go.PW Go.PL Go.PM
attribute [local go_sem] Y3 Y4 YN YO Ya Yb Y5 Y6
set_option linter.unusedVariables false
set_option linter.unusedSimpArgs false
def Zm.l0 : Nat → List (S56) → List (S56) → Int → Int → Option ((List (S56)))
 | 0, _, _, _, _ => none
 | k + 1, x3, x6, x7, x8 => if x8 < x7 then (if 0 ≤ x8 then (if x8 < (x6.length : Int) then ((Yf.f ((Xb x6 x8).f0) ((Xb x6 x8).f1) ((Xb x6 x8).f2)).bind fun XlG => (if x3.length < 3518437208883 then (Zm.l0 k (x3 ++ [(⟨XlG.1, XlG.2.1, XlG.2.2⟩ : S56)]) x6 x7 (wrap64 (x8 + 1))) else (none))) else (none)) else (none)) else (some x3)
def Zm.f (k : Nat) (l0 : List (S56)) : Option ((List (S56))) := Zm.l0 k ([] : List (S56)) l0 (l0.length : Int) 0
set_option maxHeartbeats 8000000 in
set_option maxRecDepth 100000 in
theorem Zm.calls (k : Nat) (A0 : Option Addr) (c0 : Nat) (l0 : List (S56)) (r : List (S56)) (w : World) (hr0 : Kd.C k56 w A0 l0.length l0) (hc0 : l0.length ≤ c0) (h : Zm.f k l0 = some r) :
 Calls Tryz.prog 67 #[.slice A0 l0.length c0] w fun e w' => ∃ v0_ : Value, e = .returned (v0_) ∧ Kd.S k56 56 w' w.heap.size (fun _ => True) v0_ r ∧ Below w.heap.size w w' := by
 have hu56 := Tryz.underlying56; have HR0 := az hr0; have HC0 := az hc0; clear hr0 hc0; have HB := az (Below.refl w.heap.size w); have H : (Zm.l0 k ([] : List (S56)) l0 (l0.length : Int) 0) = some r := h; clear h; have H' := az H; clear H
 go_enter Tryz.func67, Tryz.ntmps67
 go_wp2
 go_loopg [3, 8] k (fun kq v3 v8 w' => ∃ (Xl : List (S56)) (Jl : Int), v8 = .int .i64 Jl ∧ Aside0 (Zm.l0 kq Xl l0 (l0.length : Int) Jl = some r) ∧ Aside0 (kq ≤ k) ∧ Aside0 (Kd.S k56 56 w' w.heap.size (fun _ => True) v3 Xl) ∧ Aside0 (Below w.heap.size w w'))
 case atStart => exact ⟨(([] : List (S56))), (0), zb5, H', ⟨Nat.le_refl _⟩, ⟨by first | exact Kd.Xmy _ _ _ _ _ | exact Kd.Xsp _ _ _ _ _ | exact Kd.Xsq _ _ _ _ _ | exact Kd.Xsr _ _ _ _ _ | exact Kd.PG _ _ _ _ _⟩, ⟨zb0⟩⟩
 case round =>
  clear H'; obtain ⟨Xl, Jl, rfl, HA, HK1, HO_3, HB⟩ := hrel
  cases gk with
  | zero => exact absurd HA.out (by simp [Zm.l0])
  | succ k1 =>
   have H := HA.out; clear HA; simp only [Zm.l0] at H
   by_cases c2 : Jl < (l0.length : Int)
   ·rw [if_pos c2] at H
    have c2b0 : decide (Jl < (l0.length : Int)) = true := decide_eq_true c2; clear c2
    by_cases c3 : 0 ≤ Jl
    ·rw [if_pos c3] at H
     have c3b0 : decide (0 ≤ Jl) = true := decide_eq_true c3; clear c3
     by_cases c4 : Jl < (l0.length : Int)
     ·rw [if_pos c4] at H
      have c4b0 : decide (Jl < (l0.length : Int)) = true := decide_eq_true c4; clear c4; replace H := Option.bind_eq_some_iff.mp H; obtain ⟨⟨Xkh, Xki, XdX⟩, A50, H⟩ := H; replace H : (if Xl.length < 3518437208883 then (Zm.l0 k1 (Xl ++ [(⟨Xkh, Xki, XdX⟩ : S56)]) l0 (l0.length : Int) (wrap64 (Jl + 1))) else (none)) = some r := H; have A5 := az A50; clear A50
      by_cases c6 : Xl.length < 3518437208883
      ·rw [if_pos c6] at H
       have LMc6 := az c6; clear c6
       obtain ⟨y382, hy382⟩ : ∃ y_ : List (S56), y_ = (Xl ++ [(⟨Xkh, Xki, XdX⟩ : S56)]) := ⟨_, rfl⟩
       replace H : (Zm.l0 k1 y382 l0 (l0.length : Int) (wrap64 (Jl + 1))) = some r := by first | (rw [hy382]; with_reducible exact H) | (have H2_ := (Option.bind_some _ _).symm.trans H; rw [hy382]; with_reducible exact H2_) | (have H2_ := (Option.bind_some _ _).symm.trans H; with_reducible exact H2_) | with_reducible exact H | (rw [hy382]; exact H) | exact H
       have Ny382 := az hy382; clear hy382; have H' := az H; clear H; have Xs3 : 0 ≤ (Jl : Int) := of_decide_eq_true zb3; have Xs4 : Jl < (l0.length : Int) := of_decide_eq_true zb3; obtain ⟨ad375, Cg, Ch, e375, QW, QX, QY, hl375_2, hi375_2⟩ := Zl HR0.out Jl Xs3 Xs4
       cases e375
       replace QW := (HB.out.cell (World.block_lt_of_cell? w _ QW)).trans QW; replace QX := (HB.out.cell (World.block_lt_of_cell? w _ QX)).trans QX; replace QY := (HB.out.cell (World.block_lt_of_cell? w _ QY)).trans QY; have XnJ := az hi375_2; have XnK := az hl375_2; clear hi375_2 hl375_2; replace Xs3 := eq_true Xs3; replace Xs4 := eq_true Xs4
       go_wp2_with (first | ((with_reducible refine Xp (N := 5) rfl ?_); refine Xn ?hg (N := 5) ?hd (cs := #[.int .i64 0, .int .i64 0, .slice none 0 0]) (t := 56) ?hr ?_; (case hd => rfl); (case hg => rfl); (case hr => exact zb7); intro MK hg w7 hbox hb; replace HO_3 := az (Kd.ZO (Kd.EK zb37 MK (Nat.le_of_eq hg.symm)) hb); have MZ := az (hbox); have Xvf := az ((zb95 : w.heap.size ≤ MK)); have GE376 := Xvf; replace HB := az (Xc zb0 hb); clear hb hbox hg; obtain ⟨Ci, Cj, Ck⟩ := cz3 MZ; have Cm := Xe MZ.out 0; have Cn := Xe MZ.out 1; have Co := Xe MZ.out 2) | ((with_reducible refine Xo (f := 96) rfl ?_); refine Yx (some 14) rfl rfl Tryz.func96 zb6 rfl #[.agg #[.int .i64 ((Xb l0 Jl).f0), .int .i64 ((Xb l0 Jl).f1), .slice Cg ((Xb l0 Jl).f2).length Ch]] rfl zb2 ?_; (with_reducible refine (Yf.calls ((Xb l0 Jl).f0) ((Xb l0 Jl).f1) _ _ ((Xb l0 Jl).f2) Xkh Xki XdX _ ?side1 ?side2 A5.out).mono ?_); (case side1 => exact Kd.Xg XnJ.out zb1); (case side2 => exact XnK.out); rintro e w9 ⟨v380, rfl, ho0, hb⟩; refine ⟨_, rfl, ?_⟩; replace HO_3 := az (Kd.NR (by (with_reducible repeat (first | apply Kd.J7 | apply Kd.JK | apply Kd.JO)); exact (Kd.J3 (Kd.J8 (p := ⟨MK, 2, none⟩) (Kd.J8 (p := ⟨MK, 1, none⟩) (Kd.J8 (p := ⟨MK, 0, none⟩) (Kd.J3 HO_3.out (fun k_ hk => (⟨hk, hk.2⟩ : _ ∧ k_ ≠ MK))) (fun _ hk => hk.2) (.int .i64 ((Xb l0 Jl).f0))) (fun _ hk => hk.2) (.int .i64 ((Xb l0 Jl).f1))) (fun _ hk => hk.2) (.slice Cg ((Xb l0 Jl).f2).length Ch)) (fun _ h_ => h_.1))) (Kd.FX ho0) hb); have Xg1 := az (Kd.YY ho0 (XA zb1)); replace MZ := az (Xk (g := MK) (o := .cells #[.int .i64 ((Xb l0 Jl).f0), .int .i64 ((Xb l0 Jl).f1), .slice Cg ((Xb l0 Jl).f2).length Ch] 56 (0, 0)) (by (with_reducible repeat (first | apply bn | apply bd | apply ba)); exact p3 MZ) hb); replace HB := az (Xc zb1 hb); (try clear hb); (try clear hb2); (try clear hk); (try clear hi); (try clear ho0); obtain ⟨Ao11, co11, eo11⟩ := Kd.Y2 Xg1.out; subst eo11) | ((with_reducible refine Z0 (b := .append) (xs := #[.tmp 12, .tmp 15]) rfl ?_); at_builtin; refine Kd.Xdw k56 (w0 := w) w.heap.size rfl (.tmp 12) (.tmp 15) 28 56 (.agg #[(.int .i64 0), (.int .i64 0), (.slice none 0 0)]) 40 rfl Tryz.underlying28 Xf5 rfl (by decide) (by omega) u3 Xl (⟨Xkh, Xki, XdX⟩ : S56) [.int .i64 Xkh, .int .i64 Xki, .slice Ao11 XdX.length co11] (fun k_ => k_ ≠ MK) (fun k_ => some k_ = (.slice Ao11 XdX.length co11 : Value).ownBlock) rfl rfl ?aP (fun k_ hk_ => ((Kd.XZ (ok' := fun k_ => ((fun k_ => k_ ≠ MK)) k_ ∧ some k_ ≠ (u3 : Value).ownBlock) (Kd.ZY (Kd.FU (Xg1.out) (Kd.UM HO_3.out) (by decide)) MZ.out (by decide)) (fun k_ hk => ⟨hk.2, hk.1.2⟩))).1 k_ hk_.symm) ?aF ?aO ?aB ?aS ?aL ?_; (case aP => exact Ul _ _ _ (⟨Xkh, Xki, XdX⟩ : S56) (Kd.XZ (Kd.PY rfl (Kd.XZ (ok' := fun k_ => ((fun k_ => k_ ≠ MK)) k_ ∧ some k_ ≠ (u3 : Value).ownBlock) (Kd.ZY (Kd.FU (Xg1.out) (Kd.UM HO_3.out) (by decide)) MZ.out (by decide)) (fun k_ hk => ⟨hk.2, hk.1.2⟩))) (fun _ h_ => h_))); (case aB => exact zb1); (case aF => exact (fun k_ hk => Kd.De (g := MK) (o := .cells #[.int .i64 ((Xb l0 Jl).f0), .int .i64 ((Xb l0 Jl).f1), .slice Cg ((Xb l0 Jl).f2).length Ch] 56 (0, 0)) (by (with_reducible repeat (first | apply bn | apply bd | apply ba)); exact MZ.out) k_ hk)); (case aO => exact (by (with_reducible repeat (first | apply Kd.J7 | apply Kd.JK | apply Kd.JO)); exact Kd.J3 HO_3.out (fun k_ hk => ⟨hk.1.2, fun e_ => hk.2 e_⟩))); (case aS => exact (XA zb1)); (case aL => have := LMc6.out; omega); intro v383 w10 ho hb hg hat; rw [← Ny382.out] at ho; replace MZ := az (JQ (g := MK) (o := .cells #[.int .i64 ((Xb l0 Jl).f0), .int .i64 ((Xb l0 Jl).f1), .slice Cg ((Xb l0 Jl).f2).length Ch] 56 (0, 0)) (by (with_reducible repeat (first | apply bn | apply bd | apply ba)); exact MZ.out) hg (Kd.K7 HO_3.out (fun _ hk => hk.1.2))); replace HB := az (hb); have Xvg := az (ho); clear HO_3 Xg1; clear ho hb hg hat))
       go_roundg k1
       case measure => have := HK1.out; omega
       case rel => exact ⟨(y382), (wrap64 (Jl + 1)), zb5, H', ⟨zb33⟩, ⟨by (with_reducible repeat (first | apply Kd.J7 | apply Kd.JK | apply Kd.JO)); exact Kd.J3 Xvg.out (fun _ hk => trivial)⟩, ⟨zb1⟩⟩
      ·rw [if_neg c6] at H
       exact absurd H (by simp)
     ·rw [if_neg c4] at H
      exact absurd H (by simp)
    ·rw [if_neg c3] at H
     exact absurd H (by simp)
   ·rw [if_neg c2] at H
    have c2b0 : decide (Jl < (l0.length : Int)) = false := decide_eq_false c2; clear c2; obtain rfl := Option.some.inj H
    go_wp2
    go_ret
    exact ⟨_, zb4, zb37, zb0⟩
end Go.Proofs.YtphnphmbfogmlaaGreat.Pr
