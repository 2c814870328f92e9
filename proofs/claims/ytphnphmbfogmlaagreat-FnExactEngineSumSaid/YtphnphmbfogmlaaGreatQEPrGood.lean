import Derived.Test.YtphnphmbfogmlaaGreatQEByq
import Derived.Test.YtphnphmbfogmlaaGreatQEPrK
import Derived.Test.YtphnphmbfogmlaaGreatQESx
import Derived.Test.YtphnphmbfogmlaaGreatQEPrInts
import Derived.Test.YtphnphmbfogmlaaGreatQEPrM
import Derived.Test.YtphnphmbfogmlaaGreatQEPage2
namespace Go.Proofs.YtphnphmbfogmlaaGreat.Pr
open Go.RowKit Go.PW Go.Proofs.YtphnphmbfogmlaaGreat.T
set_option linter.unusedSimpArgs false
set_option linter.unusedVariables false
theorem Qo {α : Type} {g : Nat → Option α} (m : ∀ k, LeO (g k) (g (k + 1))) {k : Nat} {r : α} (h : g k = some r) : ∀ d, g (k + d) = some r
 | 0 => h
 | d + 1 => m (k + d) r (Qo m h d)
theorem QJ {α : Type} {g : Nat → Option α} (m : ∀ k, LeO (g k) (g (k + 1))) {k k' : Nat} {r r' : α} (h : g k = some r) (h' : g k' = some r') : r = r' := by
 have e1 := Qo m h k'; have e2 := Qo m h' k; rw [Nat.add_comm] at e2; rw [e1] at e2; exact Option.some.inj e2
theorem Gl (n lo hi : Int) : Zc.f n lo hi = some (inB n lo hi) := by
 unfold Zc.f inB
 by_cases h : lo ≤ n
 ·rw [if_pos h]
  simp [h]
 ·rw [if_neg h]
  simp [h]
theorem Xn9 {l : List Int} {i : Nat} (h : i < l.length) : l.drop i = rd l i :: l.drop (i + 1) := by
 rw [List.drop_eq_getElem_cons h]
 simp [rd, List.getD_eq_getElem?_getD, List.getElem?_eq_getElem h]
theorem Lj (a b : Int) (l : List Int) (hl : l.length ≤ 9223372036854775807) : ∀ (d k i : Nat), i + d = l.length → d < k → XM.l0 k i a b l = some (!(l.drop i).any (F7 b))
 | 0, k + 1, i, hi, _ => by
  unfold XM.l0
  rw [if_neg (by omega), List.drop_of_length_le (by omega)]
  rfl
 | d + 1, k + 1, i, hi, hk => by
  unfold XM.l0
  rw [if_pos (by omega), if_pos (by omega), T.wrap_small (by omega) (by omega), Gl]; have e := Xn9 (l := l) (i := i) (by omega); have ih := Lj a b l hl d k (i + 1) (by omega) (by omega); rw [show (i : Int) + 1 = ((i + 1 : Nat) : Int) by omega, ih, e]; simp only [Option.bind_some, List.any_cons, F7]
  by_cases h1 : inB (rd l i) 0 9 = true
  ·by_cases hb : b = 0
   ·by_cases hz : rd l i = 0
    ·simp [h1, hb, hz, inB]
    ·simp [h1, hb, hz, inB]
   ·simp [h1, hb]
  ·simp [h1]
theorem Fb (a b : Int) (l : List Int) (hl : l.length ≤ 9223372036854775807) (k : Nat) (hk : l.length + 1 < k) : XM.f k a b l = some (ZH a b l) := by
 obtain ⟨k, rfl⟩ : ∃ j, k = j + 1 := ⟨k - 1, by omega⟩
 unfold XM.f
 rw [Gl, Gl, Dw]; have h := Lj a b l hl l.length k 0 (by omega) (by omega)
 have h3 : ((l.length : Int) != 3) = !(l.length == 3) := by
  rw [Bool.eq_iff_iff]; simp only [bne_iff_ne, Bool.not_eq_true', beq_eq_false_iff_ne, ne_eq]; omega
 rw [h3]; simp only [Option.bind_some, XM.j0]
 cases inB a 0 150 <;> cases inB b 0 3 <;> cases l.length == 3 <;> simp
 simpa using h
theorem XM.calls (k : Nat) (X4 : Int) (XB : Int) (XE : Option Addr) (XF : Nat) (Xe : List Int) (r : Bool) (w : World) (hr0_2 : Kd.C (Kd.int .i64) w XE Xe.length Xe) (hc0_2 : Xe.length ≤ XF) (h : XM.f k X4 XB Xe = some r) :
 Calls Tryz.prog 70 #[.agg #[.int .i64 X4, .int .i64 XB, .slice XE Xe.length XF]] w fun e w' => e = .returned (.bool r) ∧ Below w.heap.size w w' := by
 obtain rfl : r = ZH X4 XB Xe := QJ (XM.mono _ _ _) h (Fb _ _ _ hr0_2.2.1 (Xe.length + 2) (by omega)); exact CU _ _ _ _ _ _ hr0_2 hc0_2
theorem Ll (a b : Int) (l : List Int) (hl : l.length ≤ 9223372036854775807) : ∀ (d k i : Nat), i + d = l.length → d < k → Yf.l0 k i a b l = some (!(l.drop i).any (F7 b))
 | 0, k + 1, i, hi, _ => by
  unfold Yf.l0
  rw [if_neg (by omega), List.drop_of_length_le (by omega)]
  rfl
 | d + 1, k + 1, i, hi, hk => by
  unfold Yf.l0
  rw [if_pos (by omega), if_pos (by omega), T.wrap_small (by omega) (by omega), Gl]; have e := Xn9 (l := l) (i := i) (by omega); have ih := Ll a b l hl d k (i + 1) (by omega) (by omega); rw [show (i : Int) + 1 = ((i + 1 : Nat) : Int) by omega, ih, e]; simp only [Option.bind_some, List.any_cons, F7]
  by_cases h1 : inB (rd l i) 0 9 = true
  ·by_cases hb : b = 0
   ·by_cases hz : rd l i = 0
    ·simp [h1, hb, hz, inB]
    ·simp [h1, hb, hz, inB]
   ·simp [h1, hb]
  ·simp [h1]
theorem Lg (a b : Int) (l : List Int) (hl : l.length ≤ 9223372036854775807) (k : Nat) (hk : l.length + 1 < k) : Yf.f k a b l = some (ZH a b l) := by
 obtain ⟨k, rfl⟩ : ∃ j, k = j + 1 := ⟨k - 1, by omega⟩
 unfold Yf.f
 rw [Gl, Gl, Dw]; have h := Ll a b l hl l.length k 0 (by omega) (by omega)
 have h3 : ((l.length : Int) != 3) = !(l.length == 3) := by
  rw [Bool.eq_iff_iff]; simp only [bne_iff_ne, Bool.not_eq_true', beq_eq_false_iff_ne, ne_eq]; omega
 rw [h3]; simp only [Option.bind_some, Yf.j0]
 cases inB a 0 150 <;> cases inB b 0 3 <;> cases l.length == 3 <;> simp
 simpa using h
theorem Yf.calls (k : Nat) (X4 : Int) (XB : Int) (XE : Option Addr) (XF : Nat) (Xe : List Int) (r : Bool) (w : World) (hr0_2 : Kd.C (Kd.int .i64) w XE Xe.length Xe) (hc0_2 : Xe.length ≤ XF) (h : Yf.f k X4 XB Xe = some r) :
 Calls Tryz.prog 79 #[.agg #[.int .i64 X4, .int .i64 XB, .slice XE Xe.length XF]] w fun e w' => e = .returned (.bool r) ∧ Below w.heap.size w w' := by
 obtain rfl : r = ZH X4 XB Xe := QJ (Yf.mono _ _ _) h (Lg _ _ _ hr0_2.2.1 (Xe.length + 2) (by omega)); exact Su _ _ _ _ _ _ hr0_2 hc0_2
theorem Xzd (k tx p s o n pv nx : Int) (j : Nat) : Z4.f (j + 1) k tx p s o n pv nx = some (Ey p s o n) := by
 unfold Z4.f Ey
 simp only [Gl, Option.bind_some, Z4.j0]
 cases h1 : inB p 0 4 <;> cases h2 : inB s (-1) 2 <;> simp
 by_cases hs : s < 0
 ·simp only [hs, if_true]
  cases inB o 0 3 <;> simp
 ·simp only [hs, if_false]
  cases inB o 0 9 <;> simp
theorem Cb (k tx p s o n pv nx : Int) (j : Nat) : Zk.f (j + 2) k tx p s o n pv nx = some (VQ k tx p s o n pv nx) := by
 unfold Zk.f
 rw [CS]; simp only [Gl, Option.bind_some, Zk.j0, Xzd]
 cases h1 : inB tx 1 3 <;> cases h2 : inB pv 0 150 <;> cases h3 : inB nx 0 150 <;> simp
 repeat' split
 all_goals try simp_all
 all_goals (try (intros; omega))
theorem Zk.calls (k : Nat) (X4 : Int) (XB : Int) (Jb : Int) (Xo : Int) (Xp : Int) (J5 : Int) (Jn : Int) (J9 : Int) (r : Bool) (w : World) (h : Zk.f k X4 XB Jb Xo Xp J5 Jn J9 = some r) :
 Calls Tryz.prog 71 #[.agg #[.int .i64 X4, .int .i64 XB, .int .i64 Jb, .int .i64 Xo, .int .i64 Xp, .int .i64 J5, .int .i64 Jn, .int .i64 J9]] w fun e w' => e = .returned (.bool r) ∧ Below w.heap.size w w' := by
 obtain rfl : r = VQ X4 XB Jb Xo Xp J5 Jn J9 := QJ (Zk.mono _ _ _ _ _ _ _ _) h (Cb _ _ _ _ _ _ _ _ 0); exact EJ _ _ _ _ _ _ _ _ _
end Go.Proofs.YtphnphmbfogmlaaGreat.Pr
namespace Go.Proofs.YtphnphmbfogmlaaGreat.Pr
open Go.RowKit Go.PW Go.PL Go.PM
attribute [local go_sem] YO YP Zm Zn Yv Yw YQ YS
set_option linter.unusedVariables false
set_option linter.unusedSimpArgs false
def Yq.l0 : Nat → List (S56) → Int → Option (Bool)
 | 0, _, _ => none
 | k + 1, x0, x3 => if x3 < (x0.length : Int) then (if 0 ≤ x3 then ((XM.f k ((Xb x0 x3).f0) ((Xb x0 x3).f1) ((Xb x0 x3).f2)).bind fun Xsx => (if Xsx = true then (Yq.l0 k x0 (wrap64 (x3 + 1))) else (some false))) else (none)) else (some ((x0.length : Int) == 5))
def Yq.f (k : Nat) (l0 : List (S56)) : Option (Bool) := Yq.l0 k l0 0
set_option maxHeartbeats 8000000 in
set_option maxRecDepth 100000 in
theorem Yq.calls (k : Nat) (A0 : Option Addr) (c0 : Nat) (l0 : List (S56)) (r : Bool) (w : World) (hr0 : Kd.C k56 w A0 l0.length l0) (hc0 : l0.length ≤ c0) (h : Yq.f k l0 = some r) :
 Calls Tryz.prog 42 #[.slice A0 l0.length c0] w fun e w' => e = .returned (.bool r) ∧ Below w.heap.size w w' := by
 have hu56 := Tryz.underlying56; have HR0 := az hr0; have HC0 := az hc0; clear hr0 hc0; have HB := az (Below.refl w.heap.size w); have H : (Yq.l0 k l0 0) = some r := h; clear h; have H' := az H; clear H
 go_enter Tryz.func42, Tryz.ntmps42
 go_wp2
 go_loopg [3] k (fun kq v3 w' => ∃ (Xt : Int), v3 = .int .i64 Xt ∧ Aside0 (Yq.l0 kq l0 Xt = some r) ∧ Aside0 (kq ≤ k) ∧ Aside0 (Below w.heap.size w w'))
 case atStart => exact ⟨(0), zb6, H', ⟨Nat.le_refl _⟩, ⟨zb1⟩⟩
 case round =>
  clear H'; obtain ⟨Xt, rfl, HA, HK1, HB⟩ := hrel
  cases gk with
  | zero => exact absurd HA.out (by simp [Yq.l0])
  | succ k1 =>
   have H := HA.out; clear HA; simp only [Yq.l0] at H
   by_cases c2 : Xt < (l0.length : Int)
   ·rw [if_pos c2] at H
    have c2b0 : decide (Xt < (l0.length : Int)) = true := decide_eq_true c2; clear c2
    by_cases c3 : 0 ≤ Xt
    ·rw [if_pos c3] at H
     have c3b0 : decide (0 ≤ Xt) = true := decide_eq_true c3; clear c3; replace H := Option.bind_eq_some_iff.mp H; obtain ⟨Xsx, A40, H⟩ := H; replace H : (if Xsx = true then (Yq.l0 k1 l0 (wrap64 (Xt + 1))) else (some false)) = some r := H; have A4 := az A40; clear A40
     by_cases c5 : Xsx = true
     ·subst c5
      have H1 : (Yq.l0 k1 l0 (wrap64 (Xt + 1))) = some r := by rw [if_pos rfl] at H; exact H
      clear H; have H := H1; clear H1; have H' := az H; clear H; have Xh4 : 0 ≤ (Xt : Int) := of_decide_eq_true zb3; have Xh5 : Xt < (l0.length : Int) := of_decide_eq_true zb3; obtain ⟨X0h, Xh6, Xh7, Xxy, SH, SI, SK, hl162_2, hi162_2⟩ := ZU HR0.out Xt Xh4 Xh5
      cases Xxy
      replace SH := (HB.out.cell (World.block_lt_of_cell? w _ SH)).trans SH; replace SI := (HB.out.cell (World.block_lt_of_cell? w _ SI)).trans SI; replace SK := (HB.out.cell (World.block_lt_of_cell? w _ SK)).trans SK; have Xjw := az hi162_2; have Xde := az hl162_2; clear hi162_2 hl162_2; replace Xh4 := eq_true Xh4; replace Xh5 := eq_true Xh5
      go_wp2_with (first | ((with_reducible refine Xi (f := 70) rfl ?_); refine XI (some 14) rfl rfl Tryz.func70 zb9 rfl #[.agg #[.int .i64 ((Xb l0 Xt).f0), .int .i64 ((Xb l0 Xt).f1), .slice Xh6 ((Xb l0 Xt).f2).length Xh7]] rfl zb2 ?_; (with_reducible refine (XM.calls k1 ((Xb l0 Xt).f0) ((Xb l0 Xt).f1) _ _ ((Xb l0 Xt).f2) true _ ?side1 ?side2 A4.out).mono ?_); (case side1 => exact zb102); (case side2 => exact Xde.out); rintro e w6 ⟨rfl, hb⟩; refine ⟨_, rfl, ?_⟩; replace HB := az (Xc zb1 hb); (try clear hb); (try clear hb2); (try clear hk); (try clear hi)))
      go_roundg k1
      case measure => have := HK1.out; omega
      case rel => exact ⟨(wrap64 (Xt + 1)), zb6, H', ⟨zb37⟩, ⟨zb1⟩⟩
     ·replace c5 := Bool.eq_false_iff.mpr c5
      subst c5
      have H1 : (some false) = some r := by rw [if_neg (show ¬ (false = true) by decide)] at H; exact H
      clear H; have H := H1; clear H1; obtain rfl := Option.some.inj H; have Xh4 : 0 ≤ (Xt : Int) := of_decide_eq_true zb3; have Xh5 : Xt < (l0.length : Int) := of_decide_eq_true zb3; obtain ⟨X0h, Xh6, Xh7, Xxy, SH, SI, SK, hl162_2, hi162_2⟩ := ZU HR0.out Xt Xh4 Xh5
      cases Xxy
      replace SH := (HB.out.cell (World.block_lt_of_cell? w _ SH)).trans SH; replace SI := (HB.out.cell (World.block_lt_of_cell? w _ SI)).trans SI; replace SK := (HB.out.cell (World.block_lt_of_cell? w _ SK)).trans SK; have Xjw := az hi162_2; have Xde := az hl162_2; clear hi162_2 hl162_2; replace Xh4 := eq_true Xh4; replace Xh5 := eq_true Xh5
      go_wp2_with (first | ((with_reducible refine Xi (f := 70) rfl ?_); refine XI (some 14) rfl rfl Tryz.func70 zb9 rfl #[.agg #[.int .i64 ((Xb l0 Xt).f0), .int .i64 ((Xb l0 Xt).f1), .slice Xh6 ((Xb l0 Xt).f2).length Xh7]] rfl zb2 ?_; (with_reducible refine (XM.calls k1 ((Xb l0 Xt).f0) ((Xb l0 Xt).f1) _ _ ((Xb l0 Xt).f2) false _ ?side1 ?side2 A4.out).mono ?_); (case side1 => exact zb102); (case side2 => exact Xde.out); rintro e w7 ⟨rfl, hb⟩; refine ⟨_, rfl, ?_⟩; replace HB := az (Xc zb1 hb); (try clear hb); (try clear hb2); (try clear hk); (try clear hi)))
      go_ret
      exact ⟨zb4, zb1⟩
    ·rw [if_neg c3] at H
     exact absurd H (by simp)
   ·rw [if_neg c2] at H
    have c2b0 : decide (Xt < (l0.length : Int)) = false := decide_eq_false c2; clear c2; obtain rfl := Option.some.inj H
    go_wp2
    go_ret
    exact ⟨zb4, zb1⟩
end Go.Proofs.YtphnphmbfogmlaaGreat.Pr
