import Derived.Test.YtcefiblpnegepaaQBByq
import Derived.Test.YtcefiblpnegepaaQBSx
import Derived.Test.YtcefiblpnegepaaQBPrNew
import Derived.Test.YtcefiblpnegepaaQBOks
import Derived.Test.YtcefiblpnegepaaQBSh
namespace Go.Proofs.Ytcefiblpnegepaa.Pr
open Go.RowKit Go.PW Go.PL Go.PM
attribute [local go_sem] Y3 Y4 YV YW Yk Yl Y5 Y6
set_option linter.unusedVariables false
set_option linter.unusedSimpArgs false
abbrev Ef : Array Bool := #[false, false, false, false, false, false, false, false, false, false, false, false, false, false, false, false, false, false, false, false, false, false, false, false, false, false, false, false, false, false, false, false]
abbrev Eg : Array Bool := #[true, false, false, false, false, false, false, false, false, false, false, false, false, false, false, false, false, false, false, false, false, false, false, false, false, false, false, false, false, false, false, false]
abbrev Eh : Array Bool := #[true, true, false, false, false, false, false, false, false, false, false, false, false, false, false, false, false, false, false, false, false, false, false, false, false, false, false, false, false, false, false, false]
abbrev Ei : Array Bool := #[true, true, true, false, false, false, false, false, false, false, false, false, false, false, false, false, false, false, false, false, false, false, false, false, false, false, false, false, false, false, false, false]
abbrev Ej : Array Bool := #[true, true, true, true, false, false, false, false, false, false, false, false, false, false, false, false, false, false, false, false, false, false, false, false, false, false, false, false, false, false, false, false]
abbrev El : Array Bool := #[true, true, true, true, true, false, false, false, false, false, false, false, false, false, false, false, false, false, false, false, false, false, false, false, false, false, false, false, false, false, false, false]
abbrev Em : Array Bool := #[true, true, true, true, true, true, false, false, false, false, false, false, false, false, false, false, false, false, false, false, false, false, false, false, false, false, false, false, false, false, false, false]
abbrev En : Array Bool := #[true, true, true, true, true, true, true, false, false, false, false, false, false, false, false, false, false, false, false, false, false, false, false, false, false, false, false, false, false, false, false, false]
abbrev Eo : Array Bool := #[true, true, true, true, true, true, true, true, false, false, false, false, false, false, false, false, false, false, false, false, false, false, false, false, false, false, false, false, false, false, false, false]
abbrev Ep : Array Bool := #[true, true, true, true, true, true, true, true, true, false, false, false, false, false, false, false, false, false, false, false, false, false, false, false, false, false, false, false, false, false, false, false]
abbrev LA : Array Bool := #[true, true, true, true, true, true, true, true, true, true, false, false, false, false, false, false, false, false, false, false, false, false, false, false, false, false, false, false, false, false, false, false]
abbrev LC : Array Bool := #[true, true, true, true, true, true, true, true, true, true, true, false, false, false, false, false, false, false, false, false, false, false, false, false, false, false, false, false, false, false, false, false]
abbrev O7 : Array Bool := #[true, true, true, true, true, true, true, true, true, true, true, false, true, false, false, false, false, false, false, false, false, false, false, false, false, false, false, false, false, false, false, false]
abbrev XdZ : Array Bool := #[true, true, true, true, true, true, true, true, true, true, true, true, false, false, false, false, false, false, false, false, false, false, false, false, false, false, false, false, false, false, false, false]
abbrev O8 : Array Bool := #[true, true, true, true, true, true, true, true, true, true, true, false, true, true, false, false, false, false, false, false, false, false, false, false, false, false, false, false, false, false, false, false]
abbrev Xea : Array Bool := #[true, true, true, true, true, true, true, true, true, true, true, true, true, false, false, false, false, false, false, false, false, false, false, false, false, false, false, false, false, false, false, false]
abbrev O9 : Array Bool := #[true, true, true, true, true, true, true, true, true, true, true, false, true, true, true, false, false, false, false, false, false, false, false, false, false, false, false, false, false, false, false, false]
abbrev Xeb : Array Bool := #[true, true, true, true, true, true, true, true, true, true, true, true, true, true, false, false, false, false, false, false, false, false, false, false, false, false, false, false, false, false, false, false]
abbrev OA : Array Bool := #[true, true, true, true, true, true, true, true, true, true, true, false, true, true, true, true, false, false, false, false, false, false, false, false, false, false, false, false, false, false, false, false]
abbrev Xec : Array Bool := #[true, true, true, true, true, true, true, true, true, true, true, true, true, true, true, false, false, false, false, false, false, false, false, false, false, false, false, false, false, false, false, false]
abbrev OB : Array Bool := #[true, true, true, true, true, true, true, true, true, true, true, false, true, true, true, true, true, false, false, false, false, false, false, false, false, false, false, false, false, false, false, false]
abbrev Xed : Array Bool := #[true, true, true, true, true, true, true, true, true, true, true, true, true, true, true, true, false, false, false, false, false, false, false, false, false, false, false, false, false, false, false, false]
abbrev OC : Array Bool := #[true, true, true, true, true, true, true, true, true, true, true, false, true, true, true, true, true, true, false, false, false, false, false, false, false, false, false, false, false, false, false, false]
abbrev Xee : Array Bool := #[true, true, true, true, true, true, true, true, true, true, true, true, true, true, true, true, true, false, false, false, false, false, false, false, false, false, false, false, false, false, false, false]
abbrev OD : Array Bool := #[true, true, true, true, true, true, true, true, true, true, true, false, true, true, true, true, true, true, true, false, false, false, false, false, false, false, false, false, false, false, false, false]
abbrev Xef : Array Bool := #[true, true, true, true, true, true, true, true, true, true, true, true, true, true, true, true, true, true, false, false, false, false, false, false, false, false, false, false, false, false, false, false]
abbrev LD : Array Bool := #[true, true, true, true, true, true, true, true, true, true, true, true, true, true, true, true, true, true, true, false, false, false, false, false, false, false, false, false, false, false, false, false]
abbrev LF : Array Bool := #[true, true, true, true, true, true, true, true, true, true, true, true, true, true, true, true, true, true, true, true, false, false, false, false, false, false, false, false, false, false, false, false]
abbrev LG : Array Bool := #[true, true, true, true, true, true, true, true, true, true, true, true, true, true, true, true, true, true, true, true, true, false, false, false, false, false, false, false, false, false, false, false]
abbrev LH : Array Bool := #[true, true, true, true, true, true, true, true, true, true, true, true, true, true, true, true, true, true, true, true, true, true, false, false, false, false, false, false, false, false, false, false]
abbrev LJ : Array Bool := #[true, true, true, true, true, true, true, true, true, true, true, true, true, true, true, true, true, true, true, true, true, true, true, false, false, false, false, false, false, false, false, false]
abbrev LM : Array Bool := #[true, true, true, true, true, true, true, true, true, true, true, true, true, true, true, true, true, true, true, true, true, true, true, true, false, false, false, false, false, false, false, false]
abbrev LP : Array Bool := #[true, true, true, true, true, true, true, true, true, true, true, true, true, true, true, true, true, true, true, true, true, true, true, true, true, false, false, false, false, false, false, false]
abbrev LQ : Array Bool := #[true, true, true, true, true, true, true, true, true, true, true, true, true, true, true, true, true, true, true, true, true, true, true, true, true, true, false, false, false, false, false, false]
abbrev LU : Array Bool := #[true, true, true, true, true, true, true, true, true, true, true, true, true, true, true, true, true, true, true, true, true, true, true, true, true, true, true, false, false, false, false, false]
abbrev LV : Array Bool := #[true, true, true, true, true, true, true, true, true, true, true, true, true, true, true, true, true, true, true, true, true, true, true, true, true, true, true, true, false, false, false, false]
abbrev Xeg : Array Bool := #[true, true, true, true, true, true, true, true, true, true, true, true, true, true, true, true, true, true, true, true, true, true, true, true, true, true, true, true, false, true, false, false]
abbrev OE : Array Bool := #[true, true, true, true, true, true, true, true, true, true, true, true, true, true, true, true, true, true, true, true, true, true, true, true, true, true, true, true, true, false, false, false]
abbrev LW : Array Bool := #[true, true, true, true, true, true, true, true, true, true, true, true, true, true, true, true, true, true, true, true, true, true, true, true, true, true, true, true, true, true, false, false]
abbrev LX : Array Bool := #[true, true, true, true, true, true, true, true, true, true, true, true, true, true, true, true, true, true, true, true, true, true, true, true, true, true, true, true, true, true, true, false]
abbrev LY : Array Bool := #[true, true, true, true, true, true, true, true, true, true, true, true, true, true, true, true, true, true, true, true, true, true, true, true, true, true, true, true, true, true, true, true]
abbrev LZ : Array Bool := #[false, false, false, false, false, false, false, false, false, false, false, false, false, false, false, false, false, false, false, false, false, false, false, false]
abbrev Ta : Array Bool := #[true, false, false, false, false, false, false, false, false, false, false, false, false, false, false, false, false, false, false, false, false, false, false, false]
abbrev Tc : Array Bool := #[true, true, false, false, false, false, false, false, false, false, false, false, false, false, false, false, false, false, false, false, false, false, false, false]
abbrev Td : Array Bool := #[true, true, true, false, false, false, false, false, false, false, false, false, false, false, false, false, false, false, false, false, false, false, false, false]
abbrev Te : Array Bool := #[true, true, true, true, false, false, false, false, false, false, false, false, false, false, false, false, false, false, false, false, false, false, false, false]
abbrev Tf : Array Bool := #[true, true, true, true, true, false, false, false, false, false, false, false, false, false, false, false, false, false, false, false, false, false, false, false]
abbrev Tg : Array Bool := #[true, true, true, true, true, true, false, false, false, false, false, false, false, false, false, false, false, false, false, false, false, false, false, false]
abbrev Ti : Array Bool := #[true, true, true, true, true, true, true, false, false, false, false, false, false, false, false, false, false, false, false, false, false, false, false, false]
abbrev Tj : Array Bool := #[true, true, true, true, true, true, true, true, false, false, false, false, false, false, false, false, false, false, false, false, false, false, false, false]
abbrev Tk : Array Bool := #[true, true, true, true, true, true, true, true, true, false, false, false, false, false, false, false, false, false, false, false, false, false, false, false]
abbrev Tm : Array Bool := #[true, true, true, true, true, true, true, true, true, true, false, false, false, false, false, false, false, false, false, false, false, false, false, false]
abbrev Tn : Array Bool := #[true, true, true, true, true, true, true, true, true, true, true, false, false, false, false, false, false, false, false, false, false, false, false, false]
abbrev Tp : Array Bool := #[true, true, true, true, true, true, true, true, true, true, true, true, false, false, false, false, false, false, false, false, false, false, false, false]
abbrev OG : Array Bool := #[true, true, true, true, true, true, true, true, true, true, true, true, false, false, false, false, false, true, false, false, false, false, false, false]
abbrev Xeh : Array Bool := #[true, true, true, true, true, true, true, true, true, true, true, true, true, false, false, false, false, false, false, false, false, false, false, false]
abbrev OH : Array Bool := #[true, true, true, true, true, true, true, true, true, true, true, true, false, false, false, false, false, true, true, false, false, false, false, false]
abbrev Xei : Array Bool := #[true, true, true, true, true, true, true, true, true, true, true, true, true, true, false, false, false, false, false, false, false, false, false, false]
abbrev OI : Array Bool := #[true, true, true, true, true, true, true, true, true, true, true, true, false, false, false, false, false, true, true, true, false, false, false, false]
abbrev Xej : Array Bool := #[true, true, true, true, true, true, true, true, true, true, true, true, true, true, true, false, false, false, false, false, false, false, false, false]
abbrev OJ : Array Bool := #[true, true, true, true, true, true, true, true, true, true, true, true, false, false, false, false, false, true, true, true, true, false, false, false]
abbrev Xek : Array Bool := #[true, true, true, true, true, true, true, true, true, true, true, true, true, true, true, true, false, false, false, false, false, false, false, false]
abbrev OL : Array Bool := #[true, true, true, true, true, true, true, true, true, true, true, true, true, false, false, false, false, true, true, true, true, false, false, false]
abbrev Xel : Array Bool := #[true, true, true, true, true, true, true, true, true, true, true, true, true, true, true, true, true, false, false, false, false, false, false, false]
abbrev OM : Array Bool := #[true, true, true, true, true, true, true, true, true, true, true, true, true, true, false, false, false, true, true, true, true, false, false, false]
abbrev Xem : Array Bool := #[true, true, true, true, true, true, true, true, true, true, true, true, true, true, true, true, true, true, false, false, false, false, false, false]
abbrev OO : Array Bool := #[true, true, true, true, true, true, true, true, true, true, true, true, true, true, true, false, false, true, true, true, true, false, false, false]
abbrev Xen : Array Bool := #[true, true, true, true, true, true, true, true, true, true, true, true, true, true, true, true, true, true, true, false, false, false, false, false]
abbrev OP : Array Bool := #[true, true, true, true, true, true, true, true, true, true, true, true, true, true, true, true, false, true, true, true, true, false, false, false]
abbrev Xeo : Array Bool := #[true, true, true, true, true, true, true, true, true, true, true, true, true, true, true, true, true, true, true, true, false, false, false, false]
abbrev Tq : Array Bool := #[true, true, true, true, true, true, true, true, true, true, true, true, true, true, true, true, true, true, true, true, true, false, false, false]
abbrev Tt : Array Bool := #[true, true, true, true, true, true, true, true, true, true, true, true, true, true, true, true, true, true, true, true, true, true, false, false]
abbrev Tu : Array Bool := #[true, true, true, true, true, true, true, true, true, true, true, true, true, true, true, true, true, true, true, true, true, true, true, false]
abbrev Tv : Array Bool := #[true, true, true, true, true, true, true, true, true, true, true, true, true, true, true, true, true, true, true, true, true, true, true, true]
mutual
def Xk.l0 : Nat → List (S41) → Int → Option (Bool)
 | 0, _, _ => none
 | k + 1, x0, x3 => if x3 < (x0.length : Int) then (if 0 ≤ x3 then ((Y0.f k ((Xa x0 x3).f0) ((Xa x0 x3).f1) ((Xa x0 x3).f2) ((Xa x0 x3).f3) ((Xa x0 x3).f4) ((Xa x0 x3).f5) ((Xa x0 x3).f6) ((Xa x0 x3).f7)).bind fun Xjw => (if Xjw = true then (if x3 ≤ (x0.length : Int) then ((Xu.f k (x0.take (x3 : Int).toNat) ((Xa x0 x3).f1)).bind fun Pd => (if ((Xa x0 x3).f6) = Pd then (Xk.j1 k x0 x3 (decide (((Xa x0 x3).f7) > x3))) else (Xk.j1 k x0 x3 true))) else (none)) else (Xk.j1 k x0 x3 true))) else (none)) else (some (decide ((x0.length : Int) ≤ 150)))
def Xk.j1 : Nat → List (S41) → Int → Bool → Option (Bool)
 | 0, _, _, _ => none
 | k + 1, x0, x3, x41 => if x41 = true then (some false) else (if 0 ≤ x3 then (if x3 < (x0.length : Int) then (if ((Xa x0 x3).f7) > 0 then (if 0 ≤ (wrap64 (((Xa x0 x3).f7) - 1)) then (if (wrap64 (((Xa x0 x3).f7) - 1)) < (x0.length : Int) then (if ((Xa x0 (wrap64 (((Xa x0 x3).f7) - 1))).f1) = ((Xa x0 x3).f1) then (Xk.l0 k x0 (wrap64 (x3 + 1))) else (some false)) else (none)) else (none)) else (Xk.l0 k x0 (wrap64 (x3 + 1)))) else (none)) else (none))
end
def Xk.f (k : Nat) (l0 : List (S41)) : Option (Bool) := Xk.l0 k l0 0
def Xk.T4 : Bool × List (List Nat × List Nat) := (true, [([], []), ([], []), ([0, 1], [0, 1]), ([2], [2]), ([3], [3]), ([4], [4]), ([5, 4], [5]), ([6], [6]), ([6], [6]), ([7, 8, 6], [6, 7, 8]), ([9, 6], [6, 9]), ([10, 6], [6, 10]), ([6], [6]), ([6], [6]), ([12, 13, 6], [6, 12, 13]), ([6], [6]), ([6], [6]), ([15, 16, 6], [6, 15, 16]), ([17, 6], [6, 17]), ([18, 6], [6, 18]), ([14, 19, 6, 6], [6, 14, 19]), ([11, 20, 6], [6, 11, 20]), ([6, 21], [6, 21]), ([22, 20], [22]), ([23], [23]), ([23], [23]), ([24, 25, 23], [23, 24, 25]), ([26, 23], [23, 26]), ([27, 23], [23, 27]), ([23], [23]), ([28, 29, 23], [23, 28, 29]), ([23, 30], [23, 30])])
def Xk.B4 : List Nat := [0, 0, 3, 7, 15, 31, 63, 127, 127, 511, 1023, 2047, 127, 127, 12415, 127, 127, 98431, 229503, 491647, 1044607, 2097151, 4194303, 8388607, 16777215, 16777215, 67108863, 134217727, 268435455, 16777215, 1073741823, 2147483647]
theorem Xk.Xpu : JG .any (opsOf Try.f32 4) = Xk.T4 := by kernel_rfl
theorem Xk.Xhj : Jh Xk.T4.2 Xk.B4 = true := by kernel_rfl
def Xk.T6 : Bool × List (List Nat × List Nat) := (true, [([], []), ([], []), ([0, 1], [0, 1]), ([2], [2]), ([3], [3]), ([4], [4]), ([5], [5]), ([6], [6]), ([6], [6]), ([6], [6]), ([8, 9, 6], [6, 8, 9]), ([10, 6], [6, 10]), ([11, 6], [6, 11]), ([12, 6], [6, 12]), ([7, 13, 6], [6, 7, 13]), ([14, 6], [6, 14]), ([15, 6], [6, 15]), ([6], [6]), ([6], [6]), ([17, 18, 6], [6, 17, 18]), ([19, 6], [6, 19]), ([20, 6], [6, 20]), ([16, 21, 6], [6, 16, 21]), ([6, 22], [6, 22])])
def Xk.B6 : List Nat := [0, 0, 3, 7, 15, 31, 63, 127, 127, 127, 895, 1919, 3967, 8063, 16383, 32767, 65535, 127, 127, 393343, 917631, 1966207, 4194303, 8388607]
theorem Xk.XgP : JG .any (opsOf Try.f32 6) = Xk.T6 := by kernel_rfl
theorem Xk.Xay : Jh Xk.T6.2 Xk.B6 = true := by kernel_rfl
set_option maxHeartbeats 8000000 in
set_option maxRecDepth 100000 in
theorem Xk.calls (k : Nat) (A0 : Option Addr) (c0 : Nat) (l0 : List (S41)) (r : Bool) (w : World) (hr0 : Kd.C k41 w A0 l0.length l0) (hc0 : l0.length ≤ c0) (h : Xk.f k l0 = some r) :
 Calls Try.prog 32 #[.slice A0 l0.length c0] w fun e w' => e = .returned (.bool r) ∧ Below w.heap.size w w' := by
 have hu41 := Try.underlying41; have HR0 := az hr0; have HC0 := az hc0; clear hr0 hc0; have HB := az (Below.refl w.heap.size w); have H : (Xk.l0 k l0 0) = some r := h; clear h; have H' := az H; clear H
 go_enter Try.func32, Try.ntmps32
 go_wp2
 go_loopg [3] k (fun kq v3 w' => ∃ (X5 : Int), v3 = .int .i64 X5 ∧ Aside0 (Xk.l0 kq l0 X5 = some r) ∧ Aside0 (kq ≤ k) ∧ Aside0 (Below w.heap.size w w'))
 case atStart => exact ⟨(0), zb12, H', ⟨Nat.le_refl _⟩, ⟨zb5⟩⟩
 case round =>
  clear H'; obtain ⟨X5, rfl, HA, HK1, HB⟩ := hrel
  cases gk with
  | zero => exact absurd HA.out (by simp [Xk.l0])
  | succ k1 =>
   have H := HA.out; clear HA; simp only [Xk.l0] at H
   by_cases c2 : X5 < (l0.length : Int)
   ·rw [if_pos c2] at H
    have c2b0 : decide (X5 < (l0.length : Int)) = true := decide_eq_true c2; clear c2; have HC3 := az H; clear H
    go_upto_region 4 with (fail)
    go_cut [41] (fun v41 wc => ∃ (kq : Nat) (XcI : Bool), v41 = .bool XcI ∧ Aside0 (Xk.j1 kq l0 X5 XcI = some r) ∧ Aside0 (kq ≤ k1) ∧ Aside0 (Below w.heap.size w wc))
    case first =>
     have H := HC3.out; clear HC3
     by_cases c4 : 0 ≤ X5
     ·rw [if_pos c4] at H
      have c4b0 : decide (0 ≤ X5) = true := decide_eq_true c4; clear c4
      (first | rw [c4b0] | (simp only [XG, XW]; rw [c4b0]) | skip)
      replace H := Option.bind_eq_some_iff.mp H; obtain ⟨Xjw, A50, H⟩ := H; replace H : (if Xjw = true then (if X5 ≤ (l0.length : Int) then ((Xu.f k1 (l0.take (X5 : Int).toNat) ((Xa l0 X5).f1)).bind fun Pd => (if ((Xa l0 X5).f6) = Pd then (Xk.j1 k1 l0 X5 (decide (((Xa l0 X5).f7) > X5))) else (Xk.j1 k1 l0 X5 true))) else (none)) else (Xk.j1 k1 l0 X5 true)) = some r := H; have A5 := az A50; clear A50
      by_cases c6 : Xjw = true
      ·subst c6
       have H1 : (if X5 ≤ (l0.length : Int) then ((Xu.f k1 (l0.take (X5 : Int).toNat) ((Xa l0 X5).f1)).bind fun Pd => (if ((Xa l0 X5).f6) = Pd then (Xk.j1 k1 l0 X5 (decide (((Xa l0 X5).f7) > X5))) else (Xk.j1 k1 l0 X5 true))) else (none)) = some r := by rw [if_pos rfl] at H; exact H
       clear H; have H := H1; clear H1; have c7b0 := eq_true (of_decide_eq_true zb9 : 0 ≤ X5)
       by_cases c8 : X5 ≤ (l0.length : Int)
       ·rw [if_pos c8] at H
        have c8b0 := eq_true c8; have c8b1 : decide (X5 ≤ (l0.length : Int)) = true := decide_eq_true c8; clear c8
        obtain ⟨IW, hy270⟩ : ∃ y_ : List (S41), y_ = (l0.take (X5 : Int).toNat) := ⟨_, rfl⟩
        replace H : ((Xu.f k1 IW ((Xa l0 X5).f1)).bind fun Pd => (if ((Xa l0 X5).f6) = Pd then (Xk.j1 k1 l0 X5 (decide (((Xa l0 X5).f7) > X5))) else (Xk.j1 k1 l0 X5 true))) = some r := by first | (rw [hy270]; with_reducible exact H) | (have H2_ := (Option.bind_some _ _).symm.trans H; rw [hy270]; with_reducible exact H2_) | (have H2_ := (Option.bind_some _ _).symm.trans H; with_reducible exact H2_) | with_reducible exact H | (rw [hy270]; exact H) | exact H
        have Ny270 := az hy270; clear hy270; replace H := Option.bind_eq_some_iff.mp H; obtain ⟨Pd, A90, H⟩ := H; replace H : (if ((Xa l0 X5).f6) = Pd then (Xk.j1 k1 l0 X5 (decide (((Xa l0 X5).f7) > X5))) else (Xk.j1 k1 l0 X5 true)) = some r := H; have A9 := az A90; clear A90
        by_cases c10 : ((Xa l0 X5).f6) = Pd
        ·rw [if_pos c10] at H
         have MN : (((Xa l0 X5).f6) == Pd) = true := beq_iff_eq.mpr c10; have Be : (((Xa l0 X5).f6) != Pd) = false := bne_eq_false_iff_eq.mpr c10; clear c10; have H' := az H; clear H
         try go_wp2
         have n0_ := az (Yt HB.out); clear HB; have HB := n0_; clear n0_; have Ro : 0 ≤ (X5 : Int) := of_decide_eq_true zb9; have Rp : X5 < (l0.length : Int) := of_decide_eq_true zb9; obtain ⟨F5, XfG, VU, VV, VW, VX, VY, VZ, Da, Db⟩ := YN HR0.out X5 Ro Rp; have hw267_7 := Db; have hw267_6 := Da; have hw267_5 := VZ; have hw267_4 := VY; have hw267_3 := VX; have hw267_2 := VW; have hw267_1 := VV; have hw267_0 := VU
         cases XfG
         replace VU := cb HB VU; replace VV := cb HB VV; replace VW := cb HB VW; replace VX := cb HB VX; replace VY := cb HB VY; replace VZ := cb HB VZ; replace Da := cb HB Da; replace Db := cb HB Db; replace Ro := eq_true Ro; replace Rp := eq_true Rp; have Xal : 0 ≤ (X5 : Int) := of_decide_eq_true zb9; have Xam : X5 < (l0.length : Int) := of_decide_eq_true zb9; obtain ⟨XfH, XmW, GU, GV, GX, GY, GZ, Ua, Ub, Uc⟩ := YN HR0.out X5 Xal Xam; have hw269_7 := Uc; have hw269_6 := Ub; have hw269_5 := Ua; have hw269_4 := GZ; have hw269_3 := GY; have hw269_2 := GX; have hw269_1 := GV; have hw269_0 := GU
         obtain rfl : F5 = XfH := (by injection XmW)
         replace GU := cb HB GU; replace GV := cb HB GV; replace GX := cb HB GX; replace GY := cb HB GY; replace GZ := cb HB GZ; replace Ua := cb HB Ua; replace Ub := cb HB Ub; replace Uc := cb HB Uc; replace Xal := eq_true Xal; replace Xam := eq_true Xam; have Xan : 0 ≤ (X5 : Int) := of_decide_eq_true zb9; have Xao : X5 < (l0.length : Int) := of_decide_eq_true zb9; obtain ⟨XfI, XmX, Ud, Ue, Uf, Ug, Uh, Ui, Uj, Uk⟩ := YN HR0.out X5 Xan Xao; have hw274_7 := Uk; have hw274_6 := Uj; have hw274_5 := Ui; have hw274_4 := Uh; have hw274_3 := Ug; have hw274_2 := Uf; have hw274_1 := Ue; have hw274_0 := Ud
         obtain rfl : F5 = XfI := (by injection XmX)
         replace Ud := cb HB Ud; replace Ue := cb HB Ue; replace Uf := cb HB Uf; replace Ug := cb HB Ug; replace Uh := cb HB Uh; replace Ui := cb HB Ui; replace Uj := cb HB Uj; replace Uk := cb HB Uk; replace Xan := eq_true Xan; replace Xao := eq_true Xao; have XmY : 0 ≤ (X5 : Int) := of_decide_eq_true zb9; have XmZ : X5 < (l0.length : Int) := of_decide_eq_true zb9; obtain ⟨Xs8, e276, RF, RG, RH, RJ, RN, RP, RQ, RS⟩ := YN HR0.out X5 XmY XmZ; have hw276_7 := RS; have hw276_6 := RQ; have hw276_5 := RP; have hw276_4 := RN; have hw276_3 := RJ; have hw276_2 := RH; have hw276_1 := RG; have hw276_0 := RF
         obtain rfl : F5 = Xs8 := (by injection e276)
         replace RF := cb HB RF; replace RG := cb HB RG; replace RH := cb HB RH; replace RJ := cb HB RJ; replace RN := cb HB RN; replace RP := cb HB RP; replace RQ := cb HB RQ; replace RS := cb HB RS; replace XmY := eq_true XmY; replace XmZ := eq_true XmZ; refine ZR (n := 32) (S := fun w' => r8 w' (F5.add ((X5).toNat * 8)) (Xa l0 X5) (r8 w' (F5.add ((X5).toNat * 8)) (Xa l0 X5) (r8 w' (F5.add ((X5).toNat * 8)) (Xa l0 X5) (r8t w' (F5.add ((X5).toNat * 8)) (Xa l0 X5))))) (ds := []) Ef zb13 rfl rfl ⟨(cb HB hw267_0), (cb HB hw267_1), (cb HB hw267_2), (cb HB hw267_3), (cb HB hw267_4), (cb HB hw267_5), (cb HB hw267_6), (cb HB hw267_7), (cb HB hw269_0), (cb HB hw269_1), (cb HB hw269_2), (cb HB hw269_3), (cb HB hw269_4), (cb HB hw269_5), (cb HB hw269_6), (cb HB hw269_7), (cb HB hw274_0), (cb HB hw274_1), (cb HB hw274_2), (cb HB hw274_3), (cb HB hw274_4), (cb HB hw274_5), (cb HB hw274_6), (cb HB hw274_7), (cb HB hw276_0), (cb HB hw276_1), (cb HB hw276_2), (cb HB hw276_3), (cb HB hw276_4), (cb HB hw276_5), (cb HB hw276_6), (cb HB hw276_7)⟩ (fun hHeld => ?_); refine ZV Xk.Xpu Xk.Xhj (fun HT_ HW_ => ?_); generalize wr.drew = w11 at HB VU VV VW VX VY VZ Da Db GU GV GX GY GZ Ua Ub Uc Ud Ue Uf Ug Uh Ui Uj Uk RF RG RH RJ RN RP RQ RS hHeld ⊢; refine pu 0 10 Eg HT_ ?_; refine pu 1 11 Eh HT_ ?_
         refine pu 2 12 Ei HT_ ?_; refine tk 3 13 Ej HT_ HW_ hHeld ?_; refine Vr (i := 4) (N := some 14) El rfl rfl (Zf HT_.out zb13) (by decide) (fun K hK => ?_); refine Ji Try.func83 zb13 rfl #[agx (Xa l0 X5) ((Xa l0 X5).f1) ((Xa l0 X5).f7)] (by rfl) rfl rfl zb0 ?_
         with_reducible refine (Y0.calls k1 ((Xa l0 X5).f0) ((Xa l0 X5).f1) ((Xa l0 X5).f2) ((Xa l0 X5).f3) ((Xa l0 X5).f4) ((Xa l0 X5).f5) ((Xa l0 X5).f6) ((Xa l0 X5).f7) true _ A5.out).mono ?_
         rintro e w12 ⟨rfl, hb⟩; refine ⟨_, rfl, ?_⟩; have n0_ := az (Xe zb5 hb); clear HB; have HB := n0_
         clear n0_;(try clear hb);(try clear hb2);(try clear hk);(try clear hi)
         have q13 : (X5 : Int) ≤ ((l0.length : Int) : Int) := of_decide_eq_true zb9; obtain ⟨i013, hi013, _, hsz13, _⟩ := info_parts FP; have hroom13 : l0.length ≤ c0 := HC0.out; have hC13 : Kd.C k41 _ (some F5) l0.length l0 := HR0.out; have hcut13 := Xhk (P := Try.prog) 34 41 .i64 Try.underlying34 hi013 (some F5) l0.length c0 X5 (of_decide_eq_true zb9) q13 hroom13; have hr13 := Kd.Xb1 (m := (X5 : Int).toNat) hC13 (by omega)
         have hy13 : IW.length = (X5 : Int).toNat := (by rw [Ny270.out, List.length_take]; omega)
         rw [← Ny270.out] at hr13; rw [← hy13] at hcut13; have Xlh := az hr13; have XfJ := az (show IW.length ≤ c0 from by omega); clear hr13 hC13 hroom13 hi013 hsz13; have KY13 := az hy13; clear hy13; replace q13 := eq_true q13; refine hK.out _ _ ⟨(cb HB hw267_0 :), (cb HB hw267_1 :), (cb HB hw267_2 :), (cb HB hw267_3 :), (cb HB hw267_4 :), (cb HB hw267_5 :), (cb HB hw267_6 :), (cb HB hw267_7 :), (cb HB hw269_0 :), (cb HB hw269_1 :), (cb HB hw269_2 :), (cb HB hw269_3 :), (cb HB hw269_4 :), (cb HB hw269_5 :), (cb HB hw269_6 :), (cb HB hw269_7 :), (cb HB hw274_0 :), (cb HB hw274_1 :), (cb HB hw274_2 :), (cb HB hw274_3 :), (cb HB hw274_4 :), (cb HB hw274_5 :), (cb HB hw274_6 :), (cb HB hw274_7 :), (cb HB hw276_0 :), (cb HB hw276_1 :), (cb HB hw276_2 :), (cb HB hw276_3 :), (cb HB hw276_4 :), (cb HB hw276_5 :), (cb HB hw276_6 :), (cb HB hw276_7 :)⟩ (fun hHeld => ?_); clear hK K; refine YP (a' := ?_) ?_ ?_; rotate_left
         ·show Act.put _ (some 14) _ = _
          simp only [Act.put, List.setIfInBounds_toArray, List.set_cons_zero, List.set_cons_succ, XG, XW]
          rfl
         refine pu 5 15 Em HT_ ?_; refine pu 6 16 En HT_ ?_; refine pu 7 17 Eo HT_ ?_; refine pu 8 18 Ep HT_ ?_; refine pu 9 19 LA HT_ ?_; refine pu 10 20 LC HT_ ?_; refine pu 12 22 O7 HT_ ?_; refine pu 13 23 O8 HT_ ?_; refine pu 14 24 O9 HT_ ?_; refine pu 15 25 OA HT_ ?_; refine pu 16 26 OB HT_ ?_; refine pu 17 27 OC HT_ ?_; refine pu 18 28 OD HT_ ?_; refine tk 11 21 LD HT_ HW_ hHeld ?_; refine tk 19 29 LF HT_ HW_ hHeld ?_; refine Vr (i := 20) (N := some 30) LG rfl rfl (Zf HT_.out zb13) (by decide) (fun K hK => ?_); refine Ji Try.func84 zb13 rfl #[.slice (some F5) IW.length c0, .int .i64 ((Xa l0 X5).f1)] (by rfl) rfl rfl zb0 ?_
         with_reducible refine (Xu.calls k1 _ _ IW ((Xa l0 X5).f1) Pd _ ?side1 ?side2 A9.out).mono ?_
         (case side1 => exact zb131)
         (case side2 => exact XfJ.out)
         rintro e w' ⟨rfl, ⟨nd, rfl⟩⟩; refine ⟨_, rfl, ?_⟩; refine hK.out _ _ ⟨(cb HB hw267_0 :), (cb HB hw267_1 :), (cb HB hw267_2 :), (cb HB hw267_3 :), (cb HB hw267_4 :), (cb HB hw267_5 :), (cb HB hw267_6 :), (cb HB hw267_7 :), (cb HB hw269_0 :), (cb HB hw269_1 :), (cb HB hw269_2 :), (cb HB hw269_3 :), (cb HB hw269_4 :), (cb HB hw269_5 :), (cb HB hw269_6 :), (cb HB hw269_7 :), (cb HB hw274_0 :), (cb HB hw274_1 :), (cb HB hw274_2 :), (cb HB hw274_3 :), (cb HB hw274_4 :), (cb HB hw274_5 :), (cb HB hw274_6 :), (cb HB hw274_7 :), (cb HB hw276_0 :), (cb HB hw276_1 :), (cb HB hw276_2 :), (cb HB hw276_3 :), (cb HB hw276_4 :), (cb HB hw276_5 :), (cb HB hw276_6 :), (cb HB hw276_7 :)⟩ (fun hHeld => ?_); clear hK K; refine YP (a' := ?_) ?_ ?_; rotate_left
         ·show Act.put _ (some 30) _ = _
          simp only [Act.put, List.setIfInBounds_toArray, List.set_cons_zero, List.set_cons_succ, XG, XW]
          rfl
         refine pu 21 31 LH HT_ ?_; refine pu 22 32 LJ HT_ ?_; refine pu 23 33 LM HT_ ?_; refine pu 24 34 LP HT_ ?_; refine pu 25 35 LQ HT_ ?_; refine pu 26 36 LU HT_ ?_; refine pu 27 37 LV HT_ ?_; refine pu 29 39 Xeg HT_ ?_; refine tk 28 38 LW HT_ HW_ hHeld ?_; refine pu 30 40 LX HT_ ?_; refine pu 31 41 LY HT_ ?_; refine J4 (J9 HT_.out zb13) ?_
         try go_wp2
         go_meet
         case rel => exact ⟨_, (decide (((Xa l0 X5).f7) > X5)), zb12, H', ⟨zb154⟩, ⟨zb5⟩⟩
        ·rw [if_neg c10] at H
         have MN : (((Xa l0 X5).f6) == Pd) = false := beq_eq_false_iff_ne.mpr c10; have Be : (((Xa l0 X5).f6) != Pd) = true := bne_iff_ne.mpr c10; have H' := az H; clear H
         try go_wp2
         have n0_ := az (Yt HB.out); clear HB; have HB := n0_; clear n0_; have Ro : 0 ≤ (X5 : Int) := of_decide_eq_true zb9; have Rp : X5 < (l0.length : Int) := of_decide_eq_true zb9; obtain ⟨F5, XfG, VU, VV, VW, VX, VY, VZ, Da, Db⟩ := YN HR0.out X5 Ro Rp; have hw267_7 := Db; have hw267_6 := Da; have hw267_5 := VZ; have hw267_4 := VY; have hw267_3 := VX; have hw267_2 := VW; have hw267_1 := VV; have hw267_0 := VU
         cases XfG
         replace VU := cb HB VU; replace VV := cb HB VV; replace VW := cb HB VW; replace VX := cb HB VX; replace VY := cb HB VY; replace VZ := cb HB VZ; replace Da := cb HB Da; replace Db := cb HB Db; replace Ro := eq_true Ro; replace Rp := eq_true Rp; have Xal : 0 ≤ (X5 : Int) := of_decide_eq_true zb9; have Xam : X5 < (l0.length : Int) := of_decide_eq_true zb9; obtain ⟨XfH, XmW, GU, GV, GX, GY, GZ, Ua, Ub, Uc⟩ := YN HR0.out X5 Xal Xam; have hw269_7 := Uc; have hw269_6 := Ub; have hw269_5 := Ua; have hw269_4 := GZ; have hw269_3 := GY; have hw269_2 := GX; have hw269_1 := GV; have hw269_0 := GU
         obtain rfl : F5 = XfH := (by injection XmW)
         replace GU := cb HB GU; replace GV := cb HB GV; replace GX := cb HB GX; replace GY := cb HB GY; replace GZ := cb HB GZ; replace Ua := cb HB Ua; replace Ub := cb HB Ub; replace Uc := cb HB Uc; replace Xal := eq_true Xal; replace Xam := eq_true Xam; have Xan : 0 ≤ (X5 : Int) := of_decide_eq_true zb9; have Xao : X5 < (l0.length : Int) := of_decide_eq_true zb9; obtain ⟨XfI, XmX, Ud, Ue, Uf, Ug, Uh, Ui, Uj, Uk⟩ := YN HR0.out X5 Xan Xao; have hw274_7 := Uk; have hw274_6 := Uj; have hw274_5 := Ui; have hw274_4 := Uh; have hw274_3 := Ug; have hw274_2 := Uf; have hw274_1 := Ue; have hw274_0 := Ud
         obtain rfl : F5 = XfI := (by injection XmX)
         replace Ud := cb HB Ud; replace Ue := cb HB Ue; replace Uf := cb HB Uf; replace Ug := cb HB Ug; replace Uh := cb HB Uh; replace Ui := cb HB Ui; replace Uj := cb HB Uj; replace Uk := cb HB Uk; replace Xan := eq_true Xan; replace Xao := eq_true Xao; refine ZR (n := 32) (S := fun w' => r8 w' (F5.add ((X5).toNat * 8)) (Xa l0 X5) (r8 w' (F5.add ((X5).toNat * 8)) (Xa l0 X5) (r8t w' (F5.add ((X5).toNat * 8)) (Xa l0 X5)))) (ds := []) Ef zb13 rfl rfl ⟨(cb HB hw267_0), (cb HB hw267_1), (cb HB hw267_2), (cb HB hw267_3), (cb HB hw267_4), (cb HB hw267_5), (cb HB hw267_6), (cb HB hw267_7), (cb HB hw269_0), (cb HB hw269_1), (cb HB hw269_2), (cb HB hw269_3), (cb HB hw269_4), (cb HB hw269_5), (cb HB hw269_6), (cb HB hw269_7), (cb HB hw274_0), (cb HB hw274_1), (cb HB hw274_2), (cb HB hw274_3), (cb HB hw274_4), (cb HB hw274_5), (cb HB hw274_6), (cb HB hw274_7)⟩ (fun hHeld => ?_); refine ZV Xk.Xpu Xk.Xhj (fun HT_ HW_ => ?_); generalize wr.drew = w14 at HB VU VV VW VX VY VZ Da Db GU GV GX GY GZ Ua Ub Uc Ud Ue Uf Ug Uh Ui Uj Uk hHeld ⊢; refine pu 0 10 Eg HT_ ?_; refine pu 1 11 Eh HT_ ?_; refine pu 2 12 Ei HT_ ?_; refine tk 3 13 Ej HT_ HW_ hHeld ?_; refine Vr (i := 4) (N := some 14) El rfl rfl (Zf HT_.out zb13) (by decide) (fun K hK => ?_); refine Ji Try.func83 zb13 rfl #[agx (Xa l0 X5) ((Xa l0 X5).f1) ((Xa l0 X5).f7)] (by rfl) rfl rfl zb0 ?_
         with_reducible refine (Y0.calls k1 ((Xa l0 X5).f0) ((Xa l0 X5).f1) ((Xa l0 X5).f2) ((Xa l0 X5).f3) ((Xa l0 X5).f4) ((Xa l0 X5).f5) ((Xa l0 X5).f6) ((Xa l0 X5).f7) true _ A5.out).mono ?_
         rintro e w15 ⟨rfl, hb⟩; refine ⟨_, rfl, ?_⟩; have n0_ := az (Xe zb5 hb); clear HB; have HB := n0_
         clear n0_;(try clear hb);(try clear hb2);(try clear hk);(try clear hi)
         have q16 : (X5 : Int) ≤ ((l0.length : Int) : Int) := of_decide_eq_true zb9; obtain ⟨i016, hi016, _, hsz16, _⟩ := info_parts FP; have hroom16 : l0.length ≤ c0 := HC0.out; have hC16 : Kd.C k41 _ (some F5) l0.length l0 := HR0.out; have hcut16 := Xhk (P := Try.prog) 34 41 .i64 Try.underlying34 hi016 (some F5) l0.length c0 X5 (of_decide_eq_true zb9) q16 hroom16; have hr16 := Kd.Xb1 (m := (X5 : Int).toNat) hC16 (by omega)
         have hy16 : IW.length = (X5 : Int).toNat := (by rw [Ny270.out, List.length_take]; omega)
         rw [← Ny270.out] at hr16; rw [← hy16] at hcut16; have Xlh := az hr16; have XfJ := az (show IW.length ≤ c0 from by omega); clear hr16 hC16 hroom16 hi016 hsz16; have KY16 := az hy16; clear hy16; replace q16 := eq_true q16; refine hK.out _ _ ⟨(cb HB hw267_0 :), (cb HB hw267_1 :), (cb HB hw267_2 :), (cb HB hw267_3 :), (cb HB hw267_4 :), (cb HB hw267_5 :), (cb HB hw267_6 :), (cb HB hw267_7 :), (cb HB hw269_0 :), (cb HB hw269_1 :), (cb HB hw269_2 :), (cb HB hw269_3 :), (cb HB hw269_4 :), (cb HB hw269_5 :), (cb HB hw269_6 :), (cb HB hw269_7 :), (cb HB hw274_0 :), (cb HB hw274_1 :), (cb HB hw274_2 :), (cb HB hw274_3 :), (cb HB hw274_4 :), (cb HB hw274_5 :), (cb HB hw274_6 :), (cb HB hw274_7 :)⟩ (fun hHeld => ?_); clear hK K; refine YP (a' := ?_) ?_ ?_; rotate_left
         ·show Act.put _ (some 14) _ = _
          simp only [Act.put, List.setIfInBounds_toArray, List.set_cons_zero, List.set_cons_succ, XG, XW]
          rfl
         refine pu 5 15 Em HT_ ?_; refine pu 6 16 En HT_ ?_; refine pu 7 17 Eo HT_ ?_; refine pu 8 18 Ep HT_ ?_; refine pu 9 19 LA HT_ ?_; refine pu 10 20 LC HT_ ?_; refine pu 12 22 O7 HT_ ?_; refine pu 13 23 O8 HT_ ?_; refine pu 14 24 O9 HT_ ?_; refine pu 15 25 OA HT_ ?_; refine pu 16 26 OB HT_ ?_; refine pu 17 27 OC HT_ ?_; refine pu 18 28 OD HT_ ?_; refine tk 11 21 LD HT_ HW_ hHeld ?_; refine tk 19 29 LF HT_ HW_ hHeld ?_; refine Vr (i := 20) (N := some 30) LG rfl rfl (Zf HT_.out zb13) (by decide) (fun K hK => ?_); refine Ji Try.func84 zb13 rfl #[.slice (some F5) IW.length c0, .int .i64 ((Xa l0 X5).f1)] (by rfl) rfl rfl zb0 ?_
         with_reducible refine (Xu.calls k1 _ _ IW ((Xa l0 X5).f1) Pd _ ?side1 ?side2 A9.out).mono ?_
         (case side1 => exact zb131)
         (case side2 => exact XfJ.out)
         rintro e w' ⟨rfl, ⟨nd, rfl⟩⟩; refine ⟨_, rfl, ?_⟩; refine hK.out _ _ ⟨(cb HB hw267_0 :), (cb HB hw267_1 :), (cb HB hw267_2 :), (cb HB hw267_3 :), (cb HB hw267_4 :), (cb HB hw267_5 :), (cb HB hw267_6 :), (cb HB hw267_7 :), (cb HB hw269_0 :), (cb HB hw269_1 :), (cb HB hw269_2 :), (cb HB hw269_3 :), (cb HB hw269_4 :), (cb HB hw269_5 :), (cb HB hw269_6 :), (cb HB hw269_7 :), (cb HB hw274_0 :), (cb HB hw274_1 :), (cb HB hw274_2 :), (cb HB hw274_3 :), (cb HB hw274_4 :), (cb HB hw274_5 :), (cb HB hw274_6 :), (cb HB hw274_7 :)⟩ (fun hHeld => ?_); clear hK K; refine YP (a' := ?_) ?_ ?_; rotate_left
         ·show Act.put _ (some 30) _ = _
          simp only [Act.put, List.setIfInBounds_toArray, List.set_cons_zero, List.set_cons_succ, XG, XW]
          rfl
         refine pu 21 31 LH HT_ ?_; refine pu 22 32 LJ HT_ ?_; refine pu 23 33 LM HT_ ?_; refine pn 24 34 LP HT_ ?_; refine pn 25 35 LQ HT_ ?_; refine pn 26 36 LU HT_ ?_; refine pn 27 37 LV HT_ ?_; refine pn 28 38 OE HT_ ?_; refine pn 29 39 LW HT_ ?_; refine pn 30 40 LX HT_ ?_; refine pu 31 41 LY HT_ ?_; refine J4 (J9 HT_.out zb13) ?_
         try go_wp2
         go_meet
         case rel => exact ⟨_, (true), zb12, H', ⟨zb154⟩, ⟨zb5⟩⟩
       ·rw [if_neg c8] at H
        exact absurd H (by simp)
      ·replace c6 := Bool.eq_false_iff.mpr c6
       subst c6
       have H1 : (Xk.j1 k1 l0 X5 true) = some r := by rw [if_neg (show ¬ (false = true) by decide)] at H; exact H
       clear H; have H := H1; clear H1; have H' := az H; clear H
       try go_wp2
       have n0_ := az (Yt HB.out); clear HB; have HB := n0_; clear n0_; have Ro : 0 ≤ (X5 : Int) := of_decide_eq_true zb9; have Rp : X5 < (l0.length : Int) := of_decide_eq_true zb9; obtain ⟨F5, XfG, VU, VV, VW, VX, VY, VZ, Da, Db⟩ := YN HR0.out X5 Ro Rp; have hw267_7 := Db; have hw267_6 := Da; have hw267_5 := VZ; have hw267_4 := VY; have hw267_3 := VX; have hw267_2 := VW; have hw267_1 := VV; have hw267_0 := VU
       cases XfG
       replace VU := cb HB VU; replace VV := cb HB VV; replace VW := cb HB VW; replace VX := cb HB VX; replace VY := cb HB VY; replace VZ := cb HB VZ; replace Da := cb HB Da; replace Db := cb HB Db; replace Ro := eq_true Ro; replace Rp := eq_true Rp; refine ZR (n := 32) (S := fun w' => r8t w' (F5.add ((X5).toNat * 8)) (Xa l0 X5)) (ds := []) Ef zb13 rfl rfl ⟨(cb HB hw267_0), (cb HB hw267_1), (cb HB hw267_2), (cb HB hw267_3), (cb HB hw267_4), (cb HB hw267_5), (cb HB hw267_6), (cb HB hw267_7)⟩ (fun hHeld => ?_); refine ZV Xk.Xpu Xk.Xhj (fun HT_ HW_ => ?_); generalize wr.drew = w17 at HB VU VV VW VX VY VZ Da Db hHeld ⊢; refine pu 0 10 Eg HT_ ?_; refine pu 1 11 Eh HT_ ?_; refine pu 2 12 Ei HT_ ?_; refine tk 3 13 Ej HT_ HW_ hHeld ?_; refine Vr (i := 4) (N := some 14) El rfl rfl (Zf HT_.out zb13) (by decide) (fun K hK => ?_); refine Ji Try.func83 zb13 rfl #[agx (Xa l0 X5) ((Xa l0 X5).f1) ((Xa l0 X5).f7)] (by rfl) rfl rfl zb0 ?_
       with_reducible refine (Y0.calls k1 ((Xa l0 X5).f0) ((Xa l0 X5).f1) ((Xa l0 X5).f2) ((Xa l0 X5).f3) ((Xa l0 X5).f4) ((Xa l0 X5).f5) ((Xa l0 X5).f6) ((Xa l0 X5).f7) false _ A5.out).mono ?_
       rintro e w18 ⟨rfl, hb⟩; refine ⟨_, rfl, ?_⟩; have n0_ := az (Xe zb5 hb); clear HB; have HB := n0_
       clear n0_;(try clear hb);(try clear hb2);(try clear hk);(try clear hi)
       refine hK.out _ _ ⟨(cb HB hw267_0 :), (cb HB hw267_1 :), (cb HB hw267_2 :), (cb HB hw267_3 :), (cb HB hw267_4 :), (cb HB hw267_5 :), (cb HB hw267_6 :), (cb HB hw267_7 :)⟩ (fun hHeld => ?_); clear hK K; refine YP (a' := ?_) ?_ ?_; rotate_left
       ·show Act.put _ (some 14) _ = _
        simp only [Act.put, List.setIfInBounds_toArray, List.set_cons_zero, List.set_cons_succ, XG, XW]
        rfl
       refine pu 5 15 Em HT_ ?_; refine pu 6 16 En HT_ ?_; refine pn 7 17 Eo HT_ ?_; refine pn 8 18 Ep HT_ ?_; refine pn 9 19 LA HT_ ?_; refine pn 10 20 LC HT_ ?_; refine pn 11 21 XdZ HT_ ?_; refine pn 12 22 Xea HT_ ?_; refine pn 13 23 Xeb HT_ ?_; refine pn 14 24 Xec HT_ ?_; refine pn 15 25 Xed HT_ ?_; refine pn 16 26 Xee HT_ ?_; refine pn 17 27 Xef HT_ ?_; refine pn 18 28 LD HT_ ?_; refine pn 19 29 LF HT_ ?_; refine pn 20 30 LG HT_ ?_; refine pn 21 31 LH HT_ ?_; refine pu 22 32 LJ HT_ ?_; refine pu 23 33 LM HT_ ?_; refine pn 24 34 LP HT_ ?_; refine pn 25 35 LQ HT_ ?_; refine pn 26 36 LU HT_ ?_; refine pn 27 37 LV HT_ ?_; refine pn 28 38 OE HT_ ?_; refine pn 29 39 LW HT_ ?_; refine pn 30 40 LX HT_ ?_; refine pu 31 41 LY HT_ ?_; refine J4 (J9 HT_.out zb13) ?_
       try go_wp2
       go_meet
       case rel => exact ⟨_, (true), zb12, H', ⟨zb154⟩, ⟨zb5⟩⟩
     ·rw [if_neg c4] at H
      exact absurd H (by simp)
    case rest =>
     clear HC3;(try clear c1);(try clear q1);(try clear p2);(try clear q2);(try clear hx2);(try clear c4);(try clear c6);(try clear c8);(try clear c10);(try clear MN);(try clear Be);(try clear q16);(try clear VU);(try clear VV);(try clear VW);(try clear VX);(try clear VY);(try clear VZ);(try clear Da);(try clear Db);(try clear GU);(try clear GV);(try clear GX);(try clear GY);(try clear GZ);(try clear Ua);(try clear Ub);(try clear Uc);(try clear Ud);(try clear Ue);(try clear Uf);(try clear Ug);(try clear Uh);(try clear Ui);(try clear Uj);(try clear Uk);(try clear Ro);(try clear Xal);(try clear Xan);(try clear q16);(try clear Rp);(try clear Xam);(try clear Xao)
     obtain ⟨kq, XcI, rfl, HA, HJ2, HB⟩ := hcut
     cases kq with
     | zero => exact absurd HA.out (by simp [Xk.j1])
     | succ kj2 =>
      have H := HA.out; clear HA; simp only [Xk.j1] at H
      by_cases c19 : XcI = true
      ·subst c19
       have H1 : (some false) = some r := by rw [if_pos rfl] at H; exact H
       clear H; have H := H1; clear H1; obtain rfl := Option.some.inj H
       go_wp2
       go_ret
       exact ⟨zb11, zb5⟩
      ·replace c19 := Bool.eq_false_iff.mpr c19
       subst c19
       have H1 : (if 0 ≤ X5 then (if X5 < (l0.length : Int) then (if ((Xa l0 X5).f7) > 0 then (if 0 ≤ (wrap64 (((Xa l0 X5).f7) - 1)) then (if (wrap64 (((Xa l0 X5).f7) - 1)) < (l0.length : Int) then (if ((Xa l0 (wrap64 (((Xa l0 X5).f7) - 1))).f1) = ((Xa l0 X5).f1) then (Xk.l0 kj2 l0 (wrap64 (X5 + 1))) else (some false)) else (none)) else (none)) else (Xk.l0 kj2 l0 (wrap64 (X5 + 1)))) else (none)) else (none)) = some r := by rw [if_neg (show ¬ (false = true) by decide)] at H; exact H
       clear H; have H := H1; clear H1
       by_cases c20 : 0 ≤ X5
       ·rw [if_pos c20] at H
        have Xs9 : decide (0 ≤ X5) = true := decide_eq_true c20; clear c20
        by_cases c21 : X5 < (l0.length : Int)
        ·rw [if_pos c21] at H
         have c21b0 : decide (X5 < (l0.length : Int)) = true := decide_eq_true c21; clear c21
         by_cases c22 : ((Xa l0 X5).f7) > 0
         ·rw [if_pos c22] at H
          have Ba : decide (0 < ((Xa l0 X5).f7)) = true := decide_eq_true c22; clear c22
          obtain ⟨M3, XcJ⟩ : ∃ j_ : Int, (wrap64 (((Xa l0 X5).f7) - 1)) = j_ := ⟨_, rfl⟩
          replace H : (if 0 ≤ (M3) then (if (M3) < (l0.length : Int) then (if ((Xa l0 (M3)).f1) = ((Xa l0 X5).f1) then (Xk.l0 kj2 l0 (wrap64 (X5 + 1))) else (some false)) else (none)) else (none)) = some r := by first | (rw [XcJ] at H; exact H) | (simp only [XcJ] at H ⊢; exact H)
          have hji23w : (IntKind.i64.wrap (((Xa l0 X5).f7) - 1)) = M3 := (XG _).trans XcJ
          by_cases c24 : 0 ≤ (M3)
          ·rw [if_pos c24] at H
           have c24b0 : decide (0 ≤ (M3)) = true := decide_eq_true c24; clear c24
           by_cases c25 : (M3) < (l0.length : Int)
           ·rw [if_pos c25] at H
            have c25b0 : decide ((M3) < (l0.length : Int)) = true := decide_eq_true c25; clear c25
            by_cases c26 : ((Xa l0 (M3)).f1) = ((Xa l0 X5).f1)
            ·rw [if_pos c26] at H
             have XsA : (((Xa l0 (M3)).f1) == ((Xa l0 X5).f1)) = true := beq_iff_eq.mpr c26; have XsB : (((Xa l0 (M3)).f1) != ((Xa l0 X5).f1)) = false := bne_eq_false_iff_eq.mpr c26; clear c26; have H' := az H; clear H
             try go_wp2
             have n0_ := az (Yt HB.out); clear HB; have HB := n0_; clear n0_; have Bf : 0 ≤ (X5 : Int) := of_decide_eq_true zb9; have Bg : X5 < (l0.length : Int) := of_decide_eq_true zb9; obtain ⟨Uw, XfK, Dt, Du, Dv, Dw, Dx, Dy, Dz, D5⟩ := YN HR0.out X5 Bf Bg; have hw277_7 := D5; have hw277_6 := Dz; have hw277_5 := Dy; have hw277_4 := Dx; have hw277_3 := Dw; have hw277_2 := Dv; have hw277_1 := Du; have hw277_0 := Dt
             cases XfK
             replace Dt := cb HB Dt; replace Du := cb HB Du; replace Dv := cb HB Dv; replace Dw := cb HB Dw; replace Dx := cb HB Dx; replace Dy := cb HB Dy; replace Dz := cb HB Dz; replace D5 := cb HB D5; replace Bf := eq_true Bf; replace Bg := eq_true Bg; have XaX : 0 ≤ (X5 : Int) := of_decide_eq_true zb9; have XaY : X5 < (l0.length : Int) := of_decide_eq_true zb9; obtain ⟨XfL, Xna, UF, UG, UH, UI, UJ, UK, UL, UM⟩ := YN HR0.out X5 XaX XaY; have hw278_7 := UM; have hw278_6 := UL; have hw278_5 := UK; have hw278_4 := UJ; have hw278_3 := UI; have hw278_2 := UH; have hw278_1 := UG; have hw278_0 := UF
             obtain rfl : Uw = XfL := (by injection Xna)
             replace UF := cb HB UF; replace UG := cb HB UG; replace UH := cb HB UH; replace UI := cb HB UI; replace UJ := cb HB UJ; replace UK := cb HB UK; replace UL := cb HB UL; replace UM := cb HB UM; replace XaX := eq_true XaX; replace XaY := eq_true XaY; have XaZ : 0 ≤ ((M3) : Int) := of_decide_eq_true zb9; have Xba : (M3) < (l0.length : Int) := of_decide_eq_true zb9; obtain ⟨XfM, Xnb, UN, UO, UQ, UR, UT, UU, UW, UX⟩ := YN HR0.out (M3) XaZ Xba; have hw279_7 := UX; have hw279_6 := UW; have hw279_5 := UU; have hw279_4 := UT; have hw279_3 := UR; have hw279_2 := UQ; have hw279_1 := UO; have hw279_0 := UN
             obtain rfl : Uw = XfM := (by injection Xnb)
             replace UN := cb HB UN; replace UO := cb HB UO; replace UQ := cb HB UQ; replace UR := cb HB UR; replace UT := cb HB UT; replace UU := cb HB UU; replace UW := cb HB UW; replace UX := cb HB UX; replace XaZ := eq_true XaZ; replace Xba := eq_true Xba; have Xbb : 0 ≤ (X5 : Int) := of_decide_eq_true zb9; have Xbc : X5 < (l0.length : Int) := of_decide_eq_true zb9; obtain ⟨XfN, Xnc, UY, UZ, Ma, Mc, Md, Me, Mf, Mg⟩ := YN HR0.out X5 Xbb Xbc; have hw280_7 := Mg; have hw280_6 := Mf; have hw280_5 := Me; have hw280_4 := Md; have hw280_3 := Mc; have hw280_2 := Ma; have hw280_1 := UZ; have hw280_0 := UY
             obtain rfl : Uw = XfN := (by injection Xnc)
             replace UY := cb HB UY; replace UZ := cb HB UZ; replace Ma := cb HB Ma; replace Mc := cb HB Mc; replace Md := cb HB Md; replace Me := cb HB Me; replace Mf := cb HB Mf; replace Mg := cb HB Mg; replace Xbb := eq_true Xbb; replace Xbc := eq_true Xbc; refine ZR (n := 24) (S := fun w' => r8 w' (Uw.add ((X5).toNat * 8)) (Xa l0 X5) (r8 w' (Uw.add ((X5).toNat * 8)) (Xa l0 X5) (r8 w' (Uw.add (((M3)).toNat * 8)) (Xa l0 (M3)) (r8t w' (Uw.add ((X5).toNat * 8)) (Xa l0 X5))))) (ds := []) LZ zb13 rfl rfl ⟨(cb HB hw277_0), (cb HB hw277_1), (cb HB hw277_2), (cb HB hw277_3), (cb HB hw277_4), (cb HB hw277_5), (cb HB hw277_6), (cb HB hw277_7), (cb HB hw278_0), (cb HB hw278_1), (cb HB hw278_2), (cb HB hw278_3), (cb HB hw278_4), (cb HB hw278_5), (cb HB hw278_6), (cb HB hw278_7), (cb HB hw279_0), (cb HB hw279_1), (cb HB hw279_2), (cb HB hw279_3), (cb HB hw279_4), (cb HB hw279_5), (cb HB hw279_6), (cb HB hw279_7), (cb HB hw280_0), (cb HB hw280_1), (cb HB hw280_2), (cb HB hw280_3), (cb HB hw280_4), (cb HB hw280_5), (cb HB hw280_6), (cb HB hw280_7)⟩ (fun hHeld => ?_); refine ZV Xk.XgP Xk.Xay (fun HT_ HW_ => ?_); generalize wc.drew = w27 at HB Dt Du Dv Dw Dx Dy Dz D5 UF UG UH UI UJ UK UL UM UN UO UQ UR UT UU UW UX UY UZ Ma Mc Md Me Mf Mg hHeld ⊢; refine pu 0 42 Ta HT_ ?_
             refine pu 1 43 Tc HT_ ?_; refine pu 2 44 Td HT_ ?_; refine pu 3 45 Te HT_ ?_; refine tk 4 46 Tf HT_ HW_ hHeld ?_; refine pu 5 47 Tg HT_ ?_; refine pu 6 48 Ti HT_ ?_; refine pu 7 49 Tj HT_ ?_; refine pu 8 50 Tk HT_ ?_; refine pu 9 51 Tm HT_ ?_; refine pu 10 52 Tn HT_ ?_; refine pu 11 53 Tp HT_ ?_; refine pu 17 59 OG HT_ ?_; refine pu 18 60 OH HT_ ?_; refine pu 19 61 OI HT_ ?_; refine pu 20 62 OJ HT_ ?_; refine tk 12 54 OL HT_ HW_ hHeld ?_; refine pu 13 55 OM HT_ ?_; refine pu 14 56 OO HT_ ?_; refine pu 15 57 OP HT_ ?_; refine tk 16 58 Tq HT_ HW_ hHeld ?_; refine tk 21 63 Tt HT_ HW_ hHeld ?_; refine pu 22 64 Tu HT_ ?_; refine pu 23 65 Tv HT_ ?_; refine J4 (J9 HT_.out zb13) ?_
             try go_wp2
             go_roundg kj2
             case measure => have := HK1.out; have := HJ2.out; omega
             case rel => exact ⟨(wrap64 (X5 + 1)), zb12, H', ⟨by have := HK1.out; have := HJ2.out; omega⟩, ⟨zb5⟩⟩
            ·rw [if_neg c26] at H
             have XsA : (((Xa l0 (M3)).f1) == ((Xa l0 X5).f1)) = false := beq_eq_false_iff_ne.mpr c26; have XsB : (((Xa l0 (M3)).f1) != ((Xa l0 X5).f1)) = true := bne_iff_ne.mpr c26; obtain rfl := Option.some.inj H
             try go_wp2
             have n0_ := az (Yt HB.out); clear HB; have HB := n0_; clear n0_; have Bf : 0 ≤ (X5 : Int) := of_decide_eq_true zb9; have Bg : X5 < (l0.length : Int) := of_decide_eq_true zb9; obtain ⟨Uw, XfK, Dt, Du, Dv, Dw, Dx, Dy, Dz, D5⟩ := YN HR0.out X5 Bf Bg; have hw277_7 := D5; have hw277_6 := Dz; have hw277_5 := Dy; have hw277_4 := Dx; have hw277_3 := Dw; have hw277_2 := Dv; have hw277_1 := Du; have hw277_0 := Dt
             cases XfK
             replace Dt := cb HB Dt; replace Du := cb HB Du; replace Dv := cb HB Dv; replace Dw := cb HB Dw; replace Dx := cb HB Dx; replace Dy := cb HB Dy; replace Dz := cb HB Dz; replace D5 := cb HB D5; replace Bf := eq_true Bf; replace Bg := eq_true Bg; have XaX : 0 ≤ (X5 : Int) := of_decide_eq_true zb9; have XaY : X5 < (l0.length : Int) := of_decide_eq_true zb9; obtain ⟨XfL, Xna, UF, UG, UH, UI, UJ, UK, UL, UM⟩ := YN HR0.out X5 XaX XaY; have hw278_7 := UM; have hw278_6 := UL; have hw278_5 := UK; have hw278_4 := UJ; have hw278_3 := UI; have hw278_2 := UH; have hw278_1 := UG; have hw278_0 := UF
             obtain rfl : Uw = XfL := (by injection Xna)
             replace UF := cb HB UF; replace UG := cb HB UG; replace UH := cb HB UH; replace UI := cb HB UI; replace UJ := cb HB UJ; replace UK := cb HB UK; replace UL := cb HB UL; replace UM := cb HB UM; replace XaX := eq_true XaX; replace XaY := eq_true XaY; have XaZ : 0 ≤ ((M3) : Int) := of_decide_eq_true zb9; have Xba : (M3) < (l0.length : Int) := of_decide_eq_true zb9; obtain ⟨XfM, Xnb, UN, UO, UQ, UR, UT, UU, UW, UX⟩ := YN HR0.out (M3) XaZ Xba; have hw279_7 := UX; have hw279_6 := UW; have hw279_5 := UU; have hw279_4 := UT; have hw279_3 := UR; have hw279_2 := UQ; have hw279_1 := UO; have hw279_0 := UN
             obtain rfl : Uw = XfM := (by injection Xnb)
             replace UN := cb HB UN; replace UO := cb HB UO; replace UQ := cb HB UQ; replace UR := cb HB UR; replace UT := cb HB UT; replace UU := cb HB UU; replace UW := cb HB UW; replace UX := cb HB UX; replace XaZ := eq_true XaZ; replace Xba := eq_true Xba; have Xbb : 0 ≤ (X5 : Int) := of_decide_eq_true zb9; have Xbc : X5 < (l0.length : Int) := of_decide_eq_true zb9; obtain ⟨XfN, Xnc, UY, UZ, Ma, Mc, Md, Me, Mf, Mg⟩ := YN HR0.out X5 Xbb Xbc; have hw280_7 := Mg; have hw280_6 := Mf; have hw280_5 := Me; have hw280_4 := Md; have hw280_3 := Mc; have hw280_2 := Ma; have hw280_1 := UZ; have hw280_0 := UY
             obtain rfl : Uw = XfN := (by injection Xnc)
             replace UY := cb HB UY; replace UZ := cb HB UZ; replace Ma := cb HB Ma; replace Mc := cb HB Mc; replace Md := cb HB Md; replace Me := cb HB Me; replace Mf := cb HB Mf; replace Mg := cb HB Mg; replace Xbb := eq_true Xbb; replace Xbc := eq_true Xbc; refine ZR (n := 24) (S := fun w' => r8 w' (Uw.add ((X5).toNat * 8)) (Xa l0 X5) (r8 w' (Uw.add ((X5).toNat * 8)) (Xa l0 X5) (r8 w' (Uw.add (((M3)).toNat * 8)) (Xa l0 (M3)) (r8t w' (Uw.add ((X5).toNat * 8)) (Xa l0 X5))))) (ds := []) LZ zb13 rfl rfl ⟨(cb HB hw277_0), (cb HB hw277_1), (cb HB hw277_2), (cb HB hw277_3), (cb HB hw277_4), (cb HB hw277_5), (cb HB hw277_6), (cb HB hw277_7), (cb HB hw278_0), (cb HB hw278_1), (cb HB hw278_2), (cb HB hw278_3), (cb HB hw278_4), (cb HB hw278_5), (cb HB hw278_6), (cb HB hw278_7), (cb HB hw279_0), (cb HB hw279_1), (cb HB hw279_2), (cb HB hw279_3), (cb HB hw279_4), (cb HB hw279_5), (cb HB hw279_6), (cb HB hw279_7), (cb HB hw280_0), (cb HB hw280_1), (cb HB hw280_2), (cb HB hw280_3), (cb HB hw280_4), (cb HB hw280_5), (cb HB hw280_6), (cb HB hw280_7)⟩ (fun hHeld => ?_); refine ZV Xk.XgP Xk.Xay (fun HT_ HW_ => ?_); generalize wc.drew = w28 at HB Dt Du Dv Dw Dx Dy Dz D5 UF UG UH UI UJ UK UL UM UN UO UQ UR UT UU UW UX UY UZ Ma Mc Md Me Mf Mg hHeld ⊢; refine pu 0 42 Ta HT_ ?_
             refine pu 1 43 Tc HT_ ?_; refine pu 2 44 Td HT_ ?_; refine pu 3 45 Te HT_ ?_; refine tk 4 46 Tf HT_ HW_ hHeld ?_; refine pu 5 47 Tg HT_ ?_; refine pu 6 48 Ti HT_ ?_; refine pu 7 49 Tj HT_ ?_; refine pu 8 50 Tk HT_ ?_; refine pu 9 51 Tm HT_ ?_; refine pu 10 52 Tn HT_ ?_; refine pu 11 53 Tp HT_ ?_; refine pu 17 59 OG HT_ ?_; refine pu 18 60 OH HT_ ?_; refine pu 19 61 OI HT_ ?_; refine pu 20 62 OJ HT_ ?_; refine tk 12 54 OL HT_ HW_ hHeld ?_; refine pu 13 55 OM HT_ ?_; refine pu 14 56 OO HT_ ?_; refine pu 15 57 OP HT_ ?_; refine tk 16 58 Tq HT_ HW_ hHeld ?_; refine tk 21 63 Tt HT_ HW_ hHeld ?_; refine pu 22 64 Tu HT_ ?_; refine pu 23 65 Tv HT_ ?_; refine J4 (J9 HT_.out zb13) ?_
             try go_wp2
             go_ret
             exact ⟨by first | rfl | (simp [Zz, Z0] <;> rfl) | (simp only [← XcJ]; first | rfl | (simp [Zz, Z0] <;> rfl)) | (simp [*, Zz, Z0] <;> rfl), zb5⟩
           ·rw [if_neg c25] at H
            exact absurd H (by simp)
          ·rw [if_neg c24] at H
           exact absurd H (by simp)
         ·rw [if_neg c22] at H
          have Ba : decide (0 < ((Xa l0 X5).f7)) = false := decide_eq_false c22; clear c22; have H' := az H; clear H
          try go_wp2
          have n0_ := az (Yt HB.out); clear HB; have HB := n0_; clear n0_; have Bf : 0 ≤ (X5 : Int) := of_decide_eq_true zb9; have Bg : X5 < (l0.length : Int) := of_decide_eq_true zb9; obtain ⟨Uw, XfK, Dt, Du, Dv, Dw, Dx, Dy, Dz, D5⟩ := YN HR0.out X5 Bf Bg; have hw277_7 := D5; have hw277_6 := Dz; have hw277_5 := Dy; have hw277_4 := Dx; have hw277_3 := Dw; have hw277_2 := Dv; have hw277_1 := Du; have hw277_0 := Dt
          cases XfK
          replace Dt := cb HB Dt; replace Du := cb HB Du; replace Dv := cb HB Dv; replace Dw := cb HB Dw; replace Dx := cb HB Dx; replace Dy := cb HB Dy; replace Dz := cb HB Dz; replace D5 := cb HB D5; replace Bf := eq_true Bf; replace Bg := eq_true Bg; refine ZR (n := 24) (S := fun w' => r8t w' (Uw.add ((X5).toNat * 8)) (Xa l0 X5)) (ds := []) LZ zb13 rfl rfl ⟨(cb HB hw277_0), (cb HB hw277_1), (cb HB hw277_2), (cb HB hw277_3), (cb HB hw277_4), (cb HB hw277_5), (cb HB hw277_6), (cb HB hw277_7)⟩ (fun hHeld => ?_); refine ZV Xk.XgP Xk.Xay (fun HT_ HW_ => ?_); generalize wc.drew = w29 at HB Dt Du Dv Dw Dx Dy Dz D5 hHeld ⊢; refine pu 0 42 Ta HT_ ?_; refine pu 1 43 Tc HT_ ?_; refine pu 2 44 Td HT_ ?_; refine pu 3 45 Te HT_ ?_; refine tk 4 46 Tf HT_ HW_ hHeld ?_; refine pu 5 47 Tg HT_ ?_; refine pu 6 48 Ti HT_ ?_; refine pn 7 49 Tj HT_ ?_; refine pn 8 50 Tk HT_ ?_; refine pn 9 51 Tm HT_ ?_; refine pn 10 52 Tn HT_ ?_; refine pn 11 53 Tp HT_ ?_; refine pn 12 54 Xeh HT_ ?_; refine pn 13 55 Xei HT_ ?_; refine pn 14 56 Xej HT_ ?_; refine pn 15 57 Xek HT_ ?_; refine pn 16 58 Xel HT_ ?_; refine pn 17 59 Xem HT_ ?_; refine pn 18 60 Xen HT_ ?_; refine pn 19 61 Xeo HT_ ?_; refine pn 20 62 Tq HT_ ?_; refine pn 21 63 Tt HT_ ?_; refine pn 22 64 Tu HT_ ?_; refine pu 23 65 Tv HT_ ?_
          refine J4 (J9 HT_.out zb13) ?_
          try go_wp2
          go_roundg kj2
          case measure => have := HK1.out; have := HJ2.out; omega
          case rel => exact ⟨(wrap64 (X5 + 1)), zb12, H', ⟨by have := HK1.out; have := HJ2.out; omega⟩, ⟨zb5⟩⟩
        ·rw [if_neg c21] at H
         exact absurd H (by simp)
       ·rw [if_neg c20] at H
        exact absurd H (by simp)
   ·rw [if_neg c2] at H
    have c2b0 : decide (X5 < (l0.length : Int)) = false := decide_eq_false c2; clear c2; obtain rfl := Option.some.inj H
    go_wp2
    go_ret
    exact ⟨zb11, zb5⟩
mutual
def Xw.l0 : Nat → List (S41) → Int → Option (Bool)
 | 0, _, _ => none
 | k + 1, x0, x3 => if x3 < (x0.length : Int) then (if 0 ≤ x3 then ((Y0.f k ((Xa x0 x3).f0) ((Xa x0 x3).f1) ((Xa x0 x3).f2) ((Xa x0 x3).f3) ((Xa x0 x3).f4) ((Xa x0 x3).f5) ((Xa x0 x3).f6) ((Xa x0 x3).f7)).bind fun Jo => (if Jo = true then (if x3 ≤ (x0.length : Int) then ((Xu.f k (x0.take (x3 : Int).toNat) ((Xa x0 x3).f1)).bind fun t305 => (if ((Xa x0 x3).f6) = t305 then (Xw.j1 k x0 x3 (decide (((Xa x0 x3).f7) > x3))) else (Xw.j1 k x0 x3 true))) else (none)) else (Xw.j1 k x0 x3 true))) else (none)) else (some (decide ((x0.length : Int) ≤ 150)))
def Xw.j1 : Nat → List (S41) → Int → Bool → Option (Bool)
 | 0, _, _, _ => none
 | k + 1, x0, x3, x41 => if x41 = true then (some false) else (if 0 ≤ x3 then (if x3 < (x0.length : Int) then (if ((Xa x0 x3).f7) > 0 then (if 0 ≤ (wrap64 (((Xa x0 x3).f7) - 1)) then (if (wrap64 (((Xa x0 x3).f7) - 1)) < (x0.length : Int) then (if ((Xa x0 (wrap64 (((Xa x0 x3).f7) - 1))).f1) = ((Xa x0 x3).f1) then (Xw.l0 k x0 (wrap64 (x3 + 1))) else (some false)) else (none)) else (none)) else (Xw.l0 k x0 (wrap64 (x3 + 1)))) else (none)) else (none))
end
def Xw.f (k : Nat) (l0 : List (S41)) : Option (Bool) := Xw.l0 k l0 0
theorem Xw.Gx : ∀ k, (∀ y0 y1, LeO (Xw.l0 k y0 y1) (Xw.l0 (k + 1) y0 y1)) ∧ (∀ y0 y1 y2, LeO (Xw.j1 k y0 y1 y2) (Xw.j1 (k + 1) y0 y1 y2))
 | 0 => ⟨fun _ _ r h => by simp [Xw.l0] at h, fun _ _ _ r h => by simp [Xw.j1] at h⟩
 | k + 1 => by
  obtain ⟨ih0, ih1⟩ := Xw.Gx k; refine ⟨?_, ?_⟩
  ·intro y0 y1
   unfold Xw.l0
   repeat' first
   | (with_reducible exact ih0 _ _)
   | (with_reducible exact ih1 _ _ _)
   | (with_reducible exact Y0.mono _ _ _ _ _ _ _ _ _)
   | (with_reducible exact Xu.mono _ _ _)
   | (with_reducible exact LeO.refl _)
   | (with_reducible exact LeO.none _)
   | (with_reducible refine LeO.ite ?_ ?_)
   | (with_reducible refine LeO.bind ?_ (fun _ => ?_))
   | exact ih0 _ _
   | exact ih1 _ _ _
   | exact Y0.mono _ _ _ _ _ _ _ _ _
   | exact Xu.mono _ _ _
   | exact LeO.none _
   | refine LeO.ite ?_ ?_
   | refine LeO.bind ?_ (fun _ => ?_)
  ·intro y0 y1 y2
   unfold Xw.j1
   repeat' first
   | (with_reducible exact ih0 _ _)
   | (with_reducible exact ih1 _ _ _)
   | (with_reducible exact Y0.mono _ _ _ _ _ _ _ _ _)
   | (with_reducible exact Xu.mono _ _ _)
   | (with_reducible exact LeO.refl _)
   | (with_reducible exact LeO.none _)
   | (with_reducible refine LeO.ite ?_ ?_)
   | (with_reducible refine LeO.bind ?_ (fun _ => ?_))
   | exact ih0 _ _
   | exact ih1 _ _ _
   | exact Y0.mono _ _ _ _ _ _ _ _ _
   | exact Xu.mono _ _ _
   | exact LeO.none _
   | refine LeO.ite ?_ ?_
   | refine LeO.bind ?_ (fun _ => ?_)
theorem Xw.mono : ∀ a0 k, LeO (Xw.f k a0) (Xw.f (k + 1) a0) := by
 intro a0 k; obtain ⟨ih0, ih1⟩ := Xw.Gx k
 unfold Xw.f
 repeat' first
  | (with_reducible exact ih0 _ _)
  | (with_reducible exact ih1 _ _ _)
  | (with_reducible exact Y0.mono _ _ _ _ _ _ _ _ _)
  | (with_reducible exact Xu.mono _ _ _)
  | (with_reducible exact LeO.refl _)
  | (with_reducible exact LeO.none _)
  | (with_reducible refine LeO.ite ?_ ?_)
  | (with_reducible refine LeO.bind ?_ (fun _ => ?_))
  | exact ih0 _ _
  | exact ih1 _ _ _
  | exact Y0.mono _ _ _ _ _ _ _ _ _
  | exact Xu.mono _ _ _
  | exact LeO.none _
  | refine LeO.ite ?_ ?_
  | refine LeO.bind ?_ (fun _ => ?_)
end Go.Proofs.Ytcefiblpnegepaa.Pr
