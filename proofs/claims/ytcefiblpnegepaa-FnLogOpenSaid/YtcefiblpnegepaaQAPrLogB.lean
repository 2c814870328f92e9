import Derived.Test.YtcefiblpnegepaaQAByq
import Derived.Test.YtcefiblpnegepaaQASx
import Derived.Test.YtcefiblpnegepaaQAPrNew
import Derived.Test.YtcefiblpnegepaaQASh
import Derived.Test.YtcefiblpnegepaaQAOks
namespace Go.Proofs.Ytcefiblpnegepaa.Pr
open Go.RowKit Go.PW Go.PL Go.PM
attribute [local go_sem] YB YC Zc Zd Yn Yo YD YE
set_option linter.unusedVariables false
set_option linter.unusedSimpArgs false
abbrev EY : Array Bool := #[false, false, false, false, false, false, false, false, false, false, false, false, false, false, false, false, false, false, false, false, false, false, false, false, false, false, false, false, false, false, false, false]
abbrev EZ : Array Bool := #[true, false, false, false, false, false, false, false, false, false, false, false, false, false, false, false, false, false, false, false, false, false, false, false, false, false, false, false, false, false, false, false]
abbrev Oa : Array Bool := #[true, true, false, false, false, false, false, false, false, false, false, false, false, false, false, false, false, false, false, false, false, false, false, false, false, false, false, false, false, false, false, false]
abbrev Ob : Array Bool := #[true, true, true, false, false, false, false, false, false, false, false, false, false, false, false, false, false, false, false, false, false, false, false, false, false, false, false, false, false, false, false, false]
abbrev Oc : Array Bool := #[true, true, true, true, false, false, false, false, false, false, false, false, false, false, false, false, false, false, false, false, false, false, false, false, false, false, false, false, false, false, false, false]
abbrev Od : Array Bool := #[true, true, true, true, true, false, false, false, false, false, false, false, false, false, false, false, false, false, false, false, false, false, false, false, false, false, false, false, false, false, false, false]
abbrev Oe : Array Bool := #[true, true, true, true, true, true, false, false, false, false, false, false, false, false, false, false, false, false, false, false, false, false, false, false, false, false, false, false, false, false, false, false]
abbrev Og : Array Bool := #[true, true, true, true, true, true, true, false, false, false, false, false, false, false, false, false, false, false, false, false, false, false, false, false, false, false, false, false, false, false, false, false]
abbrev Oh : Array Bool := #[true, true, true, true, true, true, true, true, false, false, false, false, false, false, false, false, false, false, false, false, false, false, false, false, false, false, false, false, false, false, false, false]
abbrev Oi : Array Bool := #[true, true, true, true, true, true, true, true, true, false, false, false, false, false, false, false, false, false, false, false, false, false, false, false, false, false, false, false, false, false, false, false]
abbrev Tk : Array Bool := #[true, true, true, true, true, true, true, true, true, true, false, false, false, false, false, false, false, false, false, false, false, false, false, false, false, false, false, false, false, false, false, false]
abbrev Tm : Array Bool := #[true, true, true, true, true, true, true, true, true, true, true, false, false, false, false, false, false, false, false, false, false, false, false, false, false, false, false, false, false, false, false, false]
abbrev Ij : Array Bool := #[true, true, true, true, true, true, true, true, true, true, true, false, true, false, false, false, false, false, false, false, false, false, false, false, false, false, false, false, false, false, false, false]
abbrev Xe2 : Array Bool := #[true, true, true, true, true, true, true, true, true, true, true, true, false, false, false, false, false, false, false, false, false, false, false, false, false, false, false, false, false, false, false, false]
abbrev Ik : Array Bool := #[true, true, true, true, true, true, true, true, true, true, true, false, true, true, false, false, false, false, false, false, false, false, false, false, false, false, false, false, false, false, false, false]
abbrev Xe3 : Array Bool := #[true, true, true, true, true, true, true, true, true, true, true, true, true, false, false, false, false, false, false, false, false, false, false, false, false, false, false, false, false, false, false, false]
abbrev Il : Array Bool := #[true, true, true, true, true, true, true, true, true, true, true, false, true, true, true, false, false, false, false, false, false, false, false, false, false, false, false, false, false, false, false, false]
abbrev Xe4 : Array Bool := #[true, true, true, true, true, true, true, true, true, true, true, true, true, true, false, false, false, false, false, false, false, false, false, false, false, false, false, false, false, false, false, false]
abbrev Im : Array Bool := #[true, true, true, true, true, true, true, true, true, true, true, false, true, true, true, true, false, false, false, false, false, false, false, false, false, false, false, false, false, false, false, false]
abbrev Xe5 : Array Bool := #[true, true, true, true, true, true, true, true, true, true, true, true, true, true, true, false, false, false, false, false, false, false, false, false, false, false, false, false, false, false, false, false]
abbrev Io : Array Bool := #[true, true, true, true, true, true, true, true, true, true, true, false, true, true, true, true, true, false, false, false, false, false, false, false, false, false, false, false, false, false, false, false]
abbrev Xe6 : Array Bool := #[true, true, true, true, true, true, true, true, true, true, true, true, true, true, true, true, false, false, false, false, false, false, false, false, false, false, false, false, false, false, false, false]
abbrev Ip : Array Bool := #[true, true, true, true, true, true, true, true, true, true, true, false, true, true, true, true, true, true, false, false, false, false, false, false, false, false, false, false, false, false, false, false]
abbrev Xe7 : Array Bool := #[true, true, true, true, true, true, true, true, true, true, true, true, true, true, true, true, true, false, false, false, false, false, false, false, false, false, false, false, false, false, false, false]
abbrev Iq : Array Bool := #[true, true, true, true, true, true, true, true, true, true, true, false, true, true, true, true, true, true, true, false, false, false, false, false, false, false, false, false, false, false, false, false]
abbrev Xe8 : Array Bool := #[true, true, true, true, true, true, true, true, true, true, true, true, true, true, true, true, true, true, false, false, false, false, false, false, false, false, false, false, false, false, false, false]
abbrev Tn : Array Bool := #[true, true, true, true, true, true, true, true, true, true, true, true, true, true, true, true, true, true, true, false, false, false, false, false, false, false, false, false, false, false, false, false]
abbrev Tp : Array Bool := #[true, true, true, true, true, true, true, true, true, true, true, true, true, true, true, true, true, true, true, true, false, false, false, false, false, false, false, false, false, false, false, false]
abbrev Tq : Array Bool := #[true, true, true, true, true, true, true, true, true, true, true, true, true, true, true, true, true, true, true, true, true, false, false, false, false, false, false, false, false, false, false, false]
abbrev Tt : Array Bool := #[true, true, true, true, true, true, true, true, true, true, true, true, true, true, true, true, true, true, true, true, true, true, false, false, false, false, false, false, false, false, false, false]
abbrev Tu : Array Bool := #[true, true, true, true, true, true, true, true, true, true, true, true, true, true, true, true, true, true, true, true, true, true, true, false, false, false, false, false, false, false, false, false]
abbrev Tv : Array Bool := #[true, true, true, true, true, true, true, true, true, true, true, true, true, true, true, true, true, true, true, true, true, true, true, true, false, false, false, false, false, false, false, false]
abbrev Tw : Array Bool := #[true, true, true, true, true, true, true, true, true, true, true, true, true, true, true, true, true, true, true, true, true, true, true, true, true, false, false, false, false, false, false, false]
abbrev Tx : Array Bool := #[true, true, true, true, true, true, true, true, true, true, true, true, true, true, true, true, true, true, true, true, true, true, true, true, true, true, false, false, false, false, false, false]
abbrev Ty : Array Bool := #[true, true, true, true, true, true, true, true, true, true, true, true, true, true, true, true, true, true, true, true, true, true, true, true, true, true, true, false, false, false, false, false]
abbrev Tz : Array Bool := #[true, true, true, true, true, true, true, true, true, true, true, true, true, true, true, true, true, true, true, true, true, true, true, true, true, true, true, true, false, false, false, false]
abbrev Xe9 : Array Bool := #[true, true, true, true, true, true, true, true, true, true, true, true, true, true, true, true, true, true, true, true, true, true, true, true, true, true, true, true, false, true, false, false]
abbrev Ir : Array Bool := #[true, true, true, true, true, true, true, true, true, true, true, true, true, true, true, true, true, true, true, true, true, true, true, true, true, true, true, true, true, false, false, false]
abbrev T9 : Array Bool := #[true, true, true, true, true, true, true, true, true, true, true, true, true, true, true, true, true, true, true, true, true, true, true, true, true, true, true, true, true, true, false, false]
abbrev TA : Array Bool := #[true, true, true, true, true, true, true, true, true, true, true, true, true, true, true, true, true, true, true, true, true, true, true, true, true, true, true, true, true, true, true, false]
abbrev TB : Array Bool := #[true, true, true, true, true, true, true, true, true, true, true, true, true, true, true, true, true, true, true, true, true, true, true, true, true, true, true, true, true, true, true, true]
abbrev TC : Array Bool := #[false, false, false, false, false, false, false, false, false, false, false, false, false, false, false, false, false, false, false, false, false, false, false, false]
abbrev TD : Array Bool := #[true, false, false, false, false, false, false, false, false, false, false, false, false, false, false, false, false, false, false, false, false, false, false, false]
abbrev TE : Array Bool := #[true, true, false, false, false, false, false, false, false, false, false, false, false, false, false, false, false, false, false, false, false, false, false, false]
abbrev TF : Array Bool := #[true, true, true, false, false, false, false, false, false, false, false, false, false, false, false, false, false, false, false, false, false, false, false, false]
abbrev TG : Array Bool := #[true, true, true, true, false, false, false, false, false, false, false, false, false, false, false, false, false, false, false, false, false, false, false, false]
abbrev TH : Array Bool := #[true, true, true, true, true, false, false, false, false, false, false, false, false, false, false, false, false, false, false, false, false, false, false, false]
abbrev TI : Array Bool := #[true, true, true, true, true, true, false, false, false, false, false, false, false, false, false, false, false, false, false, false, false, false, false, false]
abbrev TJ : Array Bool := #[true, true, true, true, true, true, true, false, false, false, false, false, false, false, false, false, false, false, false, false, false, false, false, false]
abbrev TK : Array Bool := #[true, true, true, true, true, true, true, true, false, false, false, false, false, false, false, false, false, false, false, false, false, false, false, false]
abbrev TL : Array Bool := #[true, true, true, true, true, true, true, true, true, false, false, false, false, false, false, false, false, false, false, false, false, false, false, false]
abbrev TM : Array Bool := #[true, true, true, true, true, true, true, true, true, true, false, false, false, false, false, false, false, false, false, false, false, false, false, false]
abbrev TN : Array Bool := #[true, true, true, true, true, true, true, true, true, true, true, false, false, false, false, false, false, false, false, false, false, false, false, false]
abbrev TP : Array Bool := #[true, true, true, true, true, true, true, true, true, true, true, true, false, false, false, false, false, false, false, false, false, false, false, false]
abbrev Iu : Array Bool := #[true, true, true, true, true, true, true, true, true, true, true, true, false, false, false, false, false, true, false, false, false, false, false, false]
abbrev XeA : Array Bool := #[true, true, true, true, true, true, true, true, true, true, true, true, true, false, false, false, false, false, false, false, false, false, false, false]
abbrev Iw : Array Bool := #[true, true, true, true, true, true, true, true, true, true, true, true, false, false, false, false, false, true, true, false, false, false, false, false]
abbrev XeB : Array Bool := #[true, true, true, true, true, true, true, true, true, true, true, true, true, true, false, false, false, false, false, false, false, false, false, false]
abbrev Iy : Array Bool := #[true, true, true, true, true, true, true, true, true, true, true, true, false, false, false, false, false, true, true, true, false, false, false, false]
abbrev XeC : Array Bool := #[true, true, true, true, true, true, true, true, true, true, true, true, true, true, true, false, false, false, false, false, false, false, false, false]
abbrev Iz : Array Bool := #[true, true, true, true, true, true, true, true, true, true, true, true, false, false, false, false, false, true, true, true, true, false, false, false]
abbrev XeD : Array Bool := #[true, true, true, true, true, true, true, true, true, true, true, true, true, true, true, true, false, false, false, false, false, false, false, false]
abbrev I7 : Array Bool := #[true, true, true, true, true, true, true, true, true, true, true, true, true, false, false, false, false, true, true, true, true, false, false, false]
abbrev XeE : Array Bool := #[true, true, true, true, true, true, true, true, true, true, true, true, true, true, true, true, true, false, false, false, false, false, false, false]
abbrev IA : Array Bool := #[true, true, true, true, true, true, true, true, true, true, true, true, true, true, false, false, false, true, true, true, true, false, false, false]
abbrev XeF : Array Bool := #[true, true, true, true, true, true, true, true, true, true, true, true, true, true, true, true, true, true, false, false, false, false, false, false]
abbrev IB : Array Bool := #[true, true, true, true, true, true, true, true, true, true, true, true, true, true, true, false, false, true, true, true, true, false, false, false]
abbrev XeG : Array Bool := #[true, true, true, true, true, true, true, true, true, true, true, true, true, true, true, true, true, true, true, false, false, false, false, false]
abbrev IC : Array Bool := #[true, true, true, true, true, true, true, true, true, true, true, true, true, true, true, true, false, true, true, true, true, false, false, false]
abbrev XeH : Array Bool := #[true, true, true, true, true, true, true, true, true, true, true, true, true, true, true, true, true, true, true, true, false, false, false, false]
abbrev TQ : Array Bool := #[true, true, true, true, true, true, true, true, true, true, true, true, true, true, true, true, true, true, true, true, true, false, false, false]
abbrev TR : Array Bool := #[true, true, true, true, true, true, true, true, true, true, true, true, true, true, true, true, true, true, true, true, true, true, false, false]
abbrev TS : Array Bool := #[true, true, true, true, true, true, true, true, true, true, true, true, true, true, true, true, true, true, true, true, true, true, true, false]
abbrev TT : Array Bool := #[true, true, true, true, true, true, true, true, true, true, true, true, true, true, true, true, true, true, true, true, true, true, true, true]
mutual
def Xi.l0 : Nat → List (S41) → Int → Option (Bool)
 | 0, _, _ => none
 | k + 1, x0, x3 => if x3 < (x0.length : Int) then (if 0 ≤ x3 then ((Yy.f k ((Xa x0 x3).f0) ((Xa x0 x3).f1) ((Xa x0 x3).f2) ((Xa x0 x3).f3) ((Xa x0 x3).f4) ((Xa x0 x3).f5) ((Xa x0 x3).f6) ((Xa x0 x3).f7)).bind fun Xkl => (if Xkl = true then (if x3 ≤ (x0.length : Int) then ((Xn.f k (x0.take (x3 : Int).toNat) ((Xa x0 x3).f1)).bind fun Py => (if ((Xa x0 x3).f6) = Py then (Xi.j1 k x0 x3 (decide (((Xa x0 x3).f7) > x3))) else (Xi.j1 k x0 x3 true))) else (none)) else (Xi.j1 k x0 x3 true))) else (none)) else (some (decide ((x0.length : Int) ≤ 150)))
def Xi.j1 : Nat → List (S41) → Int → Bool → Option (Bool)
 | 0, _, _, _ => none
 | k + 1, x0, x3, x41 => if x41 = true then (some false) else (if 0 ≤ x3 then (if x3 < (x0.length : Int) then (if ((Xa x0 x3).f7) > 0 then (if 0 ≤ (wrap64 (((Xa x0 x3).f7) - 1)) then (if (wrap64 (((Xa x0 x3).f7) - 1)) < (x0.length : Int) then (if ((Xa x0 (wrap64 (((Xa x0 x3).f7) - 1))).f1) = ((Xa x0 x3).f1) then (Xi.l0 k x0 (wrap64 (x3 + 1))) else (some false)) else (none)) else (none)) else (Xi.l0 k x0 (wrap64 (x3 + 1)))) else (none)) else (none))
end
def Xi.f (k : Nat) (l0 : List (S41)) : Option (Bool) := Xi.l0 k l0 0
def Xi.T4 : Bool × List (List Nat × List Nat) := (true, [([], []), ([], []), ([0, 1], [0, 1]), ([2], [2]), ([3], [3]), ([4], [4]), ([5, 4], [5]), ([6], [6]), ([6], [6]), ([7, 8, 6], [6, 7, 8]), ([9, 6], [6, 9]), ([10, 6], [6, 10]), ([6], [6]), ([6], [6]), ([12, 13, 6], [6, 12, 13]), ([6], [6]), ([6], [6]), ([15, 16, 6], [6, 15, 16]), ([17, 6], [6, 17]), ([18, 6], [6, 18]), ([14, 19, 6, 6], [6, 14, 19]), ([11, 20, 6], [6, 11, 20]), ([6, 21], [6, 21]), ([22, 20], [22]), ([23], [23]), ([23], [23]), ([24, 25, 23], [23, 24, 25]), ([26, 23], [23, 26]), ([27, 23], [23, 27]), ([23], [23]), ([28, 29, 23], [23, 28, 29]), ([23, 30], [23, 30])])
def Xi.B4 : List Nat := [0, 0, 3, 7, 15, 31, 63, 127, 127, 511, 1023, 2047, 127, 127, 12415, 127, 127, 98431, 229503, 491647, 1044607, 2097151, 4194303, 8388607, 16777215, 16777215, 67108863, 134217727, 268435455, 16777215, 1073741823, 2147483647]
theorem Xi.XpW : JI .any (opsOf Try.f32 4) = Xi.T4 := by kernel_rfl
theorem Xi.XhE : Jn Xi.T4.2 Xi.B4 = true := by kernel_rfl
def Xi.T6 : Bool × List (List Nat × List Nat) := (true, [([], []), ([], []), ([0, 1], [0, 1]), ([2], [2]), ([3], [3]), ([4], [4]), ([5], [5]), ([6], [6]), ([6], [6]), ([6], [6]), ([8, 9, 6], [6, 8, 9]), ([10, 6], [6, 10]), ([11, 6], [6, 11]), ([12, 6], [6, 12]), ([7, 13, 6], [6, 7, 13]), ([14, 6], [6, 14]), ([15, 6], [6, 15]), ([6], [6]), ([6], [6]), ([17, 18, 6], [6, 17, 18]), ([19, 6], [6, 19]), ([20, 6], [6, 20]), ([16, 21, 6], [6, 16, 21]), ([6, 22], [6, 22])])
def Xi.B6 : List Nat := [0, 0, 3, 7, 15, 31, 63, 127, 127, 127, 895, 1919, 3967, 8063, 16383, 32767, 65535, 127, 127, 393343, 917631, 1966207, 4194303, 8388607]
theorem Xi.Xhv : JI .any (opsOf Try.f32 6) = Xi.T6 := by kernel_rfl
theorem Xi.XaV : Jn Xi.T6.2 Xi.B6 = true := by kernel_rfl
set_option maxHeartbeats 8000000 in
set_option maxRecDepth 100000 in
theorem Xi.calls (k : Nat) (A0 : Option Addr) (c0 : Nat) (l0 : List (S41)) (r : Bool) (w : World) (hr0 : Kd.C k41 w A0 l0.length l0) (hc0 : l0.length ≤ c0) (h : Xi.f k l0 = some r) :
 Calls Try.prog 32 #[.slice A0 l0.length c0] w fun e w' => e = .returned (.bool r) ∧ Below w.heap.size w w' := by
 have hu41 := Try.underlying41; have HR0 := az hr0; have HC0 := az hc0; clear hr0 hc0; have HB := az (Below.refl w.heap.size w); have H : (Xi.l0 k l0 0) = some r := h; clear h; have H' := az H; clear H
 go_enter Try.func32, Try.ntmps32
 go_wp2
 go_loopg [3] k (fun kq v3 w' => ∃ (Xv : Int), v3 = .int .i64 Xv ∧ Aside0 (Xi.l0 kq l0 Xv = some r) ∧ Aside0 (kq ≤ k) ∧ Aside0 (Below w.heap.size w w'))
 case atStart => exact ⟨(0), zb12, H', ⟨Nat.le_refl _⟩, ⟨zb4⟩⟩
 case round =>
  clear H'; obtain ⟨Xv, rfl, HA, HK1, HB⟩ := hrel
  cases gk with
  | zero => exact absurd HA.out (by simp [Xi.l0])
  | succ k1 =>
   have H := HA.out; clear HA; simp only [Xi.l0] at H
   by_cases c2 : Xv < (l0.length : Int)
   ·rw [if_pos c2] at H
    have c2b0 : decide (Xv < (l0.length : Int)) = true := decide_eq_true c2; clear c2; have HC3 := az H; clear H
    go_upto_region 4 with (fail)
    go_cut [41] (fun v41 wc => ∃ (kq : Nat) (Xdr : Bool), v41 = .bool Xdr ∧ Aside0 (Xi.j1 kq l0 Xv Xdr = some r) ∧ Aside0 (kq ≤ k1) ∧ Aside0 (Below w.heap.size w wc))
    case first =>
     have H := HC3.out; clear HC3
     by_cases c4 : 0 ≤ Xv
     ·rw [if_pos c4] at H
      have c4b0 : decide (0 ≤ Xv) = true := decide_eq_true c4; clear c4
      (first | rw [c4b0] | (simp only [XB, XK]; rw [c4b0]) | skip)
      replace H := Option.bind_eq_some_iff.mp H; obtain ⟨Xkl, A50, H⟩ := H; replace H : (if Xkl = true then (if Xv ≤ (l0.length : Int) then ((Xn.f k1 (l0.take (Xv : Int).toNat) ((Xa l0 Xv).f1)).bind fun Py => (if ((Xa l0 Xv).f6) = Py then (Xi.j1 k1 l0 Xv (decide (((Xa l0 Xv).f7) > Xv))) else (Xi.j1 k1 l0 Xv true))) else (none)) else (Xi.j1 k1 l0 Xv true)) = some r := H; have A5 := az A50; clear A50
      by_cases c6 : Xkl = true
      ·subst c6
       have H1 : (if Xv ≤ (l0.length : Int) then ((Xn.f k1 (l0.take (Xv : Int).toNat) ((Xa l0 Xv).f1)).bind fun Py => (if ((Xa l0 Xv).f6) = Py then (Xi.j1 k1 l0 Xv (decide (((Xa l0 Xv).f7) > Xv))) else (Xi.j1 k1 l0 Xv true))) else (none)) = some r := by rw [if_pos rfl] at H; exact H
       clear H; have H := H1; clear H1; have c7b0 := eq_true (of_decide_eq_true zb7 : 0 ≤ Xv)
       by_cases c8 : Xv ≤ (l0.length : Int)
       ·rw [if_pos c8] at H
        have c8b0 := eq_true c8; have c8b1 : decide (Xv ≤ (l0.length : Int)) = true := decide_eq_true c8; clear c8
        obtain ⟨Q8, hy270⟩ : ∃ y_ : List (S41), y_ = (l0.take (Xv : Int).toNat) := ⟨_, rfl⟩
        replace H : ((Xn.f k1 Q8 ((Xa l0 Xv).f1)).bind fun Py => (if ((Xa l0 Xv).f6) = Py then (Xi.j1 k1 l0 Xv (decide (((Xa l0 Xv).f7) > Xv))) else (Xi.j1 k1 l0 Xv true))) = some r := by first | (rw [hy270]; with_reducible exact H) | (have H2_ := (Option.bind_some _ _).symm.trans H; rw [hy270]; with_reducible exact H2_) | (have H2_ := (Option.bind_some _ _).symm.trans H; with_reducible exact H2_) | with_reducible exact H | (rw [hy270]; exact H) | exact H
        have Ny270 := az hy270; clear hy270; replace H := Option.bind_eq_some_iff.mp H; obtain ⟨Py, A90, H⟩ := H; replace H : (if ((Xa l0 Xv).f6) = Py then (Xi.j1 k1 l0 Xv (decide (((Xa l0 Xv).f7) > Xv))) else (Xi.j1 k1 l0 Xv true)) = some r := H; have A9 := az A90; clear A90
        by_cases c10 : ((Xa l0 Xv).f6) = Py
        ·rw [if_pos c10] at H
         have Fq : (((Xa l0 Xv).f6) == Py) = true := beq_iff_eq.mpr c10; have Wy : (((Xa l0 Xv).f6) != Py) = false := bne_eq_false_iff_eq.mpr c10; clear c10; have H' := az H; clear H
         try go_wp2
         have n0_ := az (Yq HB.out); clear HB; have HB := n0_; clear n0_; have RP : 0 ≤ (Xv : Int) := of_decide_eq_true zb7; have RQ : Xv < (l0.length : Int) := of_decide_eq_true zb7; obtain ⟨Fx, Xgi, VY, VZ, Da, Db, Dc, De, Df, Dh⟩ := XV HR0.out Xv RP RQ; have hw267_7 := Dh; have hw267_6 := Df; have hw267_5 := De; have hw267_4 := Dc; have hw267_3 := Db; have hw267_2 := Da; have hw267_1 := VZ; have hw267_0 := VY
         cases Xgi
         replace VY := cb HB VY; replace VZ := cb HB VZ; replace Da := cb HB Da; replace Db := cb HB Db; replace Dc := cb HB Dc; replace De := cb HB De; replace Df := cb HB Df; replace Dh := cb HB Dh; replace RP := eq_true RP; replace RQ := eq_true RQ; have XaI : 0 ≤ (Xv : Int) := of_decide_eq_true zb7; have XaJ : Xv < (l0.length : Int) := of_decide_eq_true zb7; obtain ⟨Xgj, XnC, GH, GI, GJ, GK, GQ, GR, GU, GV⟩ := XV HR0.out Xv XaI XaJ; have hw269_7 := GV; have hw269_6 := GU; have hw269_5 := GR; have hw269_4 := GQ; have hw269_3 := GK; have hw269_2 := GJ; have hw269_1 := GI; have hw269_0 := GH
         obtain rfl : Fx = Xgj := (by injection XnC)
         replace GH := cb HB GH; replace GI := cb HB GI; replace GJ := cb HB GJ; replace GK := cb HB GK; replace GQ := cb HB GQ; replace GR := cb HB GR; replace GU := cb HB GU; replace GV := cb HB GV; replace XaI := eq_true XaI; replace XaJ := eq_true XaJ; have XaK : 0 ≤ (Xv : Int) := of_decide_eq_true zb7; have XaL : Xv < (l0.length : Int) := of_decide_eq_true zb7; obtain ⟨Xgk, XnD, GX, GY, GZ, Ua, Ub, Uc, Ud, Ue⟩ := XV HR0.out Xv XaK XaL; have hw274_7 := Ue; have hw274_6 := Ud; have hw274_5 := Uc; have hw274_4 := Ub; have hw274_3 := Ua; have hw274_2 := GZ; have hw274_1 := GY; have hw274_0 := GX
         obtain rfl : Fx = Xgk := (by injection XnD)
         replace GX := cb HB GX; replace GY := cb HB GY; replace GZ := cb HB GZ; replace Ua := cb HB Ua; replace Ub := cb HB Ub; replace Uc := cb HB Uc; replace Ud := cb HB Ud; replace Ue := cb HB Ue; replace XaK := eq_true XaK; replace XaL := eq_true XaL; have XnE : 0 ≤ (Xv : Int) := of_decide_eq_true zb7; have XnF : Xv < (l0.length : Int) := of_decide_eq_true zb7; obtain ⟨Xth, e276, C8, C9, CB, CF, CG, CJ, CK, CL⟩ := XV HR0.out Xv XnE XnF; have hw276_7 := CL; have hw276_6 := CK; have hw276_5 := CJ; have hw276_4 := CG; have hw276_3 := CF; have hw276_2 := CB; have hw276_1 := C9; have hw276_0 := C8
         obtain rfl : Fx = Xth := (by injection e276)
         replace C8 := cb HB C8; replace C9 := cb HB C9; replace CB := cb HB CB; replace CF := cb HB CF; replace CG := cb HB CG; replace CJ := cb HB CJ; replace CK := cb HB CK; replace CL := cb HB CL; replace XnE := eq_true XnE; replace XnF := eq_true XnF; refine ZY (n := 32) (S := fun w' => r8 w' (Fx.add ((Xv).toNat * 8)) (Xa l0 Xv) (r8 w' (Fx.add ((Xv).toNat * 8)) (Xa l0 Xv) (r8 w' (Fx.add ((Xv).toNat * 8)) (Xa l0 Xv) (r8t w' (Fx.add ((Xv).toNat * 8)) (Xa l0 Xv))))) (ds := []) EY zb14 rfl rfl ⟨(cb HB hw267_0), (cb HB hw267_1), (cb HB hw267_2), (cb HB hw267_3), (cb HB hw267_4), (cb HB hw267_5), (cb HB hw267_6), (cb HB hw267_7), (cb HB hw269_0), (cb HB hw269_1), (cb HB hw269_2), (cb HB hw269_3), (cb HB hw269_4), (cb HB hw269_5), (cb HB hw269_6), (cb HB hw269_7), (cb HB hw274_0), (cb HB hw274_1), (cb HB hw274_2), (cb HB hw274_3), (cb HB hw274_4), (cb HB hw274_5), (cb HB hw274_6), (cb HB hw274_7), (cb HB hw276_0), (cb HB hw276_1), (cb HB hw276_2), (cb HB hw276_3), (cb HB hw276_4), (cb HB hw276_5), (cb HB hw276_6), (cb HB hw276_7)⟩ (fun hHeld => ?_); refine Ja Xi.XpW Xi.XhE (fun HT_ HW_ => ?_); generalize wr.drew = w11 at HB VY VZ Da Db Dc De Df Dh GH GI GJ GK GQ GR GU GV GX GY GZ Ua Ub Uc Ud Ue C8 C9 CB CF CG CJ CK CL hHeld ⊢; refine pu 0 10 EZ HT_ ?_; refine pu 1 11 Oa HT_ ?_
         refine pu 2 12 Ob HT_ ?_; refine tk 3 13 Oc HT_ HW_ hHeld ?_; refine Vs (i := 4) (N := some 14) Od rfl rfl (Zf HT_.out zb14) (by decide) (fun K hK => ?_); refine Jo Try.func83 zb14 rfl #[agx (Xa l0 Xv) ((Xa l0 Xv).f1) ((Xa l0 Xv).f7)] (by rfl) rfl rfl zb0 ?_
         with_reducible refine (Yy.calls k1 ((Xa l0 Xv).f0) ((Xa l0 Xv).f1) ((Xa l0 Xv).f2) ((Xa l0 Xv).f3) ((Xa l0 Xv).f4) ((Xa l0 Xv).f5) ((Xa l0 Xv).f6) ((Xa l0 Xv).f7) true _ A5.out).mono ?_
         rintro e w12 ⟨rfl, hb⟩; refine ⟨_, rfl, ?_⟩; have n0_ := az (Xe zb4 hb); clear HB; have HB := n0_
         clear n0_;(try clear hb);(try clear hb2);(try clear hk);(try clear hi)
         have q13 : (Xv : Int) ≤ ((l0.length : Int) : Int) := of_decide_eq_true zb7; obtain ⟨i013, hi013, _, hsz13, _⟩ := info_parts VN; have hroom13 : l0.length ≤ c0 := HC0.out; have hC13 : Kd.C k41 _ (some Fx) l0.length l0 := HR0.out; have hcut13 := QW (P := Try.prog) 34 41 .i64 Try.underlying34 hi013 (some Fx) l0.length c0 Xv (of_decide_eq_true zb7) q13 hroom13; have hr13 := Kd.EP (m := (Xv : Int).toNat) hC13 (by omega)
         have hy13 : Q8.length = (Xv : Int).toNat := (by rw [Ny270.out, List.length_take]; omega)
         rw [← Ny270.out] at hr13; rw [← hy13] at hcut13; have XlW := az hr13; have Xgl := az (show Q8.length ≤ c0 from by omega); clear hr13 hC13 hroom13 hi013 hsz13; have KY13 := az hy13; clear hy13; replace q13 := eq_true q13; refine hK.out _ _ ⟨(cb HB hw267_0 :), (cb HB hw267_1 :), (cb HB hw267_2 :), (cb HB hw267_3 :), (cb HB hw267_4 :), (cb HB hw267_5 :), (cb HB hw267_6 :), (cb HB hw267_7 :), (cb HB hw269_0 :), (cb HB hw269_1 :), (cb HB hw269_2 :), (cb HB hw269_3 :), (cb HB hw269_4 :), (cb HB hw269_5 :), (cb HB hw269_6 :), (cb HB hw269_7 :), (cb HB hw274_0 :), (cb HB hw274_1 :), (cb HB hw274_2 :), (cb HB hw274_3 :), (cb HB hw274_4 :), (cb HB hw274_5 :), (cb HB hw274_6 :), (cb HB hw274_7 :), (cb HB hw276_0 :), (cb HB hw276_1 :), (cb HB hw276_2 :), (cb HB hw276_3 :), (cb HB hw276_4 :), (cb HB hw276_5 :), (cb HB hw276_6 :), (cb HB hw276_7 :)⟩ (fun hHeld => ?_); clear hK K; refine YK (a' := ?_) ?_ ?_; rotate_left
         ·show Act.put _ (some 14) _ = _
          simp only [Act.put, List.setIfInBounds_toArray, List.set_cons_zero, List.set_cons_succ, XB, XK]
          rfl
         refine pu 5 15 Oe HT_ ?_; refine pu 6 16 Og HT_ ?_; refine pu 7 17 Oh HT_ ?_; refine pu 8 18 Oi HT_ ?_; refine pu 9 19 Tk HT_ ?_; refine pu 10 20 Tm HT_ ?_; refine pu 12 22 Ij HT_ ?_; refine pu 13 23 Ik HT_ ?_; refine pu 14 24 Il HT_ ?_; refine pu 15 25 Im HT_ ?_; refine pu 16 26 Io HT_ ?_; refine pu 17 27 Ip HT_ ?_; refine pu 18 28 Iq HT_ ?_; refine tk 11 21 Tn HT_ HW_ hHeld ?_; refine tk 19 29 Tp HT_ HW_ hHeld ?_; refine Vs (i := 20) (N := some 30) Tq rfl rfl (Zf HT_.out zb14) (by decide) (fun K hK => ?_); refine Jo Try.func84 zb14 rfl #[.slice (some Fx) Q8.length c0, .int .i64 ((Xa l0 Xv).f1)] (by rfl) rfl rfl zb0 ?_
         with_reducible refine (Xn.calls k1 _ _ Q8 ((Xa l0 Xv).f1) Py _ ?side1 ?side2 A9.out).mono ?_
         (case side1 => exact zb127)
         (case side2 => exact Xgl.out)
         rintro e w' ⟨rfl, ⟨nd, rfl⟩⟩; refine ⟨_, rfl, ?_⟩; refine hK.out _ _ ⟨(cb HB hw267_0 :), (cb HB hw267_1 :), (cb HB hw267_2 :), (cb HB hw267_3 :), (cb HB hw267_4 :), (cb HB hw267_5 :), (cb HB hw267_6 :), (cb HB hw267_7 :), (cb HB hw269_0 :), (cb HB hw269_1 :), (cb HB hw269_2 :), (cb HB hw269_3 :), (cb HB hw269_4 :), (cb HB hw269_5 :), (cb HB hw269_6 :), (cb HB hw269_7 :), (cb HB hw274_0 :), (cb HB hw274_1 :), (cb HB hw274_2 :), (cb HB hw274_3 :), (cb HB hw274_4 :), (cb HB hw274_5 :), (cb HB hw274_6 :), (cb HB hw274_7 :), (cb HB hw276_0 :), (cb HB hw276_1 :), (cb HB hw276_2 :), (cb HB hw276_3 :), (cb HB hw276_4 :), (cb HB hw276_5 :), (cb HB hw276_6 :), (cb HB hw276_7 :)⟩ (fun hHeld => ?_); clear hK K; refine YK (a' := ?_) ?_ ?_; rotate_left
         ·show Act.put _ (some 30) _ = _
          simp only [Act.put, List.setIfInBounds_toArray, List.set_cons_zero, List.set_cons_succ, XB, XK]
          rfl
         refine pu 21 31 Tt HT_ ?_; refine pu 22 32 Tu HT_ ?_; refine pu 23 33 Tv HT_ ?_; refine pu 24 34 Tw HT_ ?_; refine pu 25 35 Tx HT_ ?_; refine pu 26 36 Ty HT_ ?_; refine pu 27 37 Tz HT_ ?_; refine pu 29 39 Xe9 HT_ ?_; refine tk 28 38 T9 HT_ HW_ hHeld ?_; refine pu 30 40 TA HT_ ?_; refine pu 31 41 TB HT_ ?_; refine J7 (JC HT_.out zb14) ?_
         try go_wp2
         go_meet
         case rel => exact ⟨_, (decide (((Xa l0 Xv).f7) > Xv)), zb12, H', ⟨zb152⟩, ⟨zb4⟩⟩
        ·rw [if_neg c10] at H
         have Fq : (((Xa l0 Xv).f6) == Py) = false := beq_eq_false_iff_ne.mpr c10; have Wy : (((Xa l0 Xv).f6) != Py) = true := bne_iff_ne.mpr c10; have H' := az H; clear H
         try go_wp2
         have n0_ := az (Yq HB.out); clear HB; have HB := n0_; clear n0_; have RP : 0 ≤ (Xv : Int) := of_decide_eq_true zb7; have RQ : Xv < (l0.length : Int) := of_decide_eq_true zb7; obtain ⟨Fx, Xgi, VY, VZ, Da, Db, Dc, De, Df, Dh⟩ := XV HR0.out Xv RP RQ; have hw267_7 := Dh; have hw267_6 := Df; have hw267_5 := De; have hw267_4 := Dc; have hw267_3 := Db; have hw267_2 := Da; have hw267_1 := VZ; have hw267_0 := VY
         cases Xgi
         replace VY := cb HB VY; replace VZ := cb HB VZ; replace Da := cb HB Da; replace Db := cb HB Db; replace Dc := cb HB Dc; replace De := cb HB De; replace Df := cb HB Df; replace Dh := cb HB Dh; replace RP := eq_true RP; replace RQ := eq_true RQ; have XaI : 0 ≤ (Xv : Int) := of_decide_eq_true zb7; have XaJ : Xv < (l0.length : Int) := of_decide_eq_true zb7; obtain ⟨Xgj, XnC, GH, GI, GJ, GK, GQ, GR, GU, GV⟩ := XV HR0.out Xv XaI XaJ; have hw269_7 := GV; have hw269_6 := GU; have hw269_5 := GR; have hw269_4 := GQ; have hw269_3 := GK; have hw269_2 := GJ; have hw269_1 := GI; have hw269_0 := GH
         obtain rfl : Fx = Xgj := (by injection XnC)
         replace GH := cb HB GH; replace GI := cb HB GI; replace GJ := cb HB GJ; replace GK := cb HB GK; replace GQ := cb HB GQ; replace GR := cb HB GR; replace GU := cb HB GU; replace GV := cb HB GV; replace XaI := eq_true XaI; replace XaJ := eq_true XaJ; have XaK : 0 ≤ (Xv : Int) := of_decide_eq_true zb7; have XaL : Xv < (l0.length : Int) := of_decide_eq_true zb7; obtain ⟨Xgk, XnD, GX, GY, GZ, Ua, Ub, Uc, Ud, Ue⟩ := XV HR0.out Xv XaK XaL; have hw274_7 := Ue; have hw274_6 := Ud; have hw274_5 := Uc; have hw274_4 := Ub; have hw274_3 := Ua; have hw274_2 := GZ; have hw274_1 := GY; have hw274_0 := GX
         obtain rfl : Fx = Xgk := (by injection XnD)
         replace GX := cb HB GX; replace GY := cb HB GY; replace GZ := cb HB GZ; replace Ua := cb HB Ua; replace Ub := cb HB Ub; replace Uc := cb HB Uc; replace Ud := cb HB Ud; replace Ue := cb HB Ue; replace XaK := eq_true XaK; replace XaL := eq_true XaL; refine ZY (n := 32) (S := fun w' => r8 w' (Fx.add ((Xv).toNat * 8)) (Xa l0 Xv) (r8 w' (Fx.add ((Xv).toNat * 8)) (Xa l0 Xv) (r8t w' (Fx.add ((Xv).toNat * 8)) (Xa l0 Xv)))) (ds := []) EY zb14 rfl rfl ⟨(cb HB hw267_0), (cb HB hw267_1), (cb HB hw267_2), (cb HB hw267_3), (cb HB hw267_4), (cb HB hw267_5), (cb HB hw267_6), (cb HB hw267_7), (cb HB hw269_0), (cb HB hw269_1), (cb HB hw269_2), (cb HB hw269_3), (cb HB hw269_4), (cb HB hw269_5), (cb HB hw269_6), (cb HB hw269_7), (cb HB hw274_0), (cb HB hw274_1), (cb HB hw274_2), (cb HB hw274_3), (cb HB hw274_4), (cb HB hw274_5), (cb HB hw274_6), (cb HB hw274_7)⟩ (fun hHeld => ?_); refine Ja Xi.XpW Xi.XhE (fun HT_ HW_ => ?_); generalize wr.drew = w14 at HB VY VZ Da Db Dc De Df Dh GH GI GJ GK GQ GR GU GV GX GY GZ Ua Ub Uc Ud Ue hHeld ⊢; refine pu 0 10 EZ HT_ ?_; refine pu 1 11 Oa HT_ ?_; refine pu 2 12 Ob HT_ ?_; refine tk 3 13 Oc HT_ HW_ hHeld ?_; refine Vs (i := 4) (N := some 14) Od rfl rfl (Zf HT_.out zb14) (by decide) (fun K hK => ?_); refine Jo Try.func83 zb14 rfl #[agx (Xa l0 Xv) ((Xa l0 Xv).f1) ((Xa l0 Xv).f7)] (by rfl) rfl rfl zb0 ?_
         with_reducible refine (Yy.calls k1 ((Xa l0 Xv).f0) ((Xa l0 Xv).f1) ((Xa l0 Xv).f2) ((Xa l0 Xv).f3) ((Xa l0 Xv).f4) ((Xa l0 Xv).f5) ((Xa l0 Xv).f6) ((Xa l0 Xv).f7) true _ A5.out).mono ?_
         rintro e w15 ⟨rfl, hb⟩; refine ⟨_, rfl, ?_⟩; have n0_ := az (Xe zb4 hb); clear HB; have HB := n0_
         clear n0_;(try clear hb);(try clear hb2);(try clear hk);(try clear hi)
         have q16 : (Xv : Int) ≤ ((l0.length : Int) : Int) := of_decide_eq_true zb7; obtain ⟨i016, hi016, _, hsz16, _⟩ := info_parts VN; have hroom16 : l0.length ≤ c0 := HC0.out; have hC16 : Kd.C k41 _ (some Fx) l0.length l0 := HR0.out; have hcut16 := QW (P := Try.prog) 34 41 .i64 Try.underlying34 hi016 (some Fx) l0.length c0 Xv (of_decide_eq_true zb7) q16 hroom16; have hr16 := Kd.EP (m := (Xv : Int).toNat) hC16 (by omega)
         have hy16 : Q8.length = (Xv : Int).toNat := (by rw [Ny270.out, List.length_take]; omega)
         rw [← Ny270.out] at hr16; rw [← hy16] at hcut16; have XlW := az hr16; have Xgl := az (show Q8.length ≤ c0 from by omega); clear hr16 hC16 hroom16 hi016 hsz16; have KY16 := az hy16; clear hy16; replace q16 := eq_true q16; refine hK.out _ _ ⟨(cb HB hw267_0 :), (cb HB hw267_1 :), (cb HB hw267_2 :), (cb HB hw267_3 :), (cb HB hw267_4 :), (cb HB hw267_5 :), (cb HB hw267_6 :), (cb HB hw267_7 :), (cb HB hw269_0 :), (cb HB hw269_1 :), (cb HB hw269_2 :), (cb HB hw269_3 :), (cb HB hw269_4 :), (cb HB hw269_5 :), (cb HB hw269_6 :), (cb HB hw269_7 :), (cb HB hw274_0 :), (cb HB hw274_1 :), (cb HB hw274_2 :), (cb HB hw274_3 :), (cb HB hw274_4 :), (cb HB hw274_5 :), (cb HB hw274_6 :), (cb HB hw274_7 :)⟩ (fun hHeld => ?_); clear hK K; refine YK (a' := ?_) ?_ ?_; rotate_left
         ·show Act.put _ (some 14) _ = _
          simp only [Act.put, List.setIfInBounds_toArray, List.set_cons_zero, List.set_cons_succ, XB, XK]
          rfl
         refine pu 5 15 Oe HT_ ?_; refine pu 6 16 Og HT_ ?_; refine pu 7 17 Oh HT_ ?_; refine pu 8 18 Oi HT_ ?_; refine pu 9 19 Tk HT_ ?_; refine pu 10 20 Tm HT_ ?_; refine pu 12 22 Ij HT_ ?_; refine pu 13 23 Ik HT_ ?_; refine pu 14 24 Il HT_ ?_; refine pu 15 25 Im HT_ ?_; refine pu 16 26 Io HT_ ?_; refine pu 17 27 Ip HT_ ?_; refine pu 18 28 Iq HT_ ?_; refine tk 11 21 Tn HT_ HW_ hHeld ?_; refine tk 19 29 Tp HT_ HW_ hHeld ?_; refine Vs (i := 20) (N := some 30) Tq rfl rfl (Zf HT_.out zb14) (by decide) (fun K hK => ?_); refine Jo Try.func84 zb14 rfl #[.slice (some Fx) Q8.length c0, .int .i64 ((Xa l0 Xv).f1)] (by rfl) rfl rfl zb0 ?_
         with_reducible refine (Xn.calls k1 _ _ Q8 ((Xa l0 Xv).f1) Py _ ?side1 ?side2 A9.out).mono ?_
         (case side1 => exact zb127)
         (case side2 => exact Xgl.out)
         rintro e w' ⟨rfl, ⟨nd, rfl⟩⟩; refine ⟨_, rfl, ?_⟩; refine hK.out _ _ ⟨(cb HB hw267_0 :), (cb HB hw267_1 :), (cb HB hw267_2 :), (cb HB hw267_3 :), (cb HB hw267_4 :), (cb HB hw267_5 :), (cb HB hw267_6 :), (cb HB hw267_7 :), (cb HB hw269_0 :), (cb HB hw269_1 :), (cb HB hw269_2 :), (cb HB hw269_3 :), (cb HB hw269_4 :), (cb HB hw269_5 :), (cb HB hw269_6 :), (cb HB hw269_7 :), (cb HB hw274_0 :), (cb HB hw274_1 :), (cb HB hw274_2 :), (cb HB hw274_3 :), (cb HB hw274_4 :), (cb HB hw274_5 :), (cb HB hw274_6 :), (cb HB hw274_7 :)⟩ (fun hHeld => ?_); clear hK K; refine YK (a' := ?_) ?_ ?_; rotate_left
         ·show Act.put _ (some 30) _ = _
          simp only [Act.put, List.setIfInBounds_toArray, List.set_cons_zero, List.set_cons_succ, XB, XK]
          rfl
         refine pu 21 31 Tt HT_ ?_; refine pu 22 32 Tu HT_ ?_; refine pu 23 33 Tv HT_ ?_; refine pn 24 34 Tw HT_ ?_; refine pn 25 35 Tx HT_ ?_; refine pn 26 36 Ty HT_ ?_; refine pn 27 37 Tz HT_ ?_; refine pn 28 38 Ir HT_ ?_; refine pn 29 39 T9 HT_ ?_; refine pn 30 40 TA HT_ ?_; refine pu 31 41 TB HT_ ?_; refine J7 (JC HT_.out zb14) ?_
         try go_wp2
         go_meet
         case rel => exact ⟨_, (true), zb12, H', ⟨zb152⟩, ⟨zb4⟩⟩
       ·rw [if_neg c8] at H
        exact absurd H (by simp)
      ·replace c6 := Bool.eq_false_iff.mpr c6
       subst c6
       have H1 : (Xi.j1 k1 l0 Xv true) = some r := by rw [if_neg (show ¬ (false = true) by decide)] at H; exact H
       clear H; have H := H1; clear H1; have H' := az H; clear H
       try go_wp2
       have n0_ := az (Yq HB.out); clear HB; have HB := n0_; clear n0_; have RP : 0 ≤ (Xv : Int) := of_decide_eq_true zb7; have RQ : Xv < (l0.length : Int) := of_decide_eq_true zb7; obtain ⟨Fx, Xgi, VY, VZ, Da, Db, Dc, De, Df, Dh⟩ := XV HR0.out Xv RP RQ; have hw267_7 := Dh; have hw267_6 := Df; have hw267_5 := De; have hw267_4 := Dc; have hw267_3 := Db; have hw267_2 := Da; have hw267_1 := VZ; have hw267_0 := VY
       cases Xgi
       replace VY := cb HB VY; replace VZ := cb HB VZ; replace Da := cb HB Da; replace Db := cb HB Db; replace Dc := cb HB Dc; replace De := cb HB De; replace Df := cb HB Df; replace Dh := cb HB Dh; replace RP := eq_true RP; replace RQ := eq_true RQ; refine ZY (n := 32) (S := fun w' => r8t w' (Fx.add ((Xv).toNat * 8)) (Xa l0 Xv)) (ds := []) EY zb14 rfl rfl ⟨(cb HB hw267_0), (cb HB hw267_1), (cb HB hw267_2), (cb HB hw267_3), (cb HB hw267_4), (cb HB hw267_5), (cb HB hw267_6), (cb HB hw267_7)⟩ (fun hHeld => ?_); refine Ja Xi.XpW Xi.XhE (fun HT_ HW_ => ?_); generalize wr.drew = w17 at HB VY VZ Da Db Dc De Df Dh hHeld ⊢; refine pu 0 10 EZ HT_ ?_; refine pu 1 11 Oa HT_ ?_; refine pu 2 12 Ob HT_ ?_; refine tk 3 13 Oc HT_ HW_ hHeld ?_; refine Vs (i := 4) (N := some 14) Od rfl rfl (Zf HT_.out zb14) (by decide) (fun K hK => ?_); refine Jo Try.func83 zb14 rfl #[agx (Xa l0 Xv) ((Xa l0 Xv).f1) ((Xa l0 Xv).f7)] (by rfl) rfl rfl zb0 ?_
       with_reducible refine (Yy.calls k1 ((Xa l0 Xv).f0) ((Xa l0 Xv).f1) ((Xa l0 Xv).f2) ((Xa l0 Xv).f3) ((Xa l0 Xv).f4) ((Xa l0 Xv).f5) ((Xa l0 Xv).f6) ((Xa l0 Xv).f7) false _ A5.out).mono ?_
       rintro e w18 ⟨rfl, hb⟩; refine ⟨_, rfl, ?_⟩; have n0_ := az (Xe zb4 hb); clear HB; have HB := n0_
       clear n0_;(try clear hb);(try clear hb2);(try clear hk);(try clear hi)
       refine hK.out _ _ ⟨(cb HB hw267_0 :), (cb HB hw267_1 :), (cb HB hw267_2 :), (cb HB hw267_3 :), (cb HB hw267_4 :), (cb HB hw267_5 :), (cb HB hw267_6 :), (cb HB hw267_7 :)⟩ (fun hHeld => ?_); clear hK K; refine YK (a' := ?_) ?_ ?_; rotate_left
       ·show Act.put _ (some 14) _ = _
        simp only [Act.put, List.setIfInBounds_toArray, List.set_cons_zero, List.set_cons_succ, XB, XK]
        rfl
       refine pu 5 15 Oe HT_ ?_; refine pu 6 16 Og HT_ ?_; refine pn 7 17 Oh HT_ ?_; refine pn 8 18 Oi HT_ ?_; refine pn 9 19 Tk HT_ ?_; refine pn 10 20 Tm HT_ ?_; refine pn 11 21 Xe2 HT_ ?_; refine pn 12 22 Xe3 HT_ ?_; refine pn 13 23 Xe4 HT_ ?_; refine pn 14 24 Xe5 HT_ ?_; refine pn 15 25 Xe6 HT_ ?_; refine pn 16 26 Xe7 HT_ ?_; refine pn 17 27 Xe8 HT_ ?_; refine pn 18 28 Tn HT_ ?_; refine pn 19 29 Tp HT_ ?_; refine pn 20 30 Tq HT_ ?_; refine pn 21 31 Tt HT_ ?_; refine pu 22 32 Tu HT_ ?_; refine pu 23 33 Tv HT_ ?_; refine pn 24 34 Tw HT_ ?_; refine pn 25 35 Tx HT_ ?_; refine pn 26 36 Ty HT_ ?_; refine pn 27 37 Tz HT_ ?_; refine pn 28 38 Ir HT_ ?_; refine pn 29 39 T9 HT_ ?_; refine pn 30 40 TA HT_ ?_; refine pu 31 41 TB HT_ ?_; refine J7 (JC HT_.out zb14) ?_
       try go_wp2
       go_meet
       case rel => exact ⟨_, (true), zb12, H', ⟨zb152⟩, ⟨zb4⟩⟩
     ·rw [if_neg c4] at H
      exact absurd H (by simp)
    case rest =>
     clear HC3;(try clear c1);(try clear q1);(try clear p2);(try clear q2);(try clear hx2);(try clear c4);(try clear c6);(try clear c8);(try clear c10);(try clear Fq);(try clear Wy);(try clear q16);(try clear VY);(try clear VZ);(try clear Da);(try clear Db);(try clear Dc);(try clear De);(try clear Df);(try clear Dh);(try clear GH);(try clear GI);(try clear GJ);(try clear GK);(try clear GQ);(try clear GR);(try clear GU);(try clear GV);(try clear GX);(try clear GY);(try clear GZ);(try clear Ua);(try clear Ub);(try clear Uc);(try clear Ud);(try clear Ue);(try clear RP);(try clear XaI);(try clear XaK);(try clear q16);(try clear RQ);(try clear XaJ);(try clear XaL)
     obtain ⟨kq, Xdr, rfl, HA, HJ2, HB⟩ := hcut
     cases kq with
     | zero => exact absurd HA.out (by simp [Xi.j1])
     | succ kj2 =>
      have H := HA.out; clear HA; simp only [Xi.j1] at H
      by_cases c19 : Xdr = true
      ·subst c19
       have H1 : (some false) = some r := by rw [if_pos rfl] at H; exact H
       clear H; have H := H1; clear H1; obtain rfl := Option.some.inj H
       go_wp2
       go_ret
       exact ⟨zb8, zb4⟩
      ·replace c19 := Bool.eq_false_iff.mpr c19
       subst c19
       have H1 : (if 0 ≤ Xv then (if Xv < (l0.length : Int) then (if ((Xa l0 Xv).f7) > 0 then (if 0 ≤ (wrap64 (((Xa l0 Xv).f7) - 1)) then (if (wrap64 (((Xa l0 Xv).f7) - 1)) < (l0.length : Int) then (if ((Xa l0 (wrap64 (((Xa l0 Xv).f7) - 1))).f1) = ((Xa l0 Xv).f1) then (Xi.l0 kj2 l0 (wrap64 (Xv + 1))) else (some false)) else (none)) else (none)) else (Xi.l0 kj2 l0 (wrap64 (Xv + 1)))) else (none)) else (none)) = some r := by rw [if_neg (show ¬ (false = true) by decide)] at H; exact H
       clear H; have H := H1; clear H1
       by_cases c20 : 0 ≤ Xv
       ·rw [if_pos c20] at H
        have BS : decide (0 ≤ Xv) = true := decide_eq_true c20; clear c20
        by_cases c21 : Xv < (l0.length : Int)
        ·rw [if_pos c21] at H
         have Xmu : decide (Xv < (l0.length : Int)) = true := decide_eq_true c21; clear c21
         by_cases c22 : ((Xa l0 Xv).f7) > 0
         ·rw [if_pos c22] at H
          have OY : decide (0 < ((Xa l0 Xv).f7)) = true := decide_eq_true c22; clear c22
          obtain ⟨Mx, Xds⟩ : ∃ j_ : Int, (wrap64 (((Xa l0 Xv).f7) - 1)) = j_ := ⟨_, rfl⟩
          replace H : (if 0 ≤ (Mx) then (if (Mx) < (l0.length : Int) then (if ((Xa l0 (Mx)).f1) = ((Xa l0 Xv).f1) then (Xi.l0 kj2 l0 (wrap64 (Xv + 1))) else (some false)) else (none)) else (none)) = some r := by first | (rw [Xds] at H; exact H) | (simp only [Xds] at H ⊢; exact H)
          have hji23w : (IntKind.i64.wrap (((Xa l0 Xv).f7) - 1)) = Mx := (XB _).trans Xds
          by_cases c24 : 0 ≤ (Mx)
          ·rw [if_pos c24] at H
           have Xmv : decide (0 ≤ (Mx)) = true := decide_eq_true c24; clear c24
           by_cases c25 : (Mx) < (l0.length : Int)
           ·rw [if_pos c25] at H
            have Xmw : decide ((Mx) < (l0.length : Int)) = true := decide_eq_true c25; clear c25
            by_cases c26 : ((Xa l0 (Mx)).f1) = ((Xa l0 Xv).f1)
            ·rw [if_pos c26] at H
             have XfZ : (((Xa l0 (Mx)).f1) == ((Xa l0 Xv).f1)) = true := beq_iff_eq.mpr c26; have Xga : (((Xa l0 (Mx)).f1) != ((Xa l0 Xv).f1)) = false := bne_eq_false_iff_eq.mpr c26; clear c26; have H' := az H; clear H
             try go_wp2
             have n0_ := az (Yq HB.out); clear HB; have HB := n0_; clear n0_; have Ea : 0 ≤ (Xv : Int) := of_decide_eq_true zb7; have Eb : Xv < (l0.length : Int) := of_decide_eq_true zb7; obtain ⟨Us, Xgm, Dw, Dx, Dy, Dz, D5, D6, D7, D8⟩ := XV HR0.out Xv Ea Eb; have hw277_7 := D8; have hw277_6 := D7; have hw277_5 := D6; have hw277_4 := D5; have hw277_3 := Dz; have hw277_2 := Dy; have hw277_1 := Dx; have hw277_0 := Dw
             cases Xgm
             replace Dw := cb HB Dw; replace Dx := cb HB Dx; replace Dy := cb HB Dy; replace Dz := cb HB Dz; replace D5 := cb HB D5; replace D6 := cb HB D6; replace D7 := cb HB D7; replace D8 := cb HB D8; replace Ea := eq_true Ea; replace Eb := eq_true Eb; have Xbz : 0 ≤ (Xv : Int) := of_decide_eq_true zb7; have Xb0 : Xv < (l0.length : Int) := of_decide_eq_true zb7; obtain ⟨Xgn, XnG, UB, UC, UD, UE, UF, UG, UH, UI⟩ := XV HR0.out Xv Xbz Xb0; have hw278_7 := UI; have hw278_6 := UH; have hw278_5 := UG; have hw278_4 := UF; have hw278_3 := UE; have hw278_2 := UD; have hw278_1 := UC; have hw278_0 := UB
             obtain rfl : Us = Xgn := (by injection XnG)
             replace UB := cb HB UB; replace UC := cb HB UC; replace UD := cb HB UD; replace UE := cb HB UE; replace UF := cb HB UF; replace UG := cb HB UG; replace UH := cb HB UH; replace UI := cb HB UI; replace Xbz := eq_true Xbz; replace Xb0 := eq_true Xb0; have Xb1 : 0 ≤ ((Mx) : Int) := of_decide_eq_true zb7; have Xb2 : (Mx) < (l0.length : Int) := of_decide_eq_true zb7; obtain ⟨Xgo, XnH, UJ, UK, UL, UM, UN, UO, UQ, UR⟩ := XV HR0.out (Mx) Xb1 Xb2; have hw279_7 := UR; have hw279_6 := UQ; have hw279_5 := UO; have hw279_4 := UN; have hw279_3 := UM; have hw279_2 := UL; have hw279_1 := UK; have hw279_0 := UJ
             obtain rfl : Us = Xgo := (by injection XnH)
             replace UJ := cb HB UJ; replace UK := cb HB UK; replace UL := cb HB UL; replace UM := cb HB UM; replace UN := cb HB UN; replace UO := cb HB UO; replace UQ := cb HB UQ; replace UR := cb HB UR; replace Xb1 := eq_true Xb1; replace Xb2 := eq_true Xb2; have Xb3 : 0 ≤ (Xv : Int) := of_decide_eq_true zb7; have Xb4 : Xv < (l0.length : Int) := of_decide_eq_true zb7; obtain ⟨Xgp, XnI, UT, UU, UW, UX, UY, UZ, Ma, Mc⟩ := XV HR0.out Xv Xb3 Xb4; have hw280_7 := Mc; have hw280_6 := Ma; have hw280_5 := UZ; have hw280_4 := UY; have hw280_3 := UX; have hw280_2 := UW; have hw280_1 := UU; have hw280_0 := UT
             obtain rfl : Us = Xgp := (by injection XnI)
             replace UT := cb HB UT; replace UU := cb HB UU; replace UW := cb HB UW; replace UX := cb HB UX; replace UY := cb HB UY; replace UZ := cb HB UZ; replace Ma := cb HB Ma; replace Mc := cb HB Mc; replace Xb3 := eq_true Xb3; replace Xb4 := eq_true Xb4; refine ZY (n := 24) (S := fun w' => r8 w' (Us.add ((Xv).toNat * 8)) (Xa l0 Xv) (r8 w' (Us.add ((Xv).toNat * 8)) (Xa l0 Xv) (r8 w' (Us.add (((Mx)).toNat * 8)) (Xa l0 (Mx)) (r8t w' (Us.add ((Xv).toNat * 8)) (Xa l0 Xv))))) (ds := []) TC zb14 rfl rfl ⟨(cb HB hw277_0), (cb HB hw277_1), (cb HB hw277_2), (cb HB hw277_3), (cb HB hw277_4), (cb HB hw277_5), (cb HB hw277_6), (cb HB hw277_7), (cb HB hw278_0), (cb HB hw278_1), (cb HB hw278_2), (cb HB hw278_3), (cb HB hw278_4), (cb HB hw278_5), (cb HB hw278_6), (cb HB hw278_7), (cb HB hw279_0), (cb HB hw279_1), (cb HB hw279_2), (cb HB hw279_3), (cb HB hw279_4), (cb HB hw279_5), (cb HB hw279_6), (cb HB hw279_7), (cb HB hw280_0), (cb HB hw280_1), (cb HB hw280_2), (cb HB hw280_3), (cb HB hw280_4), (cb HB hw280_5), (cb HB hw280_6), (cb HB hw280_7)⟩ (fun hHeld => ?_); refine Ja Xi.Xhv Xi.XaV (fun HT_ HW_ => ?_); generalize wc.drew = w27 at HB Dw Dx Dy Dz D5 D6 D7 D8 UB UC UD UE UF UG UH UI UJ UK UL UM UN UO UQ UR UT UU UW UX UY UZ Ma Mc hHeld ⊢; refine pu 0 42 TD HT_ ?_
             refine pu 1 43 TE HT_ ?_; refine pu 2 44 TF HT_ ?_; refine pu 3 45 TG HT_ ?_; refine tk 4 46 TH HT_ HW_ hHeld ?_; refine pu 5 47 TI HT_ ?_; refine pu 6 48 TJ HT_ ?_; refine pu 7 49 TK HT_ ?_; refine pu 8 50 TL HT_ ?_; refine pu 9 51 TM HT_ ?_; refine pu 10 52 TN HT_ ?_; refine pu 11 53 TP HT_ ?_; refine pu 17 59 Iu HT_ ?_; refine pu 18 60 Iw HT_ ?_; refine pu 19 61 Iy HT_ ?_; refine pu 20 62 Iz HT_ ?_; refine tk 12 54 I7 HT_ HW_ hHeld ?_; refine pu 13 55 IA HT_ ?_; refine pu 14 56 IB HT_ ?_; refine pu 15 57 IC HT_ ?_; refine tk 16 58 TQ HT_ HW_ hHeld ?_; refine tk 21 63 TR HT_ HW_ hHeld ?_; refine pu 22 64 TS HT_ ?_; refine pu 23 65 TT HT_ ?_; refine J7 (JC HT_.out zb14) ?_
             try go_wp2
             go_roundg kj2
             case measure => have := HK1.out; have := HJ2.out; omega
             case rel => exact ⟨(wrap64 (Xv + 1)), zb12, H', ⟨by have := HK1.out; have := HJ2.out; omega⟩, ⟨zb4⟩⟩
            ·rw [if_neg c26] at H
             have XfZ : (((Xa l0 (Mx)).f1) == ((Xa l0 Xv).f1)) = false := beq_eq_false_iff_ne.mpr c26; have Xga : (((Xa l0 (Mx)).f1) != ((Xa l0 Xv).f1)) = true := bne_iff_ne.mpr c26; obtain rfl := Option.some.inj H
             try go_wp2
             have n0_ := az (Yq HB.out); clear HB; have HB := n0_; clear n0_; have Ea : 0 ≤ (Xv : Int) := of_decide_eq_true zb7; have Eb : Xv < (l0.length : Int) := of_decide_eq_true zb7; obtain ⟨Us, Xgm, Dw, Dx, Dy, Dz, D5, D6, D7, D8⟩ := XV HR0.out Xv Ea Eb; have hw277_7 := D8; have hw277_6 := D7; have hw277_5 := D6; have hw277_4 := D5; have hw277_3 := Dz; have hw277_2 := Dy; have hw277_1 := Dx; have hw277_0 := Dw
             cases Xgm
             replace Dw := cb HB Dw; replace Dx := cb HB Dx; replace Dy := cb HB Dy; replace Dz := cb HB Dz; replace D5 := cb HB D5; replace D6 := cb HB D6; replace D7 := cb HB D7; replace D8 := cb HB D8; replace Ea := eq_true Ea; replace Eb := eq_true Eb; have Xbz : 0 ≤ (Xv : Int) := of_decide_eq_true zb7; have Xb0 : Xv < (l0.length : Int) := of_decide_eq_true zb7; obtain ⟨Xgn, XnG, UB, UC, UD, UE, UF, UG, UH, UI⟩ := XV HR0.out Xv Xbz Xb0; have hw278_7 := UI; have hw278_6 := UH; have hw278_5 := UG; have hw278_4 := UF; have hw278_3 := UE; have hw278_2 := UD; have hw278_1 := UC; have hw278_0 := UB
             obtain rfl : Us = Xgn := (by injection XnG)
             replace UB := cb HB UB; replace UC := cb HB UC; replace UD := cb HB UD; replace UE := cb HB UE; replace UF := cb HB UF; replace UG := cb HB UG; replace UH := cb HB UH; replace UI := cb HB UI; replace Xbz := eq_true Xbz; replace Xb0 := eq_true Xb0; have Xb1 : 0 ≤ ((Mx) : Int) := of_decide_eq_true zb7; have Xb2 : (Mx) < (l0.length : Int) := of_decide_eq_true zb7; obtain ⟨Xgo, XnH, UJ, UK, UL, UM, UN, UO, UQ, UR⟩ := XV HR0.out (Mx) Xb1 Xb2; have hw279_7 := UR; have hw279_6 := UQ; have hw279_5 := UO; have hw279_4 := UN; have hw279_3 := UM; have hw279_2 := UL; have hw279_1 := UK; have hw279_0 := UJ
             obtain rfl : Us = Xgo := (by injection XnH)
             replace UJ := cb HB UJ; replace UK := cb HB UK; replace UL := cb HB UL; replace UM := cb HB UM; replace UN := cb HB UN; replace UO := cb HB UO; replace UQ := cb HB UQ; replace UR := cb HB UR; replace Xb1 := eq_true Xb1; replace Xb2 := eq_true Xb2; have Xb3 : 0 ≤ (Xv : Int) := of_decide_eq_true zb7; have Xb4 : Xv < (l0.length : Int) := of_decide_eq_true zb7; obtain ⟨Xgp, XnI, UT, UU, UW, UX, UY, UZ, Ma, Mc⟩ := XV HR0.out Xv Xb3 Xb4; have hw280_7 := Mc; have hw280_6 := Ma; have hw280_5 := UZ; have hw280_4 := UY; have hw280_3 := UX; have hw280_2 := UW; have hw280_1 := UU; have hw280_0 := UT
             obtain rfl : Us = Xgp := (by injection XnI)
             replace UT := cb HB UT; replace UU := cb HB UU; replace UW := cb HB UW; replace UX := cb HB UX; replace UY := cb HB UY; replace UZ := cb HB UZ; replace Ma := cb HB Ma; replace Mc := cb HB Mc; replace Xb3 := eq_true Xb3; replace Xb4 := eq_true Xb4; refine ZY (n := 24) (S := fun w' => r8 w' (Us.add ((Xv).toNat * 8)) (Xa l0 Xv) (r8 w' (Us.add ((Xv).toNat * 8)) (Xa l0 Xv) (r8 w' (Us.add (((Mx)).toNat * 8)) (Xa l0 (Mx)) (r8t w' (Us.add ((Xv).toNat * 8)) (Xa l0 Xv))))) (ds := []) TC zb14 rfl rfl ⟨(cb HB hw277_0), (cb HB hw277_1), (cb HB hw277_2), (cb HB hw277_3), (cb HB hw277_4), (cb HB hw277_5), (cb HB hw277_6), (cb HB hw277_7), (cb HB hw278_0), (cb HB hw278_1), (cb HB hw278_2), (cb HB hw278_3), (cb HB hw278_4), (cb HB hw278_5), (cb HB hw278_6), (cb HB hw278_7), (cb HB hw279_0), (cb HB hw279_1), (cb HB hw279_2), (cb HB hw279_3), (cb HB hw279_4), (cb HB hw279_5), (cb HB hw279_6), (cb HB hw279_7), (cb HB hw280_0), (cb HB hw280_1), (cb HB hw280_2), (cb HB hw280_3), (cb HB hw280_4), (cb HB hw280_5), (cb HB hw280_6), (cb HB hw280_7)⟩ (fun hHeld => ?_); refine Ja Xi.Xhv Xi.XaV (fun HT_ HW_ => ?_); generalize wc.drew = w28 at HB Dw Dx Dy Dz D5 D6 D7 D8 UB UC UD UE UF UG UH UI UJ UK UL UM UN UO UQ UR UT UU UW UX UY UZ Ma Mc hHeld ⊢; refine pu 0 42 TD HT_ ?_
             refine pu 1 43 TE HT_ ?_; refine pu 2 44 TF HT_ ?_; refine pu 3 45 TG HT_ ?_; refine tk 4 46 TH HT_ HW_ hHeld ?_; refine pu 5 47 TI HT_ ?_; refine pu 6 48 TJ HT_ ?_; refine pu 7 49 TK HT_ ?_; refine pu 8 50 TL HT_ ?_; refine pu 9 51 TM HT_ ?_; refine pu 10 52 TN HT_ ?_; refine pu 11 53 TP HT_ ?_; refine pu 17 59 Iu HT_ ?_; refine pu 18 60 Iw HT_ ?_; refine pu 19 61 Iy HT_ ?_; refine pu 20 62 Iz HT_ ?_; refine tk 12 54 I7 HT_ HW_ hHeld ?_; refine pu 13 55 IA HT_ ?_; refine pu 14 56 IB HT_ ?_; refine pu 15 57 IC HT_ ?_; refine tk 16 58 TQ HT_ HW_ hHeld ?_; refine tk 21 63 TR HT_ HW_ hHeld ?_; refine pu 22 64 TS HT_ ?_; refine pu 23 65 TT HT_ ?_; refine J7 (JC HT_.out zb14) ?_
             try go_wp2
             go_ret
             exact ⟨by first | rfl | (simp [YN, YO] <;> rfl) | (simp only [← Xds]; first | rfl | (simp [YN, YO] <;> rfl)) | (simp [*, YN, YO] <;> rfl), zb4⟩
           ·rw [if_neg c25] at H
            exact absurd H (by simp)
          ·rw [if_neg c24] at H
           exact absurd H (by simp)
         ·rw [if_neg c22] at H
          have OY : decide (0 < ((Xa l0 Xv).f7)) = false := decide_eq_false c22; clear c22; have H' := az H; clear H
          try go_wp2
          have n0_ := az (Yq HB.out); clear HB; have HB := n0_; clear n0_; have Ea : 0 ≤ (Xv : Int) := of_decide_eq_true zb7; have Eb : Xv < (l0.length : Int) := of_decide_eq_true zb7; obtain ⟨Us, Xgm, Dw, Dx, Dy, Dz, D5, D6, D7, D8⟩ := XV HR0.out Xv Ea Eb; have hw277_7 := D8; have hw277_6 := D7; have hw277_5 := D6; have hw277_4 := D5; have hw277_3 := Dz; have hw277_2 := Dy; have hw277_1 := Dx; have hw277_0 := Dw
          cases Xgm
          replace Dw := cb HB Dw; replace Dx := cb HB Dx; replace Dy := cb HB Dy; replace Dz := cb HB Dz; replace D5 := cb HB D5; replace D6 := cb HB D6; replace D7 := cb HB D7; replace D8 := cb HB D8; replace Ea := eq_true Ea; replace Eb := eq_true Eb; refine ZY (n := 24) (S := fun w' => r8t w' (Us.add ((Xv).toNat * 8)) (Xa l0 Xv)) (ds := []) TC zb14 rfl rfl ⟨(cb HB hw277_0), (cb HB hw277_1), (cb HB hw277_2), (cb HB hw277_3), (cb HB hw277_4), (cb HB hw277_5), (cb HB hw277_6), (cb HB hw277_7)⟩ (fun hHeld => ?_); refine Ja Xi.Xhv Xi.XaV (fun HT_ HW_ => ?_); generalize wc.drew = w29 at HB Dw Dx Dy Dz D5 D6 D7 D8 hHeld ⊢; refine pu 0 42 TD HT_ ?_; refine pu 1 43 TE HT_ ?_; refine pu 2 44 TF HT_ ?_; refine pu 3 45 TG HT_ ?_; refine tk 4 46 TH HT_ HW_ hHeld ?_; refine pu 5 47 TI HT_ ?_; refine pu 6 48 TJ HT_ ?_; refine pn 7 49 TK HT_ ?_; refine pn 8 50 TL HT_ ?_; refine pn 9 51 TM HT_ ?_; refine pn 10 52 TN HT_ ?_; refine pn 11 53 TP HT_ ?_; refine pn 12 54 XeA HT_ ?_; refine pn 13 55 XeB HT_ ?_; refine pn 14 56 XeC HT_ ?_; refine pn 15 57 XeD HT_ ?_; refine pn 16 58 XeE HT_ ?_; refine pn 17 59 XeF HT_ ?_; refine pn 18 60 XeG HT_ ?_; refine pn 19 61 XeH HT_ ?_; refine pn 20 62 TQ HT_ ?_; refine pn 21 63 TR HT_ ?_; refine pn 22 64 TS HT_ ?_; refine pu 23 65 TT HT_ ?_
          refine J7 (JC HT_.out zb14) ?_
          try go_wp2
          go_roundg kj2
          case measure => have := HK1.out; have := HJ2.out; omega
          case rel => exact ⟨(wrap64 (Xv + 1)), zb12, H', ⟨by have := HK1.out; have := HJ2.out; omega⟩, ⟨zb4⟩⟩
        ·rw [if_neg c21] at H
         exact absurd H (by simp)
       ·rw [if_neg c20] at H
        exact absurd H (by simp)
   ·rw [if_neg c2] at H
    have c2b0 : decide (Xv < (l0.length : Int)) = false := decide_eq_false c2; clear c2; obtain rfl := Option.some.inj H
    go_wp2
    go_ret
    exact ⟨zb8, zb4⟩
mutual
def Xq.l0 : Nat → List (S41) → Int → Option (Bool)
 | 0, _, _ => none
 | k + 1, x0, x3 => if x3 < (x0.length : Int) then (if 0 ≤ x3 then ((Yy.f k ((Xa x0 x3).f0) ((Xa x0 x3).f1) ((Xa x0 x3).f2) ((Xa x0 x3).f3) ((Xa x0 x3).f4) ((Xa x0 x3).f5) ((Xa x0 x3).f6) ((Xa x0 x3).f7)).bind fun ZF => (if ZF = true then (if x3 ≤ (x0.length : Int) then ((Xn.f k (x0.take (x3 : Int).toNat) ((Xa x0 x3).f1)).bind fun t305 => (if ((Xa x0 x3).f6) = t305 then (Xq.j1 k x0 x3 (decide (((Xa x0 x3).f7) > x3))) else (Xq.j1 k x0 x3 true))) else (none)) else (Xq.j1 k x0 x3 true))) else (none)) else (some (decide ((x0.length : Int) ≤ 150)))
def Xq.j1 : Nat → List (S41) → Int → Bool → Option (Bool)
 | 0, _, _, _ => none
 | k + 1, x0, x3, x41 => if x41 = true then (some false) else (if 0 ≤ x3 then (if x3 < (x0.length : Int) then (if ((Xa x0 x3).f7) > 0 then (if 0 ≤ (wrap64 (((Xa x0 x3).f7) - 1)) then (if (wrap64 (((Xa x0 x3).f7) - 1)) < (x0.length : Int) then (if ((Xa x0 (wrap64 (((Xa x0 x3).f7) - 1))).f1) = ((Xa x0 x3).f1) then (Xq.l0 k x0 (wrap64 (x3 + 1))) else (some false)) else (none)) else (none)) else (Xq.l0 k x0 (wrap64 (x3 + 1)))) else (none)) else (none))
end
def Xq.f (k : Nat) (l0 : List (S41)) : Option (Bool) := Xq.l0 k l0 0
theorem Xq.Gu : ∀ k, (∀ y0 y1, LeO (Xq.l0 k y0 y1) (Xq.l0 (k + 1) y0 y1)) ∧ (∀ y0 y1 y2, LeO (Xq.j1 k y0 y1 y2) (Xq.j1 (k + 1) y0 y1 y2))
 | 0 => ⟨fun _ _ r h => by simp [Xq.l0] at h, fun _ _ _ r h => by simp [Xq.j1] at h⟩
 | k + 1 => by
  obtain ⟨ih0, ih1⟩ := Xq.Gu k; refine ⟨?_, ?_⟩
  ·intro y0 y1
   unfold Xq.l0
   repeat' first
   | (with_reducible exact ih0 _ _)
   | (with_reducible exact ih1 _ _ _)
   | (with_reducible exact Yy.mono _ _ _ _ _ _ _ _ _)
   | (with_reducible exact Xn.mono _ _ _)
   | (with_reducible exact LeO.refl _)
   | (with_reducible exact LeO.none _)
   | (with_reducible refine LeO.ite ?_ ?_)
   | (with_reducible refine LeO.bind ?_ (fun _ => ?_))
   | exact ih0 _ _
   | exact ih1 _ _ _
   | exact Yy.mono _ _ _ _ _ _ _ _ _
   | exact Xn.mono _ _ _
   | exact LeO.none _
   | refine LeO.ite ?_ ?_
   | refine LeO.bind ?_ (fun _ => ?_)
  ·intro y0 y1 y2
   unfold Xq.j1
   repeat' first
   | (with_reducible exact ih0 _ _)
   | (with_reducible exact ih1 _ _ _)
   | (with_reducible exact Yy.mono _ _ _ _ _ _ _ _ _)
   | (with_reducible exact Xn.mono _ _ _)
   | (with_reducible exact LeO.refl _)
   | (with_reducible exact LeO.none _)
   | (with_reducible refine LeO.ite ?_ ?_)
   | (with_reducible refine LeO.bind ?_ (fun _ => ?_))
   | exact ih0 _ _
   | exact ih1 _ _ _
   | exact Yy.mono _ _ _ _ _ _ _ _ _
   | exact Xn.mono _ _ _
   | exact LeO.none _
   | refine LeO.ite ?_ ?_
   | refine LeO.bind ?_ (fun _ => ?_)
theorem Xq.mono : ∀ a0 k, LeO (Xq.f k a0) (Xq.f (k + 1) a0) := by
 intro a0 k; obtain ⟨ih0, ih1⟩ := Xq.Gu k
 unfold Xq.f
 repeat' first
  | (with_reducible exact ih0 _ _)
  | (with_reducible exact ih1 _ _ _)
  | (with_reducible exact Yy.mono _ _ _ _ _ _ _ _ _)
  | (with_reducible exact Xn.mono _ _ _)
  | (with_reducible exact LeO.refl _)
  | (with_reducible exact LeO.none _)
  | (with_reducible refine LeO.ite ?_ ?_)
  | (with_reducible refine LeO.bind ?_ (fun _ => ?_))
  | exact ih0 _ _
  | exact ih1 _ _ _
  | exact Yy.mono _ _ _ _ _ _ _ _ _
  | exact Xn.mono _ _ _
  | exact LeO.none _
  | refine LeO.ite ?_ ?_
  | refine LeO.bind ?_ (fun _ => ?_)
end Go.Proofs.Ytcefiblpnegepaa.Pr
