import Derived.Test.YtcefiblpnegepaaQByq
import Derived.Test.YtcefiblpnegepaaQPrK
import Derived.Test.YtcefiblpnegepaaQPrLogA
import Derived.Test.YtcefiblpnegepaaQSh
import Derived.Test.YtcefiblpnegepaaQSx
import Derived.Test.YtcefiblpnegepaaQOks
namespace Go.Proofs.Ytcefiblpnegepaa.Pr
open Go.RowKit Go.Proofs.YtcefiblpnegepaaW.PrintWords Go.Proofs.YtcefiblpnegepaaW.PrintLast Go.Proofs.YtcefiblpnegepaaW.PrintMore
attribute [local go_sem] max2_int min2_int max_two min_two max_three min_three max_four min_four
theorem az {p : Prop} (h : p) : Aside0 p := ⟨h⟩
set_option linter.unusedVariables false
set_option linter.unusedSimpArgs false
abbrev mPrLogB0 : Array Bool := #[false, false, false, false, false, false, false, false, false, false, false, false, false, false, false, false, false, false, false, false, false, false, false, false, false, false, false, false, false, false, false, false]
abbrev mPrLogB1 : Array Bool := #[true, false, false, false, false, false, false, false, false, false, false, false, false, false, false, false, false, false, false, false, false, false, false, false, false, false, false, false, false, false, false, false]
abbrev mPrLogB2 : Array Bool := #[true, true, false, false, false, false, false, false, false, false, false, false, false, false, false, false, false, false, false, false, false, false, false, false, false, false, false, false, false, false, false, false]
abbrev mPrLogB3 : Array Bool := #[true, true, true, false, false, false, false, false, false, false, false, false, false, false, false, false, false, false, false, false, false, false, false, false, false, false, false, false, false, false, false, false]
abbrev mPrLogB4 : Array Bool := #[true, true, true, true, false, false, false, false, false, false, false, false, false, false, false, false, false, false, false, false, false, false, false, false, false, false, false, false, false, false, false, false]
abbrev mPrLogB5 : Array Bool := #[true, true, true, true, true, false, false, false, false, false, false, false, false, false, false, false, false, false, false, false, false, false, false, false, false, false, false, false, false, false, false, false]
abbrev mPrLogB6 : Array Bool := #[true, true, true, true, true, true, false, false, false, false, false, false, false, false, false, false, false, false, false, false, false, false, false, false, false, false, false, false, false, false, false, false]
abbrev mPrLogB7 : Array Bool := #[true, true, true, true, true, true, true, false, false, false, false, false, false, false, false, false, false, false, false, false, false, false, false, false, false, false, false, false, false, false, false, false]
abbrev mPrLogB8 : Array Bool := #[true, true, true, true, true, true, true, true, false, false, false, false, false, false, false, false, false, false, false, false, false, false, false, false, false, false, false, false, false, false, false, false]
abbrev mPrLogB9 : Array Bool := #[true, true, true, true, true, true, true, true, true, false, false, false, false, false, false, false, false, false, false, false, false, false, false, false, false, false, false, false, false, false, false, false]
abbrev mPrLogB10 : Array Bool := #[true, true, true, true, true, true, true, true, true, true, false, false, false, false, false, false, false, false, false, false, false, false, false, false, false, false, false, false, false, false, false, false]
abbrev mPrLogB11 : Array Bool := #[true, true, true, true, true, true, true, true, true, true, true, false, false, false, false, false, false, false, false, false, false, false, false, false, false, false, false, false, false, false, false, false]
abbrev mPrLogB12 : Array Bool := #[true, true, true, true, true, true, true, true, true, true, true, false, true, false, false, false, false, false, false, false, false, false, false, false, false, false, false, false, false, false, false, false]
abbrev mPrLogB13 : Array Bool := #[true, true, true, true, true, true, true, true, true, true, true, true, false, false, false, false, false, false, false, false, false, false, false, false, false, false, false, false, false, false, false, false]
abbrev mPrLogB14 : Array Bool := #[true, true, true, true, true, true, true, true, true, true, true, false, true, true, false, false, false, false, false, false, false, false, false, false, false, false, false, false, false, false, false, false]
abbrev mPrLogB15 : Array Bool := #[true, true, true, true, true, true, true, true, true, true, true, true, true, false, false, false, false, false, false, false, false, false, false, false, false, false, false, false, false, false, false, false]
abbrev mPrLogB16 : Array Bool := #[true, true, true, true, true, true, true, true, true, true, true, false, true, true, true, false, false, false, false, false, false, false, false, false, false, false, false, false, false, false, false, false]
abbrev mPrLogB17 : Array Bool := #[true, true, true, true, true, true, true, true, true, true, true, true, true, true, false, false, false, false, false, false, false, false, false, false, false, false, false, false, false, false, false, false]
abbrev mPrLogB18 : Array Bool := #[true, true, true, true, true, true, true, true, true, true, true, false, true, true, true, true, false, false, false, false, false, false, false, false, false, false, false, false, false, false, false, false]
abbrev mPrLogB19 : Array Bool := #[true, true, true, true, true, true, true, true, true, true, true, true, true, true, true, false, false, false, false, false, false, false, false, false, false, false, false, false, false, false, false, false]
abbrev mPrLogB20 : Array Bool := #[true, true, true, true, true, true, true, true, true, true, true, false, true, true, true, true, true, false, false, false, false, false, false, false, false, false, false, false, false, false, false, false]
abbrev mPrLogB21 : Array Bool := #[true, true, true, true, true, true, true, true, true, true, true, true, true, true, true, true, false, false, false, false, false, false, false, false, false, false, false, false, false, false, false, false]
abbrev mPrLogB22 : Array Bool := #[true, true, true, true, true, true, true, true, true, true, true, false, true, true, true, true, true, true, false, false, false, false, false, false, false, false, false, false, false, false, false, false]
abbrev mPrLogB23 : Array Bool := #[true, true, true, true, true, true, true, true, true, true, true, true, true, true, true, true, true, false, false, false, false, false, false, false, false, false, false, false, false, false, false, false]
abbrev mPrLogB24 : Array Bool := #[true, true, true, true, true, true, true, true, true, true, true, false, true, true, true, true, true, true, true, false, false, false, false, false, false, false, false, false, false, false, false, false]
abbrev mPrLogB25 : Array Bool := #[true, true, true, true, true, true, true, true, true, true, true, true, true, true, true, true, true, true, false, false, false, false, false, false, false, false, false, false, false, false, false, false]
abbrev mPrLogB26 : Array Bool := #[true, true, true, true, true, true, true, true, true, true, true, true, true, true, true, true, true, true, true, false, false, false, false, false, false, false, false, false, false, false, false, false]
abbrev mPrLogB27 : Array Bool := #[true, true, true, true, true, true, true, true, true, true, true, true, true, true, true, true, true, true, true, true, false, false, false, false, false, false, false, false, false, false, false, false]
abbrev mPrLogB28 : Array Bool := #[true, true, true, true, true, true, true, true, true, true, true, true, true, true, true, true, true, true, true, true, true, false, false, false, false, false, false, false, false, false, false, false]
abbrev mPrLogB29 : Array Bool := #[true, true, true, true, true, true, true, true, true, true, true, true, true, true, true, true, true, true, true, true, true, true, false, false, false, false, false, false, false, false, false, false]
abbrev mPrLogB30 : Array Bool := #[true, true, true, true, true, true, true, true, true, true, true, true, true, true, true, true, true, true, true, true, true, true, true, false, false, false, false, false, false, false, false, false]
abbrev mPrLogB31 : Array Bool := #[true, true, true, true, true, true, true, true, true, true, true, true, true, true, true, true, true, true, true, true, true, true, true, true, false, false, false, false, false, false, false, false]
abbrev mPrLogB32 : Array Bool := #[true, true, true, true, true, true, true, true, true, true, true, true, true, true, true, true, true, true, true, true, true, true, true, true, true, false, false, false, false, false, false, false]
abbrev mPrLogB33 : Array Bool := #[true, true, true, true, true, true, true, true, true, true, true, true, true, true, true, true, true, true, true, true, true, true, true, true, true, true, false, false, false, false, false, false]
abbrev mPrLogB34 : Array Bool := #[true, true, true, true, true, true, true, true, true, true, true, true, true, true, true, true, true, true, true, true, true, true, true, true, true, true, true, false, false, false, false, false]
abbrev mPrLogB35 : Array Bool := #[true, true, true, true, true, true, true, true, true, true, true, true, true, true, true, true, true, true, true, true, true, true, true, true, true, true, true, true, false, false, false, false]
abbrev mPrLogB36 : Array Bool := #[true, true, true, true, true, true, true, true, true, true, true, true, true, true, true, true, true, true, true, true, true, true, true, true, true, true, true, true, false, true, false, false]
abbrev mPrLogB37 : Array Bool := #[true, true, true, true, true, true, true, true, true, true, true, true, true, true, true, true, true, true, true, true, true, true, true, true, true, true, true, true, true, false, false, false]
abbrev mPrLogB38 : Array Bool := #[true, true, true, true, true, true, true, true, true, true, true, true, true, true, true, true, true, true, true, true, true, true, true, true, true, true, true, true, true, true, false, false]
abbrev mPrLogB39 : Array Bool := #[true, true, true, true, true, true, true, true, true, true, true, true, true, true, true, true, true, true, true, true, true, true, true, true, true, true, true, true, true, true, true, false]
abbrev mPrLogB40 : Array Bool := #[true, true, true, true, true, true, true, true, true, true, true, true, true, true, true, true, true, true, true, true, true, true, true, true, true, true, true, true, true, true, true, true]
abbrev mPrLogB41 : Array Bool := #[false, false, false, false, false, false, false, false, false, false, false, false, false, false, false, false, false, false, false, false, false, false, false, false]
abbrev mPrLogB42 : Array Bool := #[true, false, false, false, false, false, false, false, false, false, false, false, false, false, false, false, false, false, false, false, false, false, false, false]
abbrev mPrLogB43 : Array Bool := #[true, true, false, false, false, false, false, false, false, false, false, false, false, false, false, false, false, false, false, false, false, false, false, false]
abbrev mPrLogB44 : Array Bool := #[true, true, true, false, false, false, false, false, false, false, false, false, false, false, false, false, false, false, false, false, false, false, false, false]
abbrev mPrLogB45 : Array Bool := #[true, true, true, true, false, false, false, false, false, false, false, false, false, false, false, false, false, false, false, false, false, false, false, false]
abbrev mPrLogB46 : Array Bool := #[true, true, true, true, true, false, false, false, false, false, false, false, false, false, false, false, false, false, false, false, false, false, false, false]
abbrev mPrLogB47 : Array Bool := #[true, true, true, true, true, true, false, false, false, false, false, false, false, false, false, false, false, false, false, false, false, false, false, false]
abbrev mPrLogB48 : Array Bool := #[true, true, true, true, true, true, true, false, false, false, false, false, false, false, false, false, false, false, false, false, false, false, false, false]
abbrev mPrLogB49 : Array Bool := #[true, true, true, true, true, true, true, true, false, false, false, false, false, false, false, false, false, false, false, false, false, false, false, false]
abbrev mPrLogB50 : Array Bool := #[true, true, true, true, true, true, true, true, true, false, false, false, false, false, false, false, false, false, false, false, false, false, false, false]
abbrev mPrLogB51 : Array Bool := #[true, true, true, true, true, true, true, true, true, true, false, false, false, false, false, false, false, false, false, false, false, false, false, false]
abbrev mPrLogB52 : Array Bool := #[true, true, true, true, true, true, true, true, true, true, true, false, false, false, false, false, false, false, false, false, false, false, false, false]
abbrev mPrLogB53 : Array Bool := #[true, true, true, true, true, true, true, true, true, true, true, true, false, false, false, false, false, false, false, false, false, false, false, false]
abbrev mPrLogB54 : Array Bool := #[true, true, true, true, true, true, true, true, true, true, true, true, false, false, false, false, false, true, false, false, false, false, false, false]
abbrev mPrLogB55 : Array Bool := #[true, true, true, true, true, true, true, true, true, true, true, true, true, false, false, false, false, false, false, false, false, false, false, false]
abbrev mPrLogB56 : Array Bool := #[true, true, true, true, true, true, true, true, true, true, true, true, false, false, false, false, false, true, true, false, false, false, false, false]
abbrev mPrLogB57 : Array Bool := #[true, true, true, true, true, true, true, true, true, true, true, true, true, true, false, false, false, false, false, false, false, false, false, false]
abbrev mPrLogB58 : Array Bool := #[true, true, true, true, true, true, true, true, true, true, true, true, false, false, false, false, false, true, true, true, false, false, false, false]
abbrev mPrLogB59 : Array Bool := #[true, true, true, true, true, true, true, true, true, true, true, true, true, true, true, false, false, false, false, false, false, false, false, false]
abbrev mPrLogB60 : Array Bool := #[true, true, true, true, true, true, true, true, true, true, true, true, false, false, false, false, false, true, true, true, true, false, false, false]
abbrev mPrLogB61 : Array Bool := #[true, true, true, true, true, true, true, true, true, true, true, true, true, true, true, true, false, false, false, false, false, false, false, false]
abbrev mPrLogB62 : Array Bool := #[true, true, true, true, true, true, true, true, true, true, true, true, true, false, false, false, false, true, true, true, true, false, false, false]
abbrev mPrLogB63 : Array Bool := #[true, true, true, true, true, true, true, true, true, true, true, true, true, true, true, true, true, false, false, false, false, false, false, false]
abbrev mPrLogB64 : Array Bool := #[true, true, true, true, true, true, true, true, true, true, true, true, true, true, false, false, false, true, true, true, true, false, false, false]
abbrev mPrLogB65 : Array Bool := #[true, true, true, true, true, true, true, true, true, true, true, true, true, true, true, true, true, true, false, false, false, false, false, false]
abbrev mPrLogB66 : Array Bool := #[true, true, true, true, true, true, true, true, true, true, true, true, true, true, true, false, false, true, true, true, true, false, false, false]
abbrev mPrLogB67 : Array Bool := #[true, true, true, true, true, true, true, true, true, true, true, true, true, true, true, true, true, true, true, false, false, false, false, false]
abbrev mPrLogB68 : Array Bool := #[true, true, true, true, true, true, true, true, true, true, true, true, true, true, true, true, false, true, true, true, true, false, false, false]
abbrev mPrLogB69 : Array Bool := #[true, true, true, true, true, true, true, true, true, true, true, true, true, true, true, true, true, true, true, true, false, false, false, false]
abbrev mPrLogB70 : Array Bool := #[true, true, true, true, true, true, true, true, true, true, true, true, true, true, true, true, true, true, true, true, true, false, false, false]
abbrev mPrLogB71 : Array Bool := #[true, true, true, true, true, true, true, true, true, true, true, true, true, true, true, true, true, true, true, true, true, true, false, false]
abbrev mPrLogB72 : Array Bool := #[true, true, true, true, true, true, true, true, true, true, true, true, true, true, true, true, true, true, true, true, true, true, true, false]
abbrev mPrLogB73 : Array Bool := #[true, true, true, true, true, true, true, true, true, true, true, true, true, true, true, true, true, true, true, true, true, true, true, true]
mutual
def spec_LogOk.l0 : Nat → List (S41) → Int → Option (Bool)
 | 0, _, _ => none
 | k + 1, x0, x3 => if x3 < (x0.length : Int) then (if 0 ≤ x3 then ((spec_RecOk.f k ((rd_T41 x0 x3).f0) ((rd_T41 x0 x3).f1) ((rd_T41 x0 x3).f2) ((rd_T41 x0 x3).f3) ((rd_T41 x0 x3).f4) ((rd_T41 x0 x3).f5) ((rd_T41 x0 x3).f6) ((rd_T41 x0 x3).f7)).bind fun t268 => (if t268 = true then (if x3 ≤ (x0.length : Int) then ((spec_l3Last.f k (x0.take (x3 : Int).toNat) ((rd_T41 x0 x3).f1)).bind fun t275 => (if ((rd_T41 x0 x3).f6) = t275 then (spec_LogOk.j1 k x0 x3 (decide (((rd_T41 x0 x3).f7) > x3))) else (spec_LogOk.j1 k x0 x3 true))) else (none)) else (spec_LogOk.j1 k x0 x3 true))) else (none)) else (some (decide ((x0.length : Int) ≤ 150)))
def spec_LogOk.j1 : Nat → List (S41) → Int → Bool → Option (Bool)
 | 0, _, _, _ => none
 | k + 1, x0, x3, x41 => if x41 = true then (some false) else (if 0 ≤ x3 then (if x3 < (x0.length : Int) then (if ((rd_T41 x0 x3).f7) > 0 then (if 0 ≤ (wrap64 (((rd_T41 x0 x3).f7) - 1)) then (if (wrap64 (((rd_T41 x0 x3).f7) - 1)) < (x0.length : Int) then (if ((rd_T41 x0 (wrap64 (((rd_T41 x0 x3).f7) - 1))).f1) = ((rd_T41 x0 x3).f1) then (spec_LogOk.l0 k x0 (wrap64 (x3 + 1))) else (some false)) else (none)) else (none)) else (spec_LogOk.l0 k x0 (wrap64 (x3 + 1)))) else (none)) else (none))
end
def spec_LogOk.f (k : Nat) (l0 : List (S41)) : Option (Bool) := spec_LogOk.l0 k l0 0
def spec_LogOk.T4 : Bool × List (List Nat × List Nat) := (true, [([], []), ([], []), ([0, 1], [0, 1]), ([2], [2]), ([3], [3]), ([4], [4]), ([5, 4], [5]), ([6], [6]), ([6], [6]), ([7, 8, 6], [6, 7, 8]), ([9, 6], [6, 9]), ([10, 6], [6, 10]), ([6], [6]), ([6], [6]), ([12, 13, 6], [6, 12, 13]), ([6], [6]), ([6], [6]), ([15, 16, 6], [6, 15, 16]), ([17, 6], [6, 17]), ([18, 6], [6, 18]), ([14, 19, 6, 6], [6, 14, 19]), ([11, 20, 6], [6, 11, 20]), ([6, 21], [6, 21]), ([22, 20], [22]), ([23], [23]), ([23], [23]), ([24, 25, 23], [23, 24, 25]), ([26, 23], [23, 26]), ([27, 23], [23, 27]), ([23], [23]), ([28, 29, 23], [23, 28, 29]), ([23, 30], [23, 30])])
def spec_LogOk.B4 : List Nat := [0, 0, 3, 7, 15, 31, 63, 127, 127, 511, 1023, 2047, 127, 127, 12415, 127, 127, 98431, 229503, 491647, 1044607, 2097151, 4194303, 8388607, 16777215, 16777215, 67108863, 134217727, 268435455, 16777215, 1073741823, 2147483647]
theorem spec_LogOk.tab4 : rtab .any (opsOf Try.f32 4) = spec_LogOk.T4 := by kernel_rfl
theorem spec_LogOk.bits4 : waitsOk spec_LogOk.T4.2 spec_LogOk.B4 = true := by kernel_rfl
def spec_LogOk.T6 : Bool × List (List Nat × List Nat) := (true, [([], []), ([], []), ([0, 1], [0, 1]), ([2], [2]), ([3], [3]), ([4], [4]), ([5], [5]), ([6], [6]), ([6], [6]), ([6], [6]), ([8, 9, 6], [6, 8, 9]), ([10, 6], [6, 10]), ([11, 6], [6, 11]), ([12, 6], [6, 12]), ([7, 13, 6], [6, 7, 13]), ([14, 6], [6, 14]), ([15, 6], [6, 15]), ([6], [6]), ([6], [6]), ([17, 18, 6], [6, 17, 18]), ([19, 6], [6, 19]), ([20, 6], [6, 20]), ([16, 21, 6], [6, 16, 21]), ([6, 22], [6, 22])])
def spec_LogOk.B6 : List Nat := [0, 0, 3, 7, 15, 31, 63, 127, 127, 127, 895, 1919, 3967, 8063, 16383, 32767, 65535, 127, 127, 393343, 917631, 1966207, 4194303, 8388607]
theorem spec_LogOk.tab6 : rtab .any (opsOf Try.f32 6) = spec_LogOk.T6 := by kernel_rfl
theorem spec_LogOk.bits6 : waitsOk spec_LogOk.T6.2 spec_LogOk.B6 = true := by kernel_rfl
set_option maxHeartbeats 8000000 in
set_option maxRecDepth 100000 in
theorem spec_LogOk.calls (k : Nat) (A0 : Option Addr) (c0 : Nat) (l0 : List (S41)) (r : Bool) (w : World) (hr0 : Kd.C k41 w A0 l0.length l0) (hc0 : l0.length ≤ c0) (h : spec_LogOk.f k l0 = some r) :
 Calls Try.prog 32 #[.slice A0 l0.length c0] w fun e w' => e = .returned (.bool r) ∧ Below w.heap.size w w' := by
 have hu41 := Try.underlying41; have HR0 := az hr0; have HC0 := az hc0; clear hr0 hc0; have HB := az (Below.refl w.heap.size w); have H : (spec_LogOk.l0 k l0 0) = some r := h; clear h; have H' := az H; clear H
 go_enter Try.func32, Try.ntmps32
 go_wp2
 go_loopg [3] k (fun kq v3 w' => ∃ (x3_1 : Int), v3 = .int .i64 x3_1 ∧ Aside0 (spec_LogOk.l0 kq l0 x3_1 = some r) ∧ Aside0 (kq ≤ k) ∧ Aside0 (Below w.heap.size w w'))
 case atStart => exact ⟨(0), zb15, H', ⟨Nat.le_refl _⟩, ⟨zb9⟩⟩
 case round =>
  clear H'; obtain ⟨x3_1, rfl, HA, HK1, HB⟩ := hrel
  cases gk with
  | zero => exact absurd HA.out (by simp [spec_LogOk.l0])
  | succ k1 =>
   have H := HA.out; clear HA; simp only [spec_LogOk.l0] at H
   by_cases c2 : x3_1 < (l0.length : Int)
   ·rw [if_pos c2] at H
    have c2b0 : decide (x3_1 < (l0.length : Int)) = true := decide_eq_true c2; clear c2; have HC3 := az H; clear H
    go_upto_region 4 with (fail)
    go_cut [41] (fun v41 wc => ∃ (kq : Nat) (x41_2 : Bool), v41 = .bool x41_2 ∧ Aside0 (spec_LogOk.j1 kq l0 x3_1 x41_2 = some r) ∧ Aside0 (kq ≤ k1) ∧ Aside0 (Below w.heap.size w wc))
    case first =>
     have H := HC3.out; clear HC3
     by_cases c4 : 0 ≤ x3_1
     ·rw [if_pos c4] at H
      have c4b0 : decide (0 ≤ x3_1) = true := decide_eq_true c4; clear c4
      (first | rw [c4b0] | (simp only [i64_w, i32_w]; rw [c4b0]) | skip)
      replace H := Option.bind_eq_some_iff.mp H; obtain ⟨t268, A50, H⟩ := H; replace H : (if t268 = true then (if x3_1 ≤ (l0.length : Int) then ((spec_l3Last.f k1 (l0.take (x3_1 : Int).toNat) ((rd_T41 l0 x3_1).f1)).bind fun t275 => (if ((rd_T41 l0 x3_1).f6) = t275 then (spec_LogOk.j1 k1 l0 x3_1 (decide (((rd_T41 l0 x3_1).f7) > x3_1))) else (spec_LogOk.j1 k1 l0 x3_1 true))) else (none)) else (spec_LogOk.j1 k1 l0 x3_1 true)) = some r := H; have A5 := az A50; clear A50
      by_cases c6 : t268 = true
      ·subst c6
       have H1 : (if x3_1 ≤ (l0.length : Int) then ((spec_l3Last.f k1 (l0.take (x3_1 : Int).toNat) ((rd_T41 l0 x3_1).f1)).bind fun t275 => (if ((rd_T41 l0 x3_1).f6) = t275 then (spec_LogOk.j1 k1 l0 x3_1 (decide (((rd_T41 l0 x3_1).f7) > x3_1))) else (spec_LogOk.j1 k1 l0 x3_1 true))) else (none)) = some r := by rw [if_pos rfl] at H; exact H
       clear H; have H := H1; clear H1; have c7b0 := eq_true (of_decide_eq_true zb10 : 0 ≤ x3_1)
       by_cases c8 : x3_1 ≤ (l0.length : Int)
       ·rw [if_pos c8] at H
        have c8b0 := eq_true c8; have c8b1 : decide (x3_1 ≤ (l0.length : Int)) = true := decide_eq_true c8; clear c8
        obtain ⟨y270, hy270⟩ : ∃ y_ : List (S41), y_ = (l0.take (x3_1 : Int).toNat) := ⟨_, rfl⟩
        replace H : ((spec_l3Last.f k1 y270 ((rd_T41 l0 x3_1).f1)).bind fun t275 => (if ((rd_T41 l0 x3_1).f6) = t275 then (spec_LogOk.j1 k1 l0 x3_1 (decide (((rd_T41 l0 x3_1).f7) > x3_1))) else (spec_LogOk.j1 k1 l0 x3_1 true))) = some r := by first | (rw [hy270]; with_reducible exact H) | (have H2_ := (Option.bind_some _ _).symm.trans H; rw [hy270]; with_reducible exact H2_) | (have H2_ := (Option.bind_some _ _).symm.trans H; with_reducible exact H2_) | with_reducible exact H | (rw [hy270]; exact H) | exact H
        have Ny270 := az hy270; clear hy270; replace H := Option.bind_eq_some_iff.mp H; obtain ⟨t275, A90, H⟩ := H; replace H : (if ((rd_T41 l0 x3_1).f6) = t275 then (spec_LogOk.j1 k1 l0 x3_1 (decide (((rd_T41 l0 x3_1).f7) > x3_1))) else (spec_LogOk.j1 k1 l0 x3_1 true)) = some r := H; have A9 := az A90; clear A90
        by_cases c10 : ((rd_T41 l0 x3_1).f6) = t275
        ·rw [if_pos c10] at H
         have c10b0 : (((rd_T41 l0 x3_1).f6) == t275) = true := beq_iff_eq.mpr c10; have c10b1 : (((rd_T41 l0 x3_1).f6) != t275) = false := bne_eq_false_iff_eq.mpr c10; clear c10; have H' := az H; clear H
         try go_wp2
         have n0_ := az (below_drew1 HB.out); clear HB; have HB := n0_; clear n0_; have p267 : 0 ≤ (x3_1 : Int) := of_decide_eq_true zb10; have q267 : x3_1 < (l0.length : Int) := of_decide_eq_true zb10; obtain ⟨ad267, e267, hx267_0, hx267_1, hx267_2, hx267_3, hx267_4, hx267_5, hx267_6, hx267_7⟩ := at_T41 HR0.out x3_1 p267 q267; have hw267_7 := hx267_7; have hw267_6 := hx267_6; have hw267_5 := hx267_5; have hw267_4 := hx267_4; have hw267_3 := hx267_3; have hw267_2 := hx267_2; have hw267_1 := hx267_1; have hw267_0 := hx267_0
         cases e267
         replace hx267_0 := cb HB hx267_0; replace hx267_1 := cb HB hx267_1; replace hx267_2 := cb HB hx267_2; replace hx267_3 := cb HB hx267_3; replace hx267_4 := cb HB hx267_4; replace hx267_5 := cb HB hx267_5; replace hx267_6 := cb HB hx267_6; replace hx267_7 := cb HB hx267_7; replace p267 := eq_true p267; replace q267 := eq_true q267; have p269 : 0 ≤ (x3_1 : Int) := of_decide_eq_true zb10; have q269 : x3_1 < (l0.length : Int) := of_decide_eq_true zb10; obtain ⟨ad269, e269, hx269_0, hx269_1, hx269_2, hx269_3, hx269_4, hx269_5, hx269_6, hx269_7⟩ := at_T41 HR0.out x3_1 p269 q269; have hw269_7 := hx269_7; have hw269_6 := hx269_6; have hw269_5 := hx269_5; have hw269_4 := hx269_4; have hw269_3 := hx269_3; have hw269_2 := hx269_2; have hw269_1 := hx269_1; have hw269_0 := hx269_0
         obtain rfl : ad267 = ad269 := (by injection e269)
         replace hx269_0 := cb HB hx269_0; replace hx269_1 := cb HB hx269_1; replace hx269_2 := cb HB hx269_2; replace hx269_3 := cb HB hx269_3; replace hx269_4 := cb HB hx269_4; replace hx269_5 := cb HB hx269_5; replace hx269_6 := cb HB hx269_6; replace hx269_7 := cb HB hx269_7; replace p269 := eq_true p269; replace q269 := eq_true q269; have p274 : 0 ≤ (x3_1 : Int) := of_decide_eq_true zb10; have q274 : x3_1 < (l0.length : Int) := of_decide_eq_true zb10; obtain ⟨ad274, e274, hx274_0, hx274_1, hx274_2, hx274_3, hx274_4, hx274_5, hx274_6, hx274_7⟩ := at_T41 HR0.out x3_1 p274 q274; have hw274_7 := hx274_7; have hw274_6 := hx274_6; have hw274_5 := hx274_5; have hw274_4 := hx274_4; have hw274_3 := hx274_3; have hw274_2 := hx274_2; have hw274_1 := hx274_1; have hw274_0 := hx274_0
         obtain rfl : ad267 = ad274 := (by injection e274)
         replace hx274_0 := cb HB hx274_0; replace hx274_1 := cb HB hx274_1; replace hx274_2 := cb HB hx274_2; replace hx274_3 := cb HB hx274_3; replace hx274_4 := cb HB hx274_4; replace hx274_5 := cb HB hx274_5; replace hx274_6 := cb HB hx274_6; replace hx274_7 := cb HB hx274_7; replace p274 := eq_true p274; replace q274 := eq_true q274; have p276 : 0 ≤ (x3_1 : Int) := of_decide_eq_true zb10; have q276 : x3_1 < (l0.length : Int) := of_decide_eq_true zb10; obtain ⟨ad276, e276, hx276_0, hx276_1, hx276_2, hx276_3, hx276_4, hx276_5, hx276_6, hx276_7⟩ := at_T41 HR0.out x3_1 p276 q276; have hw276_7 := hx276_7; have hw276_6 := hx276_6; have hw276_5 := hx276_5; have hw276_4 := hx276_4; have hw276_3 := hx276_3; have hw276_2 := hx276_2; have hw276_1 := hx276_1; have hw276_0 := hx276_0
         obtain rfl : ad267 = ad276 := (by injection e276)
         replace hx276_0 := cb HB hx276_0; replace hx276_1 := cb HB hx276_1; replace hx276_2 := cb HB hx276_2; replace hx276_3 := cb HB hx276_3; replace hx276_4 := cb HB hx276_4; replace hx276_5 := cb HB hx276_5; replace hx276_6 := cb HB hx276_6; replace hx276_7 := cb HB hx276_7; replace p276 := eq_true p276; replace q276 := eq_true q276; refine start_ (n := 32) (S := fun w' => r8 w' (ad267.add ((x3_1).toNat * 8)) (rd_T41 l0 x3_1) (r8 w' (ad267.add ((x3_1).toNat * 8)) (rd_T41 l0 x3_1) (r8 w' (ad267.add ((x3_1).toNat * 8)) (rd_T41 l0 x3_1) (r8t w' (ad267.add ((x3_1).toNat * 8)) (rd_T41 l0 x3_1))))) (ds := []) mPrLogB0 zb14 rfl rfl ⟨(cb HB hw267_0), (cb HB hw267_1), (cb HB hw267_2), (cb HB hw267_3), (cb HB hw267_4), (cb HB hw267_5), (cb HB hw267_6), (cb HB hw267_7), (cb HB hw269_0), (cb HB hw269_1), (cb HB hw269_2), (cb HB hw269_3), (cb HB hw269_4), (cb HB hw269_5), (cb HB hw269_6), (cb HB hw269_7), (cb HB hw274_0), (cb HB hw274_1), (cb HB hw274_2), (cb HB hw274_3), (cb HB hw274_4), (cb HB hw274_5), (cb HB hw274_6), (cb HB hw274_7), (cb HB hw276_0), (cb HB hw276_1), (cb HB hw276_2), (cb HB hw276_3), (cb HB hw276_4), (cb HB hw276_5), (cb HB hw276_6), (cb HB hw276_7)⟩ (fun hHeld => ?_); refine with_tabW spec_LogOk.tab4 spec_LogOk.bits4 (fun HT_ HW_ => ?_); generalize wr.drew = w11 at HB hx267_0 hx267_1 hx267_2 hx267_3 hx267_4 hx267_5 hx267_6 hx267_7 hx269_0 hx269_1 hx269_2 hx269_3 hx269_4 hx269_5 hx269_6 hx269_7 hx274_0 hx274_1 hx274_2 hx274_3 hx274_4 hx274_5 hx274_6 hx274_7 hx276_0 hx276_1 hx276_2 hx276_3 hx276_4 hx276_5 hx276_6 hx276_7 hHeld ⊢; refine pu 0 10 mPrLogB1 HT_ ?_; refine pu 1 11 mPrLogB2 HT_ ?_
         refine pu 2 12 mPrLogB3 HT_ ?_; refine tk 3 13 mPrLogB4 HT_ HW_ hHeld ?_; refine one_ (i := 4) (N := some 14) mPrLogB5 rfl rfl (one_of HT_.out zb14) (by decide) (fun K hK => ?_); refine goes_ Try.func83 zb14 rfl #[agx (rd_T41 l0 x3_1) ((rd_T41 l0 x3_1).f1) ((rd_T41 l0 x3_1).f7)] (by rfl) rfl rfl zb3 ?_
         with_reducible refine (spec_RecOk.calls k1 ((rd_T41 l0 x3_1).f0) ((rd_T41 l0 x3_1).f1) ((rd_T41 l0 x3_1).f2) ((rd_T41 l0 x3_1).f3) ((rd_T41 l0 x3_1).f4) ((rd_T41 l0 x3_1).f5) ((rd_T41 l0 x3_1).f6) ((rd_T41 l0 x3_1).f7) true _ A5.out).mono ?_
         rintro e w12 ⟨rfl, hb⟩; refine ⟨_, rfl, ?_⟩; have n0_ := az (below_step zb9 hb); clear HB; have HB := n0_
         clear n0_;(try clear hb);(try clear hb2);(try clear hk);(try clear hi)
         have q13 : (x3_1 : Int) ≤ ((l0.length : Int) : Int) := of_decide_eq_true zb10; obtain ⟨i013, hi013, _, hsz13, _⟩ := info_parts info41; have hroom13 : l0.length ≤ c0 := HC0.out; have hC13 : Kd.C k41 _ (some ad267) l0.length l0 := HR0.out; have hcut13 := cut_to (P := Try.prog) 34 41 .i64 Try.underlying34 hi013 (some ad267) l0.length c0 x3_1 (of_decide_eq_true zb10) q13 hroom13; have hr13 := Kd.C_take (m := (x3_1 : Int).toNat) hC13 (by omega)
         have hy13 : y270.length = (x3_1 : Int).toNat := (by rw [Ny270.out, List.length_take]; omega)
         rw [← Ny270.out] at hr13; rw [← hy13] at hcut13; have HR273 := az hr13; have HC273 := az (show y270.length ≤ c0 from by omega); clear hr13 hC13 hroom13 hi013 hsz13; have KY13 := az hy13; clear hy13; replace q13 := eq_true q13; refine hK.out _ _ ⟨(cb HB hw267_0 :), (cb HB hw267_1 :), (cb HB hw267_2 :), (cb HB hw267_3 :), (cb HB hw267_4 :), (cb HB hw267_5 :), (cb HB hw267_6 :), (cb HB hw267_7 :), (cb HB hw269_0 :), (cb HB hw269_1 :), (cb HB hw269_2 :), (cb HB hw269_3 :), (cb HB hw269_4 :), (cb HB hw269_5 :), (cb HB hw269_6 :), (cb HB hw269_7 :), (cb HB hw274_0 :), (cb HB hw274_1 :), (cb HB hw274_2 :), (cb HB hw274_3 :), (cb HB hw274_4 :), (cb HB hw274_5 :), (cb HB hw274_6 :), (cb HB hw274_7 :), (cb HB hw276_0 :), (cb HB hw276_1 :), (cb HB hw276_2 :), (cb HB hw276_3 :), (cb HB hw276_4 :), (cb HB hw276_5 :), (cb HB hw276_6 :), (cb HB hw276_7 :)⟩ (fun hHeld => ?_); clear hK K; refine norm_ (a' := ?_) ?_ ?_; rotate_left
         ·show Act.put _ (some 14) _ = _
          simp only [Act.put, List.setIfInBounds_toArray, List.set_cons_zero, List.set_cons_succ, i64_w, i32_w]
          rfl
         refine pu 5 15 mPrLogB6 HT_ ?_; refine pu 6 16 mPrLogB7 HT_ ?_; refine pu 7 17 mPrLogB8 HT_ ?_; refine pu 8 18 mPrLogB9 HT_ ?_; refine pu 9 19 mPrLogB10 HT_ ?_; refine pu 10 20 mPrLogB11 HT_ ?_; refine pu 12 22 mPrLogB12 HT_ ?_; refine pu 13 23 mPrLogB14 HT_ ?_; refine pu 14 24 mPrLogB16 HT_ ?_; refine pu 15 25 mPrLogB18 HT_ ?_; refine pu 16 26 mPrLogB20 HT_ ?_; refine pu 17 27 mPrLogB22 HT_ ?_; refine pu 18 28 mPrLogB24 HT_ ?_; refine tk 11 21 mPrLogB26 HT_ HW_ hHeld ?_; refine tk 19 29 mPrLogB27 HT_ HW_ hHeld ?_; refine one_ (i := 20) (N := some 30) mPrLogB28 rfl rfl (one_of HT_.out zb14) (by decide) (fun K hK => ?_); refine goes_ Try.func84 zb14 rfl #[.slice (some ad267) y270.length c0, .int .i64 ((rd_T41 l0 x3_1).f1)] (by rfl) rfl rfl zb3 ?_
         with_reducible refine (spec_l3Last.calls k1 _ _ y270 ((rd_T41 l0 x3_1).f1) t275 _ ?side1 ?side2 A9.out).mono ?_
         (case side1 => exact zb92)
         (case side2 => exact HC273.out)
         rintro e w' ⟨rfl, ⟨nd, rfl⟩⟩; refine ⟨_, rfl, ?_⟩; refine hK.out _ _ ⟨(cb HB hw267_0 :), (cb HB hw267_1 :), (cb HB hw267_2 :), (cb HB hw267_3 :), (cb HB hw267_4 :), (cb HB hw267_5 :), (cb HB hw267_6 :), (cb HB hw267_7 :), (cb HB hw269_0 :), (cb HB hw269_1 :), (cb HB hw269_2 :), (cb HB hw269_3 :), (cb HB hw269_4 :), (cb HB hw269_5 :), (cb HB hw269_6 :), (cb HB hw269_7 :), (cb HB hw274_0 :), (cb HB hw274_1 :), (cb HB hw274_2 :), (cb HB hw274_3 :), (cb HB hw274_4 :), (cb HB hw274_5 :), (cb HB hw274_6 :), (cb HB hw274_7 :), (cb HB hw276_0 :), (cb HB hw276_1 :), (cb HB hw276_2 :), (cb HB hw276_3 :), (cb HB hw276_4 :), (cb HB hw276_5 :), (cb HB hw276_6 :), (cb HB hw276_7 :)⟩ (fun hHeld => ?_); clear hK K; refine norm_ (a' := ?_) ?_ ?_; rotate_left
         ·show Act.put _ (some 30) _ = _
          simp only [Act.put, List.setIfInBounds_toArray, List.set_cons_zero, List.set_cons_succ, i64_w, i32_w]
          rfl
         refine pu 21 31 mPrLogB29 HT_ ?_; refine pu 22 32 mPrLogB30 HT_ ?_; refine pu 23 33 mPrLogB31 HT_ ?_; refine pu 24 34 mPrLogB32 HT_ ?_; refine pu 25 35 mPrLogB33 HT_ ?_; refine pu 26 36 mPrLogB34 HT_ ?_; refine pu 27 37 mPrLogB35 HT_ ?_; refine pu 29 39 mPrLogB36 HT_ ?_; refine tk 28 38 mPrLogB38 HT_ HW_ hHeld ?_; refine pu 30 40 mPrLogB39 HT_ ?_; refine pu 31 41 mPrLogB40 HT_ ?_; refine done_ (done_of HT_.out zb14) ?_
         try go_wp2
         go_meet
         case rel => exact ⟨_, (decide (((rd_T41 l0 x3_1).f7) > x3_1)), zb15, H', ⟨zb109⟩, ⟨zb9⟩⟩
        ·rw [if_neg c10] at H
         have c10b0 : (((rd_T41 l0 x3_1).f6) == t275) = false := beq_eq_false_iff_ne.mpr c10; have c10b1 : (((rd_T41 l0 x3_1).f6) != t275) = true := bne_iff_ne.mpr c10; have H' := az H; clear H
         try go_wp2
         have n0_ := az (below_drew1 HB.out); clear HB; have HB := n0_; clear n0_; have p267 : 0 ≤ (x3_1 : Int) := of_decide_eq_true zb10; have q267 : x3_1 < (l0.length : Int) := of_decide_eq_true zb10; obtain ⟨ad267, e267, hx267_0, hx267_1, hx267_2, hx267_3, hx267_4, hx267_5, hx267_6, hx267_7⟩ := at_T41 HR0.out x3_1 p267 q267; have hw267_7 := hx267_7; have hw267_6 := hx267_6; have hw267_5 := hx267_5; have hw267_4 := hx267_4; have hw267_3 := hx267_3; have hw267_2 := hx267_2; have hw267_1 := hx267_1; have hw267_0 := hx267_0
         cases e267
         replace hx267_0 := cb HB hx267_0; replace hx267_1 := cb HB hx267_1; replace hx267_2 := cb HB hx267_2; replace hx267_3 := cb HB hx267_3; replace hx267_4 := cb HB hx267_4; replace hx267_5 := cb HB hx267_5; replace hx267_6 := cb HB hx267_6; replace hx267_7 := cb HB hx267_7; replace p267 := eq_true p267; replace q267 := eq_true q267; have p269 : 0 ≤ (x3_1 : Int) := of_decide_eq_true zb10; have q269 : x3_1 < (l0.length : Int) := of_decide_eq_true zb10; obtain ⟨ad269, e269, hx269_0, hx269_1, hx269_2, hx269_3, hx269_4, hx269_5, hx269_6, hx269_7⟩ := at_T41 HR0.out x3_1 p269 q269; have hw269_7 := hx269_7; have hw269_6 := hx269_6; have hw269_5 := hx269_5; have hw269_4 := hx269_4; have hw269_3 := hx269_3; have hw269_2 := hx269_2; have hw269_1 := hx269_1; have hw269_0 := hx269_0
         obtain rfl : ad267 = ad269 := (by injection e269)
         replace hx269_0 := cb HB hx269_0; replace hx269_1 := cb HB hx269_1; replace hx269_2 := cb HB hx269_2; replace hx269_3 := cb HB hx269_3; replace hx269_4 := cb HB hx269_4; replace hx269_5 := cb HB hx269_5; replace hx269_6 := cb HB hx269_6; replace hx269_7 := cb HB hx269_7; replace p269 := eq_true p269; replace q269 := eq_true q269; have p274 : 0 ≤ (x3_1 : Int) := of_decide_eq_true zb10; have q274 : x3_1 < (l0.length : Int) := of_decide_eq_true zb10; obtain ⟨ad274, e274, hx274_0, hx274_1, hx274_2, hx274_3, hx274_4, hx274_5, hx274_6, hx274_7⟩ := at_T41 HR0.out x3_1 p274 q274; have hw274_7 := hx274_7; have hw274_6 := hx274_6; have hw274_5 := hx274_5; have hw274_4 := hx274_4; have hw274_3 := hx274_3; have hw274_2 := hx274_2; have hw274_1 := hx274_1; have hw274_0 := hx274_0
         obtain rfl : ad267 = ad274 := (by injection e274)
         replace hx274_0 := cb HB hx274_0; replace hx274_1 := cb HB hx274_1; replace hx274_2 := cb HB hx274_2; replace hx274_3 := cb HB hx274_3; replace hx274_4 := cb HB hx274_4; replace hx274_5 := cb HB hx274_5; replace hx274_6 := cb HB hx274_6; replace hx274_7 := cb HB hx274_7; replace p274 := eq_true p274; replace q274 := eq_true q274; refine start_ (n := 32) (S := fun w' => r8 w' (ad267.add ((x3_1).toNat * 8)) (rd_T41 l0 x3_1) (r8 w' (ad267.add ((x3_1).toNat * 8)) (rd_T41 l0 x3_1) (r8t w' (ad267.add ((x3_1).toNat * 8)) (rd_T41 l0 x3_1)))) (ds := []) mPrLogB0 zb14 rfl rfl ⟨(cb HB hw267_0), (cb HB hw267_1), (cb HB hw267_2), (cb HB hw267_3), (cb HB hw267_4), (cb HB hw267_5), (cb HB hw267_6), (cb HB hw267_7), (cb HB hw269_0), (cb HB hw269_1), (cb HB hw269_2), (cb HB hw269_3), (cb HB hw269_4), (cb HB hw269_5), (cb HB hw269_6), (cb HB hw269_7), (cb HB hw274_0), (cb HB hw274_1), (cb HB hw274_2), (cb HB hw274_3), (cb HB hw274_4), (cb HB hw274_5), (cb HB hw274_6), (cb HB hw274_7)⟩ (fun hHeld => ?_); refine with_tabW spec_LogOk.tab4 spec_LogOk.bits4 (fun HT_ HW_ => ?_); generalize wr.drew = w14 at HB hx267_0 hx267_1 hx267_2 hx267_3 hx267_4 hx267_5 hx267_6 hx267_7 hx269_0 hx269_1 hx269_2 hx269_3 hx269_4 hx269_5 hx269_6 hx269_7 hx274_0 hx274_1 hx274_2 hx274_3 hx274_4 hx274_5 hx274_6 hx274_7 hHeld ⊢; refine pu 0 10 mPrLogB1 HT_ ?_; refine pu 1 11 mPrLogB2 HT_ ?_; refine pu 2 12 mPrLogB3 HT_ ?_; refine tk 3 13 mPrLogB4 HT_ HW_ hHeld ?_; refine one_ (i := 4) (N := some 14) mPrLogB5 rfl rfl (one_of HT_.out zb14) (by decide) (fun K hK => ?_); refine goes_ Try.func83 zb14 rfl #[agx (rd_T41 l0 x3_1) ((rd_T41 l0 x3_1).f1) ((rd_T41 l0 x3_1).f7)] (by rfl) rfl rfl zb3 ?_
         with_reducible refine (spec_RecOk.calls k1 ((rd_T41 l0 x3_1).f0) ((rd_T41 l0 x3_1).f1) ((rd_T41 l0 x3_1).f2) ((rd_T41 l0 x3_1).f3) ((rd_T41 l0 x3_1).f4) ((rd_T41 l0 x3_1).f5) ((rd_T41 l0 x3_1).f6) ((rd_T41 l0 x3_1).f7) true _ A5.out).mono ?_
         rintro e w15 ⟨rfl, hb⟩; refine ⟨_, rfl, ?_⟩; have n0_ := az (below_step zb9 hb); clear HB; have HB := n0_
         clear n0_;(try clear hb);(try clear hb2);(try clear hk);(try clear hi)
         have q16 : (x3_1 : Int) ≤ ((l0.length : Int) : Int) := of_decide_eq_true zb10; obtain ⟨i016, hi016, _, hsz16, _⟩ := info_parts info41; have hroom16 : l0.length ≤ c0 := HC0.out; have hC16 : Kd.C k41 _ (some ad267) l0.length l0 := HR0.out; have hcut16 := cut_to (P := Try.prog) 34 41 .i64 Try.underlying34 hi016 (some ad267) l0.length c0 x3_1 (of_decide_eq_true zb10) q16 hroom16; have hr16 := Kd.C_take (m := (x3_1 : Int).toNat) hC16 (by omega)
         have hy16 : y270.length = (x3_1 : Int).toNat := (by rw [Ny270.out, List.length_take]; omega)
         rw [← Ny270.out] at hr16; rw [← hy16] at hcut16; have HR273 := az hr16; have HC273 := az (show y270.length ≤ c0 from by omega); clear hr16 hC16 hroom16 hi016 hsz16; have KY16 := az hy16; clear hy16; replace q16 := eq_true q16; refine hK.out _ _ ⟨(cb HB hw267_0 :), (cb HB hw267_1 :), (cb HB hw267_2 :), (cb HB hw267_3 :), (cb HB hw267_4 :), (cb HB hw267_5 :), (cb HB hw267_6 :), (cb HB hw267_7 :), (cb HB hw269_0 :), (cb HB hw269_1 :), (cb HB hw269_2 :), (cb HB hw269_3 :), (cb HB hw269_4 :), (cb HB hw269_5 :), (cb HB hw269_6 :), (cb HB hw269_7 :), (cb HB hw274_0 :), (cb HB hw274_1 :), (cb HB hw274_2 :), (cb HB hw274_3 :), (cb HB hw274_4 :), (cb HB hw274_5 :), (cb HB hw274_6 :), (cb HB hw274_7 :)⟩ (fun hHeld => ?_); clear hK K; refine norm_ (a' := ?_) ?_ ?_; rotate_left
         ·show Act.put _ (some 14) _ = _
          simp only [Act.put, List.setIfInBounds_toArray, List.set_cons_zero, List.set_cons_succ, i64_w, i32_w]
          rfl
         refine pu 5 15 mPrLogB6 HT_ ?_; refine pu 6 16 mPrLogB7 HT_ ?_; refine pu 7 17 mPrLogB8 HT_ ?_; refine pu 8 18 mPrLogB9 HT_ ?_; refine pu 9 19 mPrLogB10 HT_ ?_; refine pu 10 20 mPrLogB11 HT_ ?_; refine pu 12 22 mPrLogB12 HT_ ?_; refine pu 13 23 mPrLogB14 HT_ ?_; refine pu 14 24 mPrLogB16 HT_ ?_; refine pu 15 25 mPrLogB18 HT_ ?_; refine pu 16 26 mPrLogB20 HT_ ?_; refine pu 17 27 mPrLogB22 HT_ ?_; refine pu 18 28 mPrLogB24 HT_ ?_; refine tk 11 21 mPrLogB26 HT_ HW_ hHeld ?_; refine tk 19 29 mPrLogB27 HT_ HW_ hHeld ?_; refine one_ (i := 20) (N := some 30) mPrLogB28 rfl rfl (one_of HT_.out zb14) (by decide) (fun K hK => ?_); refine goes_ Try.func84 zb14 rfl #[.slice (some ad267) y270.length c0, .int .i64 ((rd_T41 l0 x3_1).f1)] (by rfl) rfl rfl zb3 ?_
         with_reducible refine (spec_l3Last.calls k1 _ _ y270 ((rd_T41 l0 x3_1).f1) t275 _ ?side1 ?side2 A9.out).mono ?_
         (case side1 => exact zb92)
         (case side2 => exact HC273.out)
         rintro e w' ⟨rfl, ⟨nd, rfl⟩⟩; refine ⟨_, rfl, ?_⟩; refine hK.out _ _ ⟨(cb HB hw267_0 :), (cb HB hw267_1 :), (cb HB hw267_2 :), (cb HB hw267_3 :), (cb HB hw267_4 :), (cb HB hw267_5 :), (cb HB hw267_6 :), (cb HB hw267_7 :), (cb HB hw269_0 :), (cb HB hw269_1 :), (cb HB hw269_2 :), (cb HB hw269_3 :), (cb HB hw269_4 :), (cb HB hw269_5 :), (cb HB hw269_6 :), (cb HB hw269_7 :), (cb HB hw274_0 :), (cb HB hw274_1 :), (cb HB hw274_2 :), (cb HB hw274_3 :), (cb HB hw274_4 :), (cb HB hw274_5 :), (cb HB hw274_6 :), (cb HB hw274_7 :)⟩ (fun hHeld => ?_); clear hK K; refine norm_ (a' := ?_) ?_ ?_; rotate_left
         ·show Act.put _ (some 30) _ = _
          simp only [Act.put, List.setIfInBounds_toArray, List.set_cons_zero, List.set_cons_succ, i64_w, i32_w]
          rfl
         refine pu 21 31 mPrLogB29 HT_ ?_; refine pu 22 32 mPrLogB30 HT_ ?_; refine pu 23 33 mPrLogB31 HT_ ?_; refine pn 24 34 mPrLogB32 HT_ ?_; refine pn 25 35 mPrLogB33 HT_ ?_; refine pn 26 36 mPrLogB34 HT_ ?_; refine pn 27 37 mPrLogB35 HT_ ?_; refine pn 28 38 mPrLogB37 HT_ ?_; refine pn 29 39 mPrLogB38 HT_ ?_; refine pn 30 40 mPrLogB39 HT_ ?_; refine pu 31 41 mPrLogB40 HT_ ?_; refine done_ (done_of HT_.out zb14) ?_
         try go_wp2
         go_meet
         case rel => exact ⟨_, (true), zb15, H', ⟨zb109⟩, ⟨zb9⟩⟩
       ·rw [if_neg c8] at H
        exact absurd H (by simp)
      ·replace c6 := Bool.eq_false_iff.mpr c6
       subst c6
       have H1 : (spec_LogOk.j1 k1 l0 x3_1 true) = some r := by rw [if_neg (show ¬ (false = true) by decide)] at H; exact H
       clear H; have H := H1; clear H1; have H' := az H; clear H
       try go_wp2
       have n0_ := az (below_drew1 HB.out); clear HB; have HB := n0_; clear n0_; have p267 : 0 ≤ (x3_1 : Int) := of_decide_eq_true zb10; have q267 : x3_1 < (l0.length : Int) := of_decide_eq_true zb10; obtain ⟨ad267, e267, hx267_0, hx267_1, hx267_2, hx267_3, hx267_4, hx267_5, hx267_6, hx267_7⟩ := at_T41 HR0.out x3_1 p267 q267; have hw267_7 := hx267_7; have hw267_6 := hx267_6; have hw267_5 := hx267_5; have hw267_4 := hx267_4; have hw267_3 := hx267_3; have hw267_2 := hx267_2; have hw267_1 := hx267_1; have hw267_0 := hx267_0
       cases e267
       replace hx267_0 := cb HB hx267_0; replace hx267_1 := cb HB hx267_1; replace hx267_2 := cb HB hx267_2; replace hx267_3 := cb HB hx267_3; replace hx267_4 := cb HB hx267_4; replace hx267_5 := cb HB hx267_5; replace hx267_6 := cb HB hx267_6; replace hx267_7 := cb HB hx267_7; replace p267 := eq_true p267; replace q267 := eq_true q267; refine start_ (n := 32) (S := fun w' => r8t w' (ad267.add ((x3_1).toNat * 8)) (rd_T41 l0 x3_1)) (ds := []) mPrLogB0 zb14 rfl rfl ⟨(cb HB hw267_0), (cb HB hw267_1), (cb HB hw267_2), (cb HB hw267_3), (cb HB hw267_4), (cb HB hw267_5), (cb HB hw267_6), (cb HB hw267_7)⟩ (fun hHeld => ?_); refine with_tabW spec_LogOk.tab4 spec_LogOk.bits4 (fun HT_ HW_ => ?_); generalize wr.drew = w17 at HB hx267_0 hx267_1 hx267_2 hx267_3 hx267_4 hx267_5 hx267_6 hx267_7 hHeld ⊢; refine pu 0 10 mPrLogB1 HT_ ?_; refine pu 1 11 mPrLogB2 HT_ ?_; refine pu 2 12 mPrLogB3 HT_ ?_; refine tk 3 13 mPrLogB4 HT_ HW_ hHeld ?_; refine one_ (i := 4) (N := some 14) mPrLogB5 rfl rfl (one_of HT_.out zb14) (by decide) (fun K hK => ?_); refine goes_ Try.func83 zb14 rfl #[agx (rd_T41 l0 x3_1) ((rd_T41 l0 x3_1).f1) ((rd_T41 l0 x3_1).f7)] (by rfl) rfl rfl zb3 ?_
       with_reducible refine (spec_RecOk.calls k1 ((rd_T41 l0 x3_1).f0) ((rd_T41 l0 x3_1).f1) ((rd_T41 l0 x3_1).f2) ((rd_T41 l0 x3_1).f3) ((rd_T41 l0 x3_1).f4) ((rd_T41 l0 x3_1).f5) ((rd_T41 l0 x3_1).f6) ((rd_T41 l0 x3_1).f7) false _ A5.out).mono ?_
       rintro e w18 ⟨rfl, hb⟩; refine ⟨_, rfl, ?_⟩; have n0_ := az (below_step zb9 hb); clear HB; have HB := n0_
       clear n0_;(try clear hb);(try clear hb2);(try clear hk);(try clear hi)
       refine hK.out _ _ ⟨(cb HB hw267_0 :), (cb HB hw267_1 :), (cb HB hw267_2 :), (cb HB hw267_3 :), (cb HB hw267_4 :), (cb HB hw267_5 :), (cb HB hw267_6 :), (cb HB hw267_7 :)⟩ (fun hHeld => ?_); clear hK K; refine norm_ (a' := ?_) ?_ ?_; rotate_left
       ·show Act.put _ (some 14) _ = _
        simp only [Act.put, List.setIfInBounds_toArray, List.set_cons_zero, List.set_cons_succ, i64_w, i32_w]
        rfl
       refine pu 5 15 mPrLogB6 HT_ ?_; refine pu 6 16 mPrLogB7 HT_ ?_; refine pn 7 17 mPrLogB8 HT_ ?_; refine pn 8 18 mPrLogB9 HT_ ?_; refine pn 9 19 mPrLogB10 HT_ ?_; refine pn 10 20 mPrLogB11 HT_ ?_; refine pn 11 21 mPrLogB13 HT_ ?_; refine pn 12 22 mPrLogB15 HT_ ?_; refine pn 13 23 mPrLogB17 HT_ ?_; refine pn 14 24 mPrLogB19 HT_ ?_; refine pn 15 25 mPrLogB21 HT_ ?_; refine pn 16 26 mPrLogB23 HT_ ?_; refine pn 17 27 mPrLogB25 HT_ ?_; refine pn 18 28 mPrLogB26 HT_ ?_; refine pn 19 29 mPrLogB27 HT_ ?_; refine pn 20 30 mPrLogB28 HT_ ?_; refine pn 21 31 mPrLogB29 HT_ ?_; refine pu 22 32 mPrLogB30 HT_ ?_; refine pu 23 33 mPrLogB31 HT_ ?_; refine pn 24 34 mPrLogB32 HT_ ?_; refine pn 25 35 mPrLogB33 HT_ ?_; refine pn 26 36 mPrLogB34 HT_ ?_; refine pn 27 37 mPrLogB35 HT_ ?_; refine pn 28 38 mPrLogB37 HT_ ?_; refine pn 29 39 mPrLogB38 HT_ ?_; refine pn 30 40 mPrLogB39 HT_ ?_; refine pu 31 41 mPrLogB40 HT_ ?_; refine done_ (done_of HT_.out zb14) ?_
       try go_wp2
       go_meet
       case rel => exact ⟨_, (true), zb15, H', ⟨zb109⟩, ⟨zb9⟩⟩
     ·rw [if_neg c4] at H
      exact absurd H (by simp)
    case rest =>
     clear HC3;(try clear c1);(try clear q1);(try clear p2);(try clear q2);(try clear hx2);(try clear c4);(try clear c6);(try clear c8);(try clear c10);(try clear c10b0);(try clear c10b1);(try clear q16);(try clear hx267_0);(try clear hx267_1);(try clear hx267_2);(try clear hx267_3);(try clear hx267_4);(try clear hx267_5);(try clear hx267_6);(try clear hx267_7);(try clear hx269_0);(try clear hx269_1);(try clear hx269_2);(try clear hx269_3);(try clear hx269_4);(try clear hx269_5);(try clear hx269_6);(try clear hx269_7);(try clear hx274_0);(try clear hx274_1);(try clear hx274_2);(try clear hx274_3);(try clear hx274_4);(try clear hx274_5);(try clear hx274_6);(try clear hx274_7);(try clear p267);(try clear p269);(try clear p274);(try clear q16);(try clear q267);(try clear q269);(try clear q274)
     obtain ⟨kq, x41_2, rfl, HA, HJ2, HB⟩ := hcut
     cases kq with
     | zero => exact absurd HA.out (by simp [spec_LogOk.j1])
     | succ kj2 =>
      have H := HA.out; clear HA; simp only [spec_LogOk.j1] at H
      by_cases c19 : x41_2 = true
      ·subst c19
       have H1 : (some false) = some r := by rw [if_pos rfl] at H; exact H
       clear H; have H := H1; clear H1; obtain rfl := Option.some.inj H
       go_wp2
       go_ret
       exact ⟨zb11, zb9⟩
      ·replace c19 := Bool.eq_false_iff.mpr c19
       subst c19
       have H1 : (if 0 ≤ x3_1 then (if x3_1 < (l0.length : Int) then (if ((rd_T41 l0 x3_1).f7) > 0 then (if 0 ≤ (wrap64 (((rd_T41 l0 x3_1).f7) - 1)) then (if (wrap64 (((rd_T41 l0 x3_1).f7) - 1)) < (l0.length : Int) then (if ((rd_T41 l0 (wrap64 (((rd_T41 l0 x3_1).f7) - 1))).f1) = ((rd_T41 l0 x3_1).f1) then (spec_LogOk.l0 kj2 l0 (wrap64 (x3_1 + 1))) else (some false)) else (none)) else (none)) else (spec_LogOk.l0 kj2 l0 (wrap64 (x3_1 + 1)))) else (none)) else (none)) = some r := by rw [if_neg (show ¬ (false = true) by decide)] at H; exact H
       clear H; have H := H1; clear H1
       by_cases c20 : 0 ≤ x3_1
       ·rw [if_pos c20] at H
        have c20b0 : decide (0 ≤ x3_1) = true := decide_eq_true c20; clear c20
        by_cases c21 : x3_1 < (l0.length : Int)
        ·rw [if_pos c21] at H
         have c21b0 : decide (x3_1 < (l0.length : Int)) = true := decide_eq_true c21; clear c21
         by_cases c22 : ((rd_T41 l0 x3_1).f7) > 0
         ·rw [if_pos c22] at H
          have c22b0 : decide (0 < ((rd_T41 l0 x3_1).f7)) = true := decide_eq_true c22; clear c22
          obtain ⟨ji23, hji23⟩ : ∃ j_ : Int, (wrap64 (((rd_T41 l0 x3_1).f7) - 1)) = j_ := ⟨_, rfl⟩
          replace H : (if 0 ≤ (ji23) then (if (ji23) < (l0.length : Int) then (if ((rd_T41 l0 (ji23)).f1) = ((rd_T41 l0 x3_1).f1) then (spec_LogOk.l0 kj2 l0 (wrap64 (x3_1 + 1))) else (some false)) else (none)) else (none)) = some r := by first | (rw [hji23] at H; exact H) | (simp only [hji23] at H ⊢; exact H)
          have hji23w : (IntKind.i64.wrap (((rd_T41 l0 x3_1).f7) - 1)) = ji23 := (i64_w _).trans hji23
          by_cases c24 : 0 ≤ (ji23)
          ·rw [if_pos c24] at H
           have c24b0 : decide (0 ≤ (ji23)) = true := decide_eq_true c24; clear c24
           by_cases c25 : (ji23) < (l0.length : Int)
           ·rw [if_pos c25] at H
            have c25b0 : decide ((ji23) < (l0.length : Int)) = true := decide_eq_true c25; clear c25
            by_cases c26 : ((rd_T41 l0 (ji23)).f1) = ((rd_T41 l0 x3_1).f1)
            ·rw [if_pos c26] at H
             have c26b0 : (((rd_T41 l0 (ji23)).f1) == ((rd_T41 l0 x3_1).f1)) = true := beq_iff_eq.mpr c26; have c26b1 : (((rd_T41 l0 (ji23)).f1) != ((rd_T41 l0 x3_1).f1)) = false := bne_eq_false_iff_eq.mpr c26; clear c26; have H' := az H; clear H
             try go_wp2
             have n0_ := az (below_drew1 HB.out); clear HB; have HB := n0_; clear n0_; have p277 : 0 ≤ (x3_1 : Int) := of_decide_eq_true zb10; have q277 : x3_1 < (l0.length : Int) := of_decide_eq_true zb10; obtain ⟨ad277, e277, hx277_0, hx277_1, hx277_2, hx277_3, hx277_4, hx277_5, hx277_6, hx277_7⟩ := at_T41 HR0.out x3_1 p277 q277; have hw277_7 := hx277_7; have hw277_6 := hx277_6; have hw277_5 := hx277_5; have hw277_4 := hx277_4; have hw277_3 := hx277_3; have hw277_2 := hx277_2; have hw277_1 := hx277_1; have hw277_0 := hx277_0
             cases e277
             replace hx277_0 := cb HB hx277_0; replace hx277_1 := cb HB hx277_1; replace hx277_2 := cb HB hx277_2; replace hx277_3 := cb HB hx277_3; replace hx277_4 := cb HB hx277_4; replace hx277_5 := cb HB hx277_5; replace hx277_6 := cb HB hx277_6; replace hx277_7 := cb HB hx277_7; replace p277 := eq_true p277; replace q277 := eq_true q277; have p278 : 0 ≤ (x3_1 : Int) := of_decide_eq_true zb10; have q278 : x3_1 < (l0.length : Int) := of_decide_eq_true zb10; obtain ⟨ad278, e278, hx278_0, hx278_1, hx278_2, hx278_3, hx278_4, hx278_5, hx278_6, hx278_7⟩ := at_T41 HR0.out x3_1 p278 q278; have hw278_7 := hx278_7; have hw278_6 := hx278_6; have hw278_5 := hx278_5; have hw278_4 := hx278_4; have hw278_3 := hx278_3; have hw278_2 := hx278_2; have hw278_1 := hx278_1; have hw278_0 := hx278_0
             obtain rfl : ad277 = ad278 := (by injection e278)
             replace hx278_0 := cb HB hx278_0; replace hx278_1 := cb HB hx278_1; replace hx278_2 := cb HB hx278_2; replace hx278_3 := cb HB hx278_3; replace hx278_4 := cb HB hx278_4; replace hx278_5 := cb HB hx278_5; replace hx278_6 := cb HB hx278_6; replace hx278_7 := cb HB hx278_7; replace p278 := eq_true p278; replace q278 := eq_true q278; have p279 : 0 ≤ ((ji23) : Int) := of_decide_eq_true zb10; have q279 : (ji23) < (l0.length : Int) := of_decide_eq_true zb10; obtain ⟨ad279, e279, hx279_0, hx279_1, hx279_2, hx279_3, hx279_4, hx279_5, hx279_6, hx279_7⟩ := at_T41 HR0.out (ji23) p279 q279; have hw279_7 := hx279_7; have hw279_6 := hx279_6; have hw279_5 := hx279_5; have hw279_4 := hx279_4; have hw279_3 := hx279_3; have hw279_2 := hx279_2; have hw279_1 := hx279_1; have hw279_0 := hx279_0
             obtain rfl : ad277 = ad279 := (by injection e279)
             replace hx279_0 := cb HB hx279_0; replace hx279_1 := cb HB hx279_1; replace hx279_2 := cb HB hx279_2; replace hx279_3 := cb HB hx279_3; replace hx279_4 := cb HB hx279_4; replace hx279_5 := cb HB hx279_5; replace hx279_6 := cb HB hx279_6; replace hx279_7 := cb HB hx279_7; replace p279 := eq_true p279; replace q279 := eq_true q279; have p280 : 0 ≤ (x3_1 : Int) := of_decide_eq_true zb10; have q280 : x3_1 < (l0.length : Int) := of_decide_eq_true zb10; obtain ⟨ad280, e280, hx280_0, hx280_1, hx280_2, hx280_3, hx280_4, hx280_5, hx280_6, hx280_7⟩ := at_T41 HR0.out x3_1 p280 q280; have hw280_7 := hx280_7; have hw280_6 := hx280_6; have hw280_5 := hx280_5; have hw280_4 := hx280_4; have hw280_3 := hx280_3; have hw280_2 := hx280_2; have hw280_1 := hx280_1; have hw280_0 := hx280_0
             obtain rfl : ad277 = ad280 := (by injection e280)
             replace hx280_0 := cb HB hx280_0; replace hx280_1 := cb HB hx280_1; replace hx280_2 := cb HB hx280_2; replace hx280_3 := cb HB hx280_3; replace hx280_4 := cb HB hx280_4; replace hx280_5 := cb HB hx280_5; replace hx280_6 := cb HB hx280_6; replace hx280_7 := cb HB hx280_7; replace p280 := eq_true p280; replace q280 := eq_true q280; refine start_ (n := 24) (S := fun w' => r8 w' (ad277.add ((x3_1).toNat * 8)) (rd_T41 l0 x3_1) (r8 w' (ad277.add ((x3_1).toNat * 8)) (rd_T41 l0 x3_1) (r8 w' (ad277.add (((ji23)).toNat * 8)) (rd_T41 l0 (ji23)) (r8t w' (ad277.add ((x3_1).toNat * 8)) (rd_T41 l0 x3_1))))) (ds := []) mPrLogB41 zb14 rfl rfl ⟨(cb HB hw277_0), (cb HB hw277_1), (cb HB hw277_2), (cb HB hw277_3), (cb HB hw277_4), (cb HB hw277_5), (cb HB hw277_6), (cb HB hw277_7), (cb HB hw278_0), (cb HB hw278_1), (cb HB hw278_2), (cb HB hw278_3), (cb HB hw278_4), (cb HB hw278_5), (cb HB hw278_6), (cb HB hw278_7), (cb HB hw279_0), (cb HB hw279_1), (cb HB hw279_2), (cb HB hw279_3), (cb HB hw279_4), (cb HB hw279_5), (cb HB hw279_6), (cb HB hw279_7), (cb HB hw280_0), (cb HB hw280_1), (cb HB hw280_2), (cb HB hw280_3), (cb HB hw280_4), (cb HB hw280_5), (cb HB hw280_6), (cb HB hw280_7)⟩ (fun hHeld => ?_); refine with_tabW spec_LogOk.tab6 spec_LogOk.bits6 (fun HT_ HW_ => ?_); generalize wc.drew = w27 at HB hx277_0 hx277_1 hx277_2 hx277_3 hx277_4 hx277_5 hx277_6 hx277_7 hx278_0 hx278_1 hx278_2 hx278_3 hx278_4 hx278_5 hx278_6 hx278_7 hx279_0 hx279_1 hx279_2 hx279_3 hx279_4 hx279_5 hx279_6 hx279_7 hx280_0 hx280_1 hx280_2 hx280_3 hx280_4 hx280_5 hx280_6 hx280_7 hHeld ⊢; refine pu 0 42 mPrLogB42 HT_ ?_
             refine pu 1 43 mPrLogB43 HT_ ?_; refine pu 2 44 mPrLogB44 HT_ ?_; refine pu 3 45 mPrLogB45 HT_ ?_; refine tk 4 46 mPrLogB46 HT_ HW_ hHeld ?_; refine pu 5 47 mPrLogB47 HT_ ?_; refine pu 6 48 mPrLogB48 HT_ ?_; refine pu 7 49 mPrLogB49 HT_ ?_; refine pu 8 50 mPrLogB50 HT_ ?_; refine pu 9 51 mPrLogB51 HT_ ?_; refine pu 10 52 mPrLogB52 HT_ ?_; refine pu 11 53 mPrLogB53 HT_ ?_; refine pu 17 59 mPrLogB54 HT_ ?_; refine pu 18 60 mPrLogB56 HT_ ?_; refine pu 19 61 mPrLogB58 HT_ ?_; refine pu 20 62 mPrLogB60 HT_ ?_; refine tk 12 54 mPrLogB62 HT_ HW_ hHeld ?_; refine pu 13 55 mPrLogB64 HT_ ?_; refine pu 14 56 mPrLogB66 HT_ ?_; refine pu 15 57 mPrLogB68 HT_ ?_; refine tk 16 58 mPrLogB70 HT_ HW_ hHeld ?_; refine tk 21 63 mPrLogB71 HT_ HW_ hHeld ?_; refine pu 22 64 mPrLogB72 HT_ ?_; refine pu 23 65 mPrLogB73 HT_ ?_; refine done_ (done_of HT_.out zb14) ?_
             try go_wp2
             go_roundg kj2
             case measure => have := HK1.out; have := HJ2.out; omega
             case rel => exact ⟨(wrap64 (x3_1 + 1)), zb15, H', ⟨by have := HK1.out; have := HJ2.out; omega⟩, ⟨zb9⟩⟩
            ·rw [if_neg c26] at H
             have c26b0 : (((rd_T41 l0 (ji23)).f1) == ((rd_T41 l0 x3_1).f1)) = false := beq_eq_false_iff_ne.mpr c26; have c26b1 : (((rd_T41 l0 (ji23)).f1) != ((rd_T41 l0 x3_1).f1)) = true := bne_iff_ne.mpr c26; obtain rfl := Option.some.inj H
             try go_wp2
             have n0_ := az (below_drew1 HB.out); clear HB; have HB := n0_; clear n0_; have p277 : 0 ≤ (x3_1 : Int) := of_decide_eq_true zb10; have q277 : x3_1 < (l0.length : Int) := of_decide_eq_true zb10; obtain ⟨ad277, e277, hx277_0, hx277_1, hx277_2, hx277_3, hx277_4, hx277_5, hx277_6, hx277_7⟩ := at_T41 HR0.out x3_1 p277 q277; have hw277_7 := hx277_7; have hw277_6 := hx277_6; have hw277_5 := hx277_5; have hw277_4 := hx277_4; have hw277_3 := hx277_3; have hw277_2 := hx277_2; have hw277_1 := hx277_1; have hw277_0 := hx277_0
             cases e277
             replace hx277_0 := cb HB hx277_0; replace hx277_1 := cb HB hx277_1; replace hx277_2 := cb HB hx277_2; replace hx277_3 := cb HB hx277_3; replace hx277_4 := cb HB hx277_4; replace hx277_5 := cb HB hx277_5; replace hx277_6 := cb HB hx277_6; replace hx277_7 := cb HB hx277_7; replace p277 := eq_true p277; replace q277 := eq_true q277; have p278 : 0 ≤ (x3_1 : Int) := of_decide_eq_true zb10; have q278 : x3_1 < (l0.length : Int) := of_decide_eq_true zb10; obtain ⟨ad278, e278, hx278_0, hx278_1, hx278_2, hx278_3, hx278_4, hx278_5, hx278_6, hx278_7⟩ := at_T41 HR0.out x3_1 p278 q278; have hw278_7 := hx278_7; have hw278_6 := hx278_6; have hw278_5 := hx278_5; have hw278_4 := hx278_4; have hw278_3 := hx278_3; have hw278_2 := hx278_2; have hw278_1 := hx278_1; have hw278_0 := hx278_0
             obtain rfl : ad277 = ad278 := (by injection e278)
             replace hx278_0 := cb HB hx278_0; replace hx278_1 := cb HB hx278_1; replace hx278_2 := cb HB hx278_2; replace hx278_3 := cb HB hx278_3; replace hx278_4 := cb HB hx278_4; replace hx278_5 := cb HB hx278_5; replace hx278_6 := cb HB hx278_6; replace hx278_7 := cb HB hx278_7; replace p278 := eq_true p278; replace q278 := eq_true q278; have p279 : 0 ≤ ((ji23) : Int) := of_decide_eq_true zb10; have q279 : (ji23) < (l0.length : Int) := of_decide_eq_true zb10; obtain ⟨ad279, e279, hx279_0, hx279_1, hx279_2, hx279_3, hx279_4, hx279_5, hx279_6, hx279_7⟩ := at_T41 HR0.out (ji23) p279 q279; have hw279_7 := hx279_7; have hw279_6 := hx279_6; have hw279_5 := hx279_5; have hw279_4 := hx279_4; have hw279_3 := hx279_3; have hw279_2 := hx279_2; have hw279_1 := hx279_1; have hw279_0 := hx279_0
             obtain rfl : ad277 = ad279 := (by injection e279)
             replace hx279_0 := cb HB hx279_0; replace hx279_1 := cb HB hx279_1; replace hx279_2 := cb HB hx279_2; replace hx279_3 := cb HB hx279_3; replace hx279_4 := cb HB hx279_4; replace hx279_5 := cb HB hx279_5; replace hx279_6 := cb HB hx279_6; replace hx279_7 := cb HB hx279_7; replace p279 := eq_true p279; replace q279 := eq_true q279; have p280 : 0 ≤ (x3_1 : Int) := of_decide_eq_true zb10; have q280 : x3_1 < (l0.length : Int) := of_decide_eq_true zb10; obtain ⟨ad280, e280, hx280_0, hx280_1, hx280_2, hx280_3, hx280_4, hx280_5, hx280_6, hx280_7⟩ := at_T41 HR0.out x3_1 p280 q280; have hw280_7 := hx280_7; have hw280_6 := hx280_6; have hw280_5 := hx280_5; have hw280_4 := hx280_4; have hw280_3 := hx280_3; have hw280_2 := hx280_2; have hw280_1 := hx280_1; have hw280_0 := hx280_0
             obtain rfl : ad277 = ad280 := (by injection e280)
             replace hx280_0 := cb HB hx280_0; replace hx280_1 := cb HB hx280_1; replace hx280_2 := cb HB hx280_2; replace hx280_3 := cb HB hx280_3; replace hx280_4 := cb HB hx280_4; replace hx280_5 := cb HB hx280_5; replace hx280_6 := cb HB hx280_6; replace hx280_7 := cb HB hx280_7; replace p280 := eq_true p280; replace q280 := eq_true q280; refine start_ (n := 24) (S := fun w' => r8 w' (ad277.add ((x3_1).toNat * 8)) (rd_T41 l0 x3_1) (r8 w' (ad277.add ((x3_1).toNat * 8)) (rd_T41 l0 x3_1) (r8 w' (ad277.add (((ji23)).toNat * 8)) (rd_T41 l0 (ji23)) (r8t w' (ad277.add ((x3_1).toNat * 8)) (rd_T41 l0 x3_1))))) (ds := []) mPrLogB41 zb14 rfl rfl ⟨(cb HB hw277_0), (cb HB hw277_1), (cb HB hw277_2), (cb HB hw277_3), (cb HB hw277_4), (cb HB hw277_5), (cb HB hw277_6), (cb HB hw277_7), (cb HB hw278_0), (cb HB hw278_1), (cb HB hw278_2), (cb HB hw278_3), (cb HB hw278_4), (cb HB hw278_5), (cb HB hw278_6), (cb HB hw278_7), (cb HB hw279_0), (cb HB hw279_1), (cb HB hw279_2), (cb HB hw279_3), (cb HB hw279_4), (cb HB hw279_5), (cb HB hw279_6), (cb HB hw279_7), (cb HB hw280_0), (cb HB hw280_1), (cb HB hw280_2), (cb HB hw280_3), (cb HB hw280_4), (cb HB hw280_5), (cb HB hw280_6), (cb HB hw280_7)⟩ (fun hHeld => ?_); refine with_tabW spec_LogOk.tab6 spec_LogOk.bits6 (fun HT_ HW_ => ?_); generalize wc.drew = w28 at HB hx277_0 hx277_1 hx277_2 hx277_3 hx277_4 hx277_5 hx277_6 hx277_7 hx278_0 hx278_1 hx278_2 hx278_3 hx278_4 hx278_5 hx278_6 hx278_7 hx279_0 hx279_1 hx279_2 hx279_3 hx279_4 hx279_5 hx279_6 hx279_7 hx280_0 hx280_1 hx280_2 hx280_3 hx280_4 hx280_5 hx280_6 hx280_7 hHeld ⊢; refine pu 0 42 mPrLogB42 HT_ ?_
             refine pu 1 43 mPrLogB43 HT_ ?_; refine pu 2 44 mPrLogB44 HT_ ?_; refine pu 3 45 mPrLogB45 HT_ ?_; refine tk 4 46 mPrLogB46 HT_ HW_ hHeld ?_; refine pu 5 47 mPrLogB47 HT_ ?_; refine pu 6 48 mPrLogB48 HT_ ?_; refine pu 7 49 mPrLogB49 HT_ ?_; refine pu 8 50 mPrLogB50 HT_ ?_; refine pu 9 51 mPrLogB51 HT_ ?_; refine pu 10 52 mPrLogB52 HT_ ?_; refine pu 11 53 mPrLogB53 HT_ ?_; refine pu 17 59 mPrLogB54 HT_ ?_; refine pu 18 60 mPrLogB56 HT_ ?_; refine pu 19 61 mPrLogB58 HT_ ?_; refine pu 20 62 mPrLogB60 HT_ ?_; refine tk 12 54 mPrLogB62 HT_ HW_ hHeld ?_; refine pu 13 55 mPrLogB64 HT_ ?_; refine pu 14 56 mPrLogB66 HT_ ?_; refine pu 15 57 mPrLogB68 HT_ ?_; refine tk 16 58 mPrLogB70 HT_ HW_ hHeld ?_; refine tk 21 63 mPrLogB71 HT_ HW_ hHeld ?_; refine pu 22 64 mPrLogB72 HT_ ?_; refine pu 23 65 mPrLogB73 HT_ ?_; refine done_ (done_of HT_.out zb14) ?_
             try go_wp2
             go_ret
             exact ⟨by first | rfl | (simp [errW_none, errW_some] <;> rfl) | (simp only [← hji23]; first | rfl | (simp [errW_none, errW_some] <;> rfl)) | (simp [*, errW_none, errW_some] <;> rfl), zb9⟩
           ·rw [if_neg c25] at H
            exact absurd H (by simp)
          ·rw [if_neg c24] at H
           exact absurd H (by simp)
         ·rw [if_neg c22] at H
          have c22b0 : decide (0 < ((rd_T41 l0 x3_1).f7)) = false := decide_eq_false c22; clear c22; have H' := az H; clear H
          try go_wp2
          have n0_ := az (below_drew1 HB.out); clear HB; have HB := n0_; clear n0_; have p277 : 0 ≤ (x3_1 : Int) := of_decide_eq_true zb10; have q277 : x3_1 < (l0.length : Int) := of_decide_eq_true zb10; obtain ⟨ad277, e277, hx277_0, hx277_1, hx277_2, hx277_3, hx277_4, hx277_5, hx277_6, hx277_7⟩ := at_T41 HR0.out x3_1 p277 q277; have hw277_7 := hx277_7; have hw277_6 := hx277_6; have hw277_5 := hx277_5; have hw277_4 := hx277_4; have hw277_3 := hx277_3; have hw277_2 := hx277_2; have hw277_1 := hx277_1; have hw277_0 := hx277_0
          cases e277
          replace hx277_0 := cb HB hx277_0; replace hx277_1 := cb HB hx277_1; replace hx277_2 := cb HB hx277_2; replace hx277_3 := cb HB hx277_3; replace hx277_4 := cb HB hx277_4; replace hx277_5 := cb HB hx277_5; replace hx277_6 := cb HB hx277_6; replace hx277_7 := cb HB hx277_7; replace p277 := eq_true p277; replace q277 := eq_true q277; refine start_ (n := 24) (S := fun w' => r8t w' (ad277.add ((x3_1).toNat * 8)) (rd_T41 l0 x3_1)) (ds := []) mPrLogB41 zb14 rfl rfl ⟨(cb HB hw277_0), (cb HB hw277_1), (cb HB hw277_2), (cb HB hw277_3), (cb HB hw277_4), (cb HB hw277_5), (cb HB hw277_6), (cb HB hw277_7)⟩ (fun hHeld => ?_); refine with_tabW spec_LogOk.tab6 spec_LogOk.bits6 (fun HT_ HW_ => ?_); generalize wc.drew = w29 at HB hx277_0 hx277_1 hx277_2 hx277_3 hx277_4 hx277_5 hx277_6 hx277_7 hHeld ⊢; refine pu 0 42 mPrLogB42 HT_ ?_; refine pu 1 43 mPrLogB43 HT_ ?_; refine pu 2 44 mPrLogB44 HT_ ?_; refine pu 3 45 mPrLogB45 HT_ ?_; refine tk 4 46 mPrLogB46 HT_ HW_ hHeld ?_; refine pu 5 47 mPrLogB47 HT_ ?_; refine pu 6 48 mPrLogB48 HT_ ?_; refine pn 7 49 mPrLogB49 HT_ ?_; refine pn 8 50 mPrLogB50 HT_ ?_; refine pn 9 51 mPrLogB51 HT_ ?_; refine pn 10 52 mPrLogB52 HT_ ?_; refine pn 11 53 mPrLogB53 HT_ ?_; refine pn 12 54 mPrLogB55 HT_ ?_; refine pn 13 55 mPrLogB57 HT_ ?_; refine pn 14 56 mPrLogB59 HT_ ?_; refine pn 15 57 mPrLogB61 HT_ ?_; refine pn 16 58 mPrLogB63 HT_ ?_; refine pn 17 59 mPrLogB65 HT_ ?_; refine pn 18 60 mPrLogB67 HT_ ?_; refine pn 19 61 mPrLogB69 HT_ ?_; refine pn 20 62 mPrLogB70 HT_ ?_; refine pn 21 63 mPrLogB71 HT_ ?_; refine pn 22 64 mPrLogB72 HT_ ?_; refine pu 23 65 mPrLogB73 HT_ ?_
          refine done_ (done_of HT_.out zb14) ?_
          try go_wp2
          go_roundg kj2
          case measure => have := HK1.out; have := HJ2.out; omega
          case rel => exact ⟨(wrap64 (x3_1 + 1)), zb15, H', ⟨by have := HK1.out; have := HJ2.out; omega⟩, ⟨zb9⟩⟩
        ·rw [if_neg c21] at H
         exact absurd H (by simp)
       ·rw [if_neg c20] at H
        exact absurd H (by simp)
   ·rw [if_neg c2] at H
    have c2b0 : decide (x3_1 < (l0.length : Int)) = false := decide_eq_false c2; clear c2; obtain rfl := Option.some.inj H
    go_wp2
    go_ret
    exact ⟨zb11, zb9⟩
mutual
def impl_LogOk.l0 : Nat → List (S41) → Int → Option (Bool)
 | 0, _, _ => none
 | k + 1, x0, x3 => if x3 < (x0.length : Int) then (if 0 ≤ x3 then ((spec_RecOk.f k ((rd_T41 x0 x3).f0) ((rd_T41 x0 x3).f1) ((rd_T41 x0 x3).f2) ((rd_T41 x0 x3).f3) ((rd_T41 x0 x3).f4) ((rd_T41 x0 x3).f5) ((rd_T41 x0 x3).f6) ((rd_T41 x0 x3).f7)).bind fun t298 => (if t298 = true then (if x3 ≤ (x0.length : Int) then ((spec_l3Last.f k (x0.take (x3 : Int).toNat) ((rd_T41 x0 x3).f1)).bind fun t305 => (if ((rd_T41 x0 x3).f6) = t305 then (impl_LogOk.j1 k x0 x3 (decide (((rd_T41 x0 x3).f7) > x3))) else (impl_LogOk.j1 k x0 x3 true))) else (none)) else (impl_LogOk.j1 k x0 x3 true))) else (none)) else (some (decide ((x0.length : Int) ≤ 150)))
def impl_LogOk.j1 : Nat → List (S41) → Int → Bool → Option (Bool)
 | 0, _, _, _ => none
 | k + 1, x0, x3, x41 => if x41 = true then (some false) else (if 0 ≤ x3 then (if x3 < (x0.length : Int) then (if ((rd_T41 x0 x3).f7) > 0 then (if 0 ≤ (wrap64 (((rd_T41 x0 x3).f7) - 1)) then (if (wrap64 (((rd_T41 x0 x3).f7) - 1)) < (x0.length : Int) then (if ((rd_T41 x0 (wrap64 (((rd_T41 x0 x3).f7) - 1))).f1) = ((rd_T41 x0 x3).f1) then (impl_LogOk.l0 k x0 (wrap64 (x3 + 1))) else (some false)) else (none)) else (none)) else (impl_LogOk.l0 k x0 (wrap64 (x3 + 1)))) else (none)) else (none))
end
def impl_LogOk.f (k : Nat) (l0 : List (S41)) : Option (Bool) := impl_LogOk.l0 k l0 0
theorem impl_LogOk.mono_l : ∀ k, (∀ y0 y1, LeO (impl_LogOk.l0 k y0 y1) (impl_LogOk.l0 (k + 1) y0 y1)) ∧ (∀ y0 y1 y2, LeO (impl_LogOk.j1 k y0 y1 y2) (impl_LogOk.j1 (k + 1) y0 y1 y2))
 | 0 => ⟨fun _ _ r h => by simp [impl_LogOk.l0] at h, fun _ _ _ r h => by simp [impl_LogOk.j1] at h⟩
 | k + 1 => by
  obtain ⟨ih0, ih1⟩ := impl_LogOk.mono_l k; refine ⟨?_, ?_⟩
  ·intro y0 y1
   unfold impl_LogOk.l0
   repeat' first
   | (with_reducible exact ih0 _ _)
   | (with_reducible exact ih1 _ _ _)
   | (with_reducible exact spec_RecOk.mono _ _ _ _ _ _ _ _ _)
   | (with_reducible exact spec_l3Last.mono _ _ _)
   | (with_reducible exact LeO.refl _)
   | (with_reducible exact LeO.none _)
   | (with_reducible refine LeO.ite ?_ ?_)
   | (with_reducible refine LeO.bind ?_ (fun _ => ?_))
   | exact ih0 _ _
   | exact ih1 _ _ _
   | exact spec_RecOk.mono _ _ _ _ _ _ _ _ _
   | exact spec_l3Last.mono _ _ _
   | exact LeO.none _
   | refine LeO.ite ?_ ?_
   | refine LeO.bind ?_ (fun _ => ?_)
  ·intro y0 y1 y2
   unfold impl_LogOk.j1
   repeat' first
   | (with_reducible exact ih0 _ _)
   | (with_reducible exact ih1 _ _ _)
   | (with_reducible exact spec_RecOk.mono _ _ _ _ _ _ _ _ _)
   | (with_reducible exact spec_l3Last.mono _ _ _)
   | (with_reducible exact LeO.refl _)
   | (with_reducible exact LeO.none _)
   | (with_reducible refine LeO.ite ?_ ?_)
   | (with_reducible refine LeO.bind ?_ (fun _ => ?_))
   | exact ih0 _ _
   | exact ih1 _ _ _
   | exact spec_RecOk.mono _ _ _ _ _ _ _ _ _
   | exact spec_l3Last.mono _ _ _
   | exact LeO.none _
   | refine LeO.ite ?_ ?_
   | refine LeO.bind ?_ (fun _ => ?_)
theorem impl_LogOk.mono : ∀ a0 k, LeO (impl_LogOk.f k a0) (impl_LogOk.f (k + 1) a0) := by
 intro a0 k; obtain ⟨ih0, ih1⟩ := impl_LogOk.mono_l k
 unfold impl_LogOk.f
 repeat' first
  | (with_reducible exact ih0 _ _)
  | (with_reducible exact ih1 _ _ _)
  | (with_reducible exact spec_RecOk.mono _ _ _ _ _ _ _ _ _)
  | (with_reducible exact spec_l3Last.mono _ _ _)
  | (with_reducible exact LeO.refl _)
  | (with_reducible exact LeO.none _)
  | (with_reducible refine LeO.ite ?_ ?_)
  | (with_reducible refine LeO.bind ?_ (fun _ => ?_))
  | exact ih0 _ _
  | exact ih1 _ _ _
  | exact spec_RecOk.mono _ _ _ _ _ _ _ _ _
  | exact spec_l3Last.mono _ _ _
  | exact LeO.none _
  | refine LeO.ite ?_ ?_
  | refine LeO.bind ?_ (fun _ => ?_)
end Go.Proofs.Ytcefiblpnegepaa.Pr
