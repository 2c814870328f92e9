import Derived.Test.YtphnphmbfogmlaaGreatQFByq
import Derived.Test.YtphnphmbfogmlaaGreatQFPrK
import Derived.Test.YtphnphmbfogmlaaGreatQFSx
import Derived.Test.YtphnphmbfogmlaaGreatQFPrWith
import Derived.Test.YtphnphmbfogmlaaGreatQFPrCps
import Derived.Test.YtphnphmbfogmlaaGreatQFPrLogA
namespace Go.Proofs.YtphnphmbfogmlaaGreat.Pr
open Go.RowKit Go.PW Go.PL Go.PM
attribute [local go_sem] Y3 Y4 YN YO Ya Yb Y5 Y6
set_option linter.unusedVariables false
set_option linter.unusedSimpArgs false
abbrev Oc : Array Bool := #[nn,nn,nn,nn,nn,nn,nn,nn,nn,nn,nn,nn,nn,nn,nn,nn,nn,nn,nn,nn,nn,nn,nn,nn,nn,nn,nn,nn,nn,nn,nn,nn]
abbrev Od : Array Bool := #[yy,nn,nn,nn,nn,nn,nn,nn,nn,nn,nn,nn,nn,nn,nn,nn,nn,nn,nn,nn,nn,nn,nn,nn,nn,nn,nn,nn,nn,nn,nn,nn]
abbrev Oe : Array Bool := #[yy,yy,nn,nn,nn,nn,nn,nn,nn,nn,nn,nn,nn,nn,nn,nn,nn,nn,nn,nn,nn,nn,nn,nn,nn,nn,nn,nn,nn,nn,nn,nn]
abbrev Og : Array Bool := #[yy,yy,yy,nn,nn,nn,nn,nn,nn,nn,nn,nn,nn,nn,nn,nn,nn,nn,nn,nn,nn,nn,nn,nn,nn,nn,nn,nn,nn,nn,nn,nn]
abbrev Oh : Array Bool := #[yy,yy,yy,yy,nn,nn,nn,nn,nn,nn,nn,nn,nn,nn,nn,nn,nn,nn,nn,nn,nn,nn,nn,nn,nn,nn,nn,nn,nn,nn,nn,nn]
abbrev Oi : Array Bool := #[yy,yy,yy,yy,yy,nn,nn,nn,nn,nn,nn,nn,nn,nn,nn,nn,nn,nn,nn,nn,nn,nn,nn,nn,nn,nn,nn,nn,nn,nn,nn,nn]
abbrev Oj : Array Bool := #[yy,yy,yy,yy,yy,yy,nn,nn,nn,nn,nn,nn,nn,nn,nn,nn,nn,nn,nn,nn,nn,nn,nn,nn,nn,nn,nn,nn,nn,nn,nn,nn]
abbrev Ol : Array Bool := #[yy,yy,yy,yy,yy,yy,yy,nn,nn,nn,nn,nn,nn,nn,nn,nn,nn,nn,nn,nn,nn,nn,nn,nn,nn,nn,nn,nn,nn,nn,nn,nn]
abbrev Om : Array Bool := #[yy,yy,yy,yy,yy,yy,yy,yy,nn,nn,nn,nn,nn,nn,nn,nn,nn,nn,nn,nn,nn,nn,nn,nn,nn,nn,nn,nn,nn,nn,nn,nn]
abbrev Oo : Array Bool := #[yy,yy,yy,yy,yy,yy,yy,yy,yy,nn,nn,nn,nn,nn,nn,nn,nn,nn,nn,nn,nn,nn,nn,nn,nn,nn,nn,nn,nn,nn,nn,nn]
abbrev KW : Array Bool := #[yy,yy,yy,yy,yy,yy,yy,yy,yy,yy,nn,nn,nn,nn,nn,nn,nn,nn,nn,nn,nn,nn,nn,nn,nn,nn,nn,nn,nn,nn,nn,nn]
abbrev KX : Array Bool := #[yy,yy,yy,yy,yy,yy,yy,yy,yy,yy,yy,nn,nn,nn,nn,nn,nn,nn,nn,nn,nn,nn,nn,nn,nn,nn,nn,nn,nn,nn,nn,nn]
abbrev Q4 : Array Bool := #[yy,yy,yy,yy,yy,yy,yy,yy,yy,yy,yy,nn,yy,nn,nn,nn,nn,nn,nn,nn,nn,nn,nn,nn,nn,nn,nn,nn,nn,nn,nn,nn]
abbrev XkZ : Array Bool := #[yy,yy,yy,yy,yy,yy,yy,yy,yy,yy,yy,yy,nn,nn,nn,nn,nn,nn,nn,nn,nn,nn,nn,nn,nn,nn,nn,nn,nn,nn,nn,nn]
abbrev Q5 : Array Bool := #[yy,yy,yy,yy,yy,yy,yy,yy,yy,yy,yy,nn,yy,yy,nn,nn,nn,nn,nn,nn,nn,nn,nn,nn,nn,nn,nn,nn,nn,nn,nn,nn]
abbrev Xla : Array Bool := #[yy,yy,yy,yy,yy,yy,yy,yy,yy,yy,yy,yy,yy,nn,nn,nn,nn,nn,nn,nn,nn,nn,nn,nn,nn,nn,nn,nn,nn,nn,nn,nn]
abbrev Q6 : Array Bool := #[yy,yy,yy,yy,yy,yy,yy,yy,yy,yy,yy,nn,yy,yy,yy,nn,nn,nn,nn,nn,nn,nn,nn,nn,nn,nn,nn,nn,nn,nn,nn,nn]
abbrev Xlb : Array Bool := #[yy,yy,yy,yy,yy,yy,yy,yy,yy,yy,yy,yy,yy,yy,nn,nn,nn,nn,nn,nn,nn,nn,nn,nn,nn,nn,nn,nn,nn,nn,nn,nn]
abbrev Q7 : Array Bool := #[yy,yy,yy,yy,yy,yy,yy,yy,yy,yy,yy,nn,yy,yy,yy,yy,nn,nn,nn,nn,nn,nn,nn,nn,nn,nn,nn,nn,nn,nn,nn,nn]
abbrev Xlc : Array Bool := #[yy,yy,yy,yy,yy,yy,yy,yy,yy,yy,yy,yy,yy,yy,yy,nn,nn,nn,nn,nn,nn,nn,nn,nn,nn,nn,nn,nn,nn,nn,nn,nn]
abbrev Q8 : Array Bool := #[yy,yy,yy,yy,yy,yy,yy,yy,yy,yy,yy,nn,yy,yy,yy,yy,yy,nn,nn,nn,nn,nn,nn,nn,nn,nn,nn,nn,nn,nn,nn,nn]
abbrev Xld : Array Bool := #[yy,yy,yy,yy,yy,yy,yy,yy,yy,yy,yy,yy,yy,yy,yy,yy,nn,nn,nn,nn,nn,nn,nn,nn,nn,nn,nn,nn,nn,nn,nn,nn]
abbrev Q9 : Array Bool := #[yy,yy,yy,yy,yy,yy,yy,yy,yy,yy,yy,nn,yy,yy,yy,yy,yy,yy,nn,nn,nn,nn,nn,nn,nn,nn,nn,nn,nn,nn,nn,nn]
abbrev Xle : Array Bool := #[yy,yy,yy,yy,yy,yy,yy,yy,yy,yy,yy,yy,yy,yy,yy,yy,yy,nn,nn,nn,nn,nn,nn,nn,nn,nn,nn,nn,nn,nn,nn,nn]
abbrev QA : Array Bool := #[yy,yy,yy,yy,yy,yy,yy,yy,yy,yy,yy,nn,yy,yy,yy,yy,yy,yy,yy,nn,nn,nn,nn,nn,nn,nn,nn,nn,nn,nn,nn,nn]
abbrev Xlf : Array Bool := #[yy,yy,yy,yy,yy,yy,yy,yy,yy,yy,yy,yy,yy,yy,yy,yy,yy,yy,nn,nn,nn,nn,nn,nn,nn,nn,nn,nn,nn,nn,nn,nn]
abbrev KY : Array Bool := #[yy,yy,yy,yy,yy,yy,yy,yy,yy,yy,yy,yy,yy,yy,yy,yy,yy,yy,yy,nn,nn,nn,nn,nn,nn,nn,nn,nn,nn,nn,nn,nn]
abbrev KZ : Array Bool := #[yy,yy,yy,yy,yy,yy,yy,yy,yy,yy,yy,yy,yy,yy,yy,yy,yy,yy,yy,yy,nn,nn,nn,nn,nn,nn,nn,nn,nn,nn,nn,nn]
abbrev La : Array Bool := #[yy,yy,yy,yy,yy,yy,yy,yy,yy,yy,yy,yy,yy,yy,yy,yy,yy,yy,yy,yy,yy,nn,nn,nn,nn,nn,nn,nn,nn,nn,nn,nn]
abbrev Lb : Array Bool := #[yy,yy,yy,yy,yy,yy,yy,yy,yy,yy,yy,yy,yy,yy,yy,yy,yy,yy,yy,yy,yy,yy,nn,nn,nn,nn,nn,nn,nn,nn,nn,nn]
abbrev Lc : Array Bool := #[yy,yy,yy,yy,yy,yy,yy,yy,yy,yy,yy,yy,yy,yy,yy,yy,yy,yy,yy,yy,yy,yy,yy,nn,nn,nn,nn,nn,nn,nn,nn,nn]
abbrev Ld : Array Bool := #[yy,yy,yy,yy,yy,yy,yy,yy,yy,yy,yy,yy,yy,yy,yy,yy,yy,yy,yy,yy,yy,yy,yy,yy,nn,nn,nn,nn,nn,nn,nn,nn]
abbrev Le : Array Bool := #[yy,yy,yy,yy,yy,yy,yy,yy,yy,yy,yy,yy,yy,yy,yy,yy,yy,yy,yy,yy,yy,yy,yy,yy,yy,nn,nn,nn,nn,nn,nn,nn]
abbrev Lf : Array Bool := #[yy,yy,yy,yy,yy,yy,yy,yy,yy,yy,yy,yy,yy,yy,yy,yy,yy,yy,yy,yy,yy,yy,yy,yy,yy,yy,nn,nn,nn,nn,nn,nn]
abbrev Lg : Array Bool := #[yy,yy,yy,yy,yy,yy,yy,yy,yy,yy,yy,yy,yy,yy,yy,yy,yy,yy,yy,yy,yy,yy,yy,yy,yy,yy,yy,nn,nn,nn,nn,nn]
abbrev Lh : Array Bool := #[yy,yy,yy,yy,yy,yy,yy,yy,yy,yy,yy,yy,yy,yy,yy,yy,yy,yy,yy,yy,yy,yy,yy,yy,yy,yy,yy,yy,nn,nn,nn,nn]
abbrev Xlg : Array Bool := #[yy,yy,yy,yy,yy,yy,yy,yy,yy,yy,yy,yy,yy,yy,yy,yy,yy,yy,yy,yy,yy,yy,yy,yy,yy,yy,yy,yy,nn,yy,nn,nn]
abbrev QB : Array Bool := #[yy,yy,yy,yy,yy,yy,yy,yy,yy,yy,yy,yy,yy,yy,yy,yy,yy,yy,yy,yy,yy,yy,yy,yy,yy,yy,yy,yy,yy,nn,nn,nn]
abbrev Li : Array Bool := #[yy,yy,yy,yy,yy,yy,yy,yy,yy,yy,yy,yy,yy,yy,yy,yy,yy,yy,yy,yy,yy,yy,yy,yy,yy,yy,yy,yy,yy,yy,nn,nn]
abbrev Lj : Array Bool := #[yy,yy,yy,yy,yy,yy,yy,yy,yy,yy,yy,yy,yy,yy,yy,yy,yy,yy,yy,yy,yy,yy,yy,yy,yy,yy,yy,yy,yy,yy,yy,nn]
abbrev Ll : Array Bool := #[yy,yy,yy,yy,yy,yy,yy,yy,yy,yy,yy,yy,yy,yy,yy,yy,yy,yy,yy,yy,yy,yy,yy,yy,yy,yy,yy,yy,yy,yy,yy,yy]
abbrev Lm : Array Bool := #[nn,nn,nn,nn,nn,nn,nn,nn,nn,nn,nn,nn,nn,nn,nn,nn,nn,nn,nn,nn,nn,nn,nn,nn]
abbrev Lp : Array Bool := #[yy,nn,nn,nn,nn,nn,nn,nn,nn,nn,nn,nn,nn,nn,nn,nn,nn,nn,nn,nn,nn,nn,nn,nn]
abbrev Lr : Array Bool := #[yy,yy,nn,nn,nn,nn,nn,nn,nn,nn,nn,nn,nn,nn,nn,nn,nn,nn,nn,nn,nn,nn,nn,nn]
abbrev Ls : Array Bool := #[yy,yy,yy,nn,nn,nn,nn,nn,nn,nn,nn,nn,nn,nn,nn,nn,nn,nn,nn,nn,nn,nn,nn,nn]
abbrev Lt : Array Bool := #[yy,yy,yy,yy,nn,nn,nn,nn,nn,nn,nn,nn,nn,nn,nn,nn,nn,nn,nn,nn,nn,nn,nn,nn]
abbrev Lu : Array Bool := #[yy,yy,yy,yy,yy,nn,nn,nn,nn,nn,nn,nn,nn,nn,nn,nn,nn,nn,nn,nn,nn,nn,nn,nn]
abbrev Lv : Array Bool := #[yy,yy,yy,yy,yy,yy,nn,nn,nn,nn,nn,nn,nn,nn,nn,nn,nn,nn,nn,nn,nn,nn,nn,nn]
abbrev Lx : Array Bool := #[yy,yy,yy,yy,yy,yy,yy,nn,nn,nn,nn,nn,nn,nn,nn,nn,nn,nn,nn,nn,nn,nn,nn,nn]
abbrev L6 : Array Bool := #[yy,yy,yy,yy,yy,yy,yy,yy,nn,nn,nn,nn,nn,nn,nn,nn,nn,nn,nn,nn,nn,nn,nn,nn]
abbrev L8 : Array Bool := #[yy,yy,yy,yy,yy,yy,yy,yy,yy,nn,nn,nn,nn,nn,nn,nn,nn,nn,nn,nn,nn,nn,nn,nn]
abbrev L9 : Array Bool := #[yy,yy,yy,yy,yy,yy,yy,yy,yy,yy,nn,nn,nn,nn,nn,nn,nn,nn,nn,nn,nn,nn,nn,nn]
abbrev LA : Array Bool := #[yy,yy,yy,yy,yy,yy,yy,yy,yy,yy,yy,nn,nn,nn,nn,nn,nn,nn,nn,nn,nn,nn,nn,nn]
abbrev LC : Array Bool := #[yy,yy,yy,yy,yy,yy,yy,yy,yy,yy,yy,yy,nn,nn,nn,nn,nn,nn,nn,nn,nn,nn,nn,nn]
abbrev QC : Array Bool := #[yy,yy,yy,yy,yy,yy,yy,yy,yy,yy,yy,yy,nn,nn,nn,nn,nn,yy,nn,nn,nn,nn,nn,nn]
abbrev Xlh : Array Bool := #[yy,yy,yy,yy,yy,yy,yy,yy,yy,yy,yy,yy,yy,nn,nn,nn,nn,nn,nn,nn,nn,nn,nn,nn]
abbrev QD : Array Bool := #[yy,yy,yy,yy,yy,yy,yy,yy,yy,yy,yy,yy,nn,nn,nn,nn,nn,yy,yy,nn,nn,nn,nn,nn]
abbrev Xli : Array Bool := #[yy,yy,yy,yy,yy,yy,yy,yy,yy,yy,yy,yy,yy,yy,nn,nn,nn,nn,nn,nn,nn,nn,nn,nn]
abbrev QE : Array Bool := #[yy,yy,yy,yy,yy,yy,yy,yy,yy,yy,yy,yy,nn,nn,nn,nn,nn,yy,yy,yy,nn,nn,nn,nn]
abbrev Xlj : Array Bool := #[yy,yy,yy,yy,yy,yy,yy,yy,yy,yy,yy,yy,yy,yy,yy,nn,nn,nn,nn,nn,nn,nn,nn,nn]
abbrev QF : Array Bool := #[yy,yy,yy,yy,yy,yy,yy,yy,yy,yy,yy,yy,nn,nn,nn,nn,nn,yy,yy,yy,yy,nn,nn,nn]
abbrev Xlk : Array Bool := #[yy,yy,yy,yy,yy,yy,yy,yy,yy,yy,yy,yy,yy,yy,yy,yy,nn,nn,nn,nn,nn,nn,nn,nn]
abbrev QG : Array Bool := #[yy,yy,yy,yy,yy,yy,yy,yy,yy,yy,yy,yy,yy,nn,nn,nn,nn,yy,yy,yy,yy,nn,nn,nn]
abbrev Xll : Array Bool := #[yy,yy,yy,yy,yy,yy,yy,yy,yy,yy,yy,yy,yy,yy,yy,yy,yy,nn,nn,nn,nn,nn,nn,nn]
abbrev QH : Array Bool := #[yy,yy,yy,yy,yy,yy,yy,yy,yy,yy,yy,yy,yy,yy,nn,nn,nn,yy,yy,yy,yy,nn,nn,nn]
abbrev Xlm : Array Bool := #[yy,yy,yy,yy,yy,yy,yy,yy,yy,yy,yy,yy,yy,yy,yy,yy,yy,yy,nn,nn,nn,nn,nn,nn]
abbrev QI : Array Bool := #[yy,yy,yy,yy,yy,yy,yy,yy,yy,yy,yy,yy,yy,yy,yy,nn,nn,yy,yy,yy,yy,nn,nn,nn]
abbrev Xln : Array Bool := #[yy,yy,yy,yy,yy,yy,yy,yy,yy,yy,yy,yy,yy,yy,yy,yy,yy,yy,yy,nn,nn,nn,nn,nn]
abbrev QJ : Array Bool := #[yy,yy,yy,yy,yy,yy,yy,yy,yy,yy,yy,yy,yy,yy,yy,yy,nn,yy,yy,yy,yy,nn,nn,nn]
abbrev Xlo : Array Bool := #[yy,yy,yy,yy,yy,yy,yy,yy,yy,yy,yy,yy,yy,yy,yy,yy,yy,yy,yy,yy,nn,nn,nn,nn]
abbrev LD : Array Bool := #[yy,yy,yy,yy,yy,yy,yy,yy,yy,yy,yy,yy,yy,yy,yy,yy,yy,yy,yy,yy,yy,nn,nn,nn]
abbrev LF : Array Bool := #[yy,yy,yy,yy,yy,yy,yy,yy,yy,yy,yy,yy,yy,yy,yy,yy,yy,yy,yy,yy,yy,yy,nn,nn]
abbrev LG : Array Bool := #[yy,yy,yy,yy,yy,yy,yy,yy,yy,yy,yy,yy,yy,yy,yy,yy,yy,yy,yy,yy,yy,yy,yy,nn]
abbrev LH : Array Bool := #[yy,yy,yy,yy,yy,yy,yy,yy,yy,yy,yy,yy,yy,yy,yy,yy,yy,yy,yy,yy,yy,yy,yy,yy]
mutual
def Xt.l0 : Nat → List (S76) → Int → Option (Bool)
 | 0, _, _ => none
 | k + 1, x0, x3 => if x3 < (x0.length : Int) then (if 0 ≤ x3 then ((YV.f k ((Xa x0 x3).f0) ((Xa x0 x3).f1) ((Xa x0 x3).f2) ((Xa x0 x3).f3) ((Xa x0 x3).f4) ((Xa x0 x3).f5) ((Xa x0 x3).f6) ((Xa x0 x3).f7)).bind fun t183 => (if t183 = true then (if x3 ≤ (x0.length : Int) then ((Yr.f k (x0.take (x3 : Int).toNat) ((Xa x0 x3).f1)).bind fun SA => (if ((Xa x0 x3).f6) = SA then (Xt.j1 k x0 x3 (decide (((Xa x0 x3).f7) > x3))) else (Xt.j1 k x0 x3 true))) else (none)) else (Xt.j1 k x0 x3 true))) else (none)) else (some (decide ((x0.length : Int) ≤ 150)))
def Xt.j1 : Nat → List (S76) → Int → Bool → Option (Bool)
 | 0, _, _, _ => none
 | k + 1, x0, x3, x41 => if x41 = true then (some false) else (if 0 ≤ x3 then (if x3 < (x0.length : Int) then (if ((Xa x0 x3).f7) > 0 then (if 0 ≤ (wrap64 (((Xa x0 x3).f7) - 1)) then (if (wrap64 (((Xa x0 x3).f7) - 1)) < (x0.length : Int) then (if ((Xa x0 (wrap64 (((Xa x0 x3).f7) - 1))).f1) = ((Xa x0 x3).f1) then (Xt.l0 k x0 (wrap64 (x3 + 1))) else (some false)) else (none)) else (none)) else (Xt.l0 k x0 (wrap64 (x3 + 1)))) else (none)) else (none))
end
def Xt.f (k : Nat) (l0 : List (S76)) : Option (Bool) := Xt.l0 k l0 0
def Xt.T4 : Bool × List (List Nat × List Nat) := (true, [([], []), ([], []), ([0, 1], [0, 1]), ([2], [2]), ([3], [3]), ([4], [4]), ([5, 4], [5]), ([6], [6]), ([6], [6]), ([7, 8, 6], [6, 7, 8]), ([9, 6], [6, 9]), ([10, 6], [6, 10]), ([6], [6]), ([6], [6]), ([12, 13, 6], [6, 12, 13]), ([6], [6]), ([6], [6]), ([15, 16, 6], [6, 15, 16]), ([17, 6], [6, 17]), ([18, 6], [6, 18]), ([14, 19, 6, 6], [6, 14, 19]), ([11, 20, 6], [6, 11, 20]), ([6, 21], [6, 21]), ([22, 20], [22]), ([23], [23]), ([23], [23]), ([24, 25, 23], [23, 24, 25]), ([26, 23], [23, 26]), ([27, 23], [23, 27]), ([23], [23]), ([28, 29, 23], [23, 28, 29]), ([23, 30], [23, 30])])
def Xt.B4 : List Nat := [0, 0, 3, 7, 15, 31, 63, 127, 127, 511, 1023, 2047, 127, 127, 12415, 127, 127, 98431, 229503, 491647, 1044607, 2097151, 4194303, 8388607, 16777215, 16777215, 67108863, 134217727, 268435455, 16777215, 1073741823, 2147483647]
theorem Xt.TE : JH .any (opsOf Tryz.f43 4) = Xt.T4 := by kernel_rfl
theorem Xt.MN : Z4 Xt.T4.2 Xt.B4 = true := by kernel_rfl
def Xt.T6 : Bool × List (List Nat × List Nat) := (true, [([], []), ([], []), ([0, 1], [0, 1]), ([2], [2]), ([3], [3]), ([4], [4]), ([5], [5]), ([6], [6]), ([6], [6]), ([6], [6]), ([8, 9, 6], [6, 8, 9]), ([10, 6], [6, 10]), ([11, 6], [6, 11]), ([12, 6], [6, 12]), ([7, 13, 6], [6, 7, 13]), ([14, 6], [6, 14]), ([15, 6], [6, 15]), ([6], [6]), ([6], [6]), ([17, 18, 6], [6, 17, 18]), ([19, 6], [6, 19]), ([20, 6], [6, 20]), ([16, 21, 6], [6, 16, 21]), ([6, 22], [6, 22])])
def Xt.B6 : List Nat := [0, 0, 3, 7, 15, 31, 63, 127, 127, 127, 895, 1919, 3967, 8063, 16383, 32767, 65535, 127, 127, 393343, 917631, 1966207, 4194303, 8388607]
theorem Xt.Ob : JH .any (opsOf Tryz.f43 6) = Xt.T6 := by kernel_rfl
theorem Xt.NS : Z4 Xt.T6.2 Xt.B6 = true := by kernel_rfl
set_option maxHeartbeats 8000000 in
set_option maxRecDepth 100000 in
theorem Xt.calls (k : Nat) (A0 : Option Addr) (c0 : Nat) (l0 : List (S76)) (r : Bool) (w : World) (hr0 : Kd.C k76 w A0 l0.length l0) (hc0 : l0.length ≤ c0) (h : Xt.f k l0 = some r) :
 Calls Tryz.prog 43 #[.slice A0 l0.length c0] w fun e w' => e = .returned (.bool r) ∧ Below w.heap.size w w' := by
 have hu76 := Tryz.underlying76; have HR0 := az hr0; have HC0 := az hc0; clear hr0 hc0; have HB := az (Below.refl w.heap.size w); have H : (Xt.l0 k l0 0) = some r := h; clear h; have H' := az H; clear H
 go_enter Tryz.func43, Tryz.ntmps43
 go_wp2
 go_loopg [3] k (fun kq v3 w' => ∃ (Xl : Int), v3 = .int .i64 Xl ∧ Aside0 (Xt.l0 kq l0 Xl = some r) ∧ Aside0 (kq ≤ k) ∧ Aside0 (Below w.heap.size w w'))
 case atStart => exact ⟨(0), zb5, H', ⟨Nat.le_refl _⟩, ⟨zb0⟩⟩
 case round =>
  clear H'; obtain ⟨Xl, rfl, HA, HK1, HB⟩ := hrel
  cases gk with
  | zero => exact absurd HA.out (by simp [Xt.l0])
  | succ k1 =>
   have H := HA.out; clear HA; simp only [Xt.l0] at H
   by_cases c2 : Xl < (l0.length : Int)
   ·rw [if_pos c2] at H
    have c2b0 : decide (Xl < (l0.length : Int)) = true := decide_eq_true c2; clear c2; have HC3 := az H; clear H
    go_upto_region 4 with (fail)
    go_cut [41] (fun v41 wc => ∃ (kq : Nat) (Xh9 : Bool), v41 = .bool Xh9 ∧ Aside0 (Xt.j1 kq l0 Xl Xh9 = some r) ∧ Aside0 (kq ≤ k1) ∧ Aside0 (Below w.heap.size w wc))
    case first =>
     have H := HC3.out; clear HC3
     by_cases c4 : 0 ≤ Xl
     ·rw [if_pos c4] at H
      have c4b0 : decide (0 ≤ Xl) = true := decide_eq_true c4; clear c4
      (first | rw [c4b0] | (simp only [Xz, XF]; rw [c4b0]) | skip)
      replace H := Option.bind_eq_some_iff.mp H; obtain ⟨t183, A50, H⟩ := H; replace H : (if t183 = true then (if Xl ≤ (l0.length : Int) then ((Yr.f k1 (l0.take (Xl : Int).toNat) ((Xa l0 Xl).f1)).bind fun SA => (if ((Xa l0 Xl).f6) = SA then (Xt.j1 k1 l0 Xl (decide (((Xa l0 Xl).f7) > Xl))) else (Xt.j1 k1 l0 Xl true))) else (none)) else (Xt.j1 k1 l0 Xl true)) = some r := H; have A5 := az A50; clear A50
      by_cases c6 : t183 = true
      ·subst c6
       have H1 : (if Xl ≤ (l0.length : Int) then ((Yr.f k1 (l0.take (Xl : Int).toNat) ((Xa l0 Xl).f1)).bind fun SA => (if ((Xa l0 Xl).f6) = SA then (Xt.j1 k1 l0 Xl (decide (((Xa l0 Xl).f7) > Xl))) else (Xt.j1 k1 l0 Xl true))) else (none)) = some r := by rw [if_pos rfl] at H; exact H
       clear H; have H := H1; clear H1; have c7b0 := eq_true (of_decide_eq_true zb3 : 0 ≤ Xl)
       by_cases c8 : Xl ≤ (l0.length : Int)
       ·rw [if_pos c8] at H
        have c8b0 := eq_true c8; have c8b1 : decide (Xl ≤ (l0.length : Int)) = true := decide_eq_true c8; clear c8
        obtain ⟨XaK, hy185⟩ : ∃ y_ : List (S76), y_ = (l0.take (Xl : Int).toNat) := ⟨_, rfl⟩
        replace H : ((Yr.f k1 XaK ((Xa l0 Xl).f1)).bind fun SA => (if ((Xa l0 Xl).f6) = SA then (Xt.j1 k1 l0 Xl (decide (((Xa l0 Xl).f7) > Xl))) else (Xt.j1 k1 l0 Xl true))) = some r := by first | (rw [hy185]; with_reducible exact H) | (have H2_ := (Option.bind_some _ _).symm.trans H; rw [hy185]; with_reducible exact H2_) | (have H2_ := (Option.bind_some _ _).symm.trans H; with_reducible exact H2_) | with_reducible exact H | (rw [hy185]; exact H) | exact H
        have Ny185 := az hy185; clear hy185; replace H := Option.bind_eq_some_iff.mp H; obtain ⟨SA, A90, H⟩ := H; replace H : (if ((Xa l0 Xl).f6) = SA then (Xt.j1 k1 l0 Xl (decide (((Xa l0 Xl).f7) > Xl))) else (Xt.j1 k1 l0 Xl true)) = some r := H; have A9 := az A90; clear A90
        by_cases c10 : ((Xa l0 Xl).f6) = SA
        ·rw [if_pos c10] at H
         have Vh : (((Xa l0 Xl).f6) == SA) = true := beq_iff_eq.mpr c10; have U8 : (((Xa l0 Xl).f6) != SA) = false := bne_eq_false_iff_eq.mpr c10; clear c10; have H' := az H; clear H
         try go_wp2
         replace HB := az (wd HB.out); have TA : 0 ≤ (Xl : Int) := of_decide_eq_true zb3; have TB : Xl < (l0.length : Int) := of_decide_eq_true zb3; obtain ⟨Df, XlY, Vt, Vu, Vv, Vw, Vx, Vy, Vz, V4⟩ := Ym HR0.out Xl TA TB; have hw182_7 := V4; have hw182_6 := Vz; have hw182_5 := Vy; have hw182_4 := Vx; have hw182_3 := Vw; have hw182_2 := Vv; have hw182_1 := Vu; have hw182_0 := Vt
         cases XlY
         replace Vt := cb HB Vt; replace Vu := cb HB Vu; replace Vv := cb HB Vv; replace Vw := cb HB Vw; replace Vx := cb HB Vx; replace Vy := cb HB Vy; replace Vz := cb HB Vz; replace V4 := cb HB V4; replace TA := eq_true TA; replace TB := eq_true TB; have XbV : 0 ≤ (Xl : Int) := of_decide_eq_true zb3; have XbW : Xl < (l0.length : Int) := of_decide_eq_true zb3; obtain ⟨XlZ, Xtl, Fj, Fp, Fq, Fs, Fu, Fv, Fw, Fx⟩ := Ym HR0.out Xl XbV XbW; have hw184_7 := Fx; have hw184_6 := Fw; have hw184_5 := Fv; have hw184_4 := Fu; have hw184_3 := Fs; have hw184_2 := Fq; have hw184_1 := Fp; have hw184_0 := Fj
         obtain rfl : Df = XlZ := (by injection Xtl)
         replace Fj := cb HB Fj; replace Fp := cb HB Fp; replace Fq := cb HB Fq; replace Fs := cb HB Fs; replace Fu := cb HB Fu; replace Fv := cb HB Fv; replace Fw := cb HB Fw; replace Fx := cb HB Fx; replace XbV := eq_true XbV; replace XbW := eq_true XbW; have XbX : 0 ≤ (Xl : Int) := of_decide_eq_true zb3; have XbY : Xl < (l0.length : Int) := of_decide_eq_true zb3; obtain ⟨Xma, Xtm, Fy, Fz, F3, F4, F5, F6, F7, F8⟩ := Ym HR0.out Xl XbX XbY; have hw189_7 := F8; have hw189_6 := F7; have hw189_5 := F6; have hw189_4 := F5; have hw189_3 := F4; have hw189_2 := F3; have hw189_1 := Fz; have hw189_0 := Fy
         obtain rfl : Df = Xma := (by injection Xtm)
         replace Fy := cb HB Fy; replace Fz := cb HB Fz; replace F3 := cb HB F3; replace F4 := cb HB F4; replace F5 := cb HB F5; replace F6 := cb HB F6; replace F7 := cb HB F7; replace F8 := cb HB F8; replace XbX := eq_true XbX; replace XbY := eq_true XbY; have Xtn : 0 ≤ (Xl : Int) := of_decide_eq_true zb3; have Xto : Xl < (l0.length : Int) := of_decide_eq_true zb3; obtain ⟨Xv0, e191, Rv, Rw, Rx, Ry, Rz, RA, RB, RD⟩ := Ym HR0.out Xl Xtn Xto; have hw191_7 := RD; have hw191_6 := RB; have hw191_5 := RA; have hw191_4 := Rz; have hw191_3 := Ry; have hw191_2 := Rx; have hw191_1 := Rw; have hw191_0 := Rv
         obtain rfl : Df = Xv0 := (by injection e191)
         replace Rv := cb HB Rv; replace Rw := cb HB Rw; replace Rx := cb HB Rx; replace Ry := cb HB Ry; replace Rz := cb HB Rz; replace RA := cb HB RA; replace RB := cb HB RB; replace RD := cb HB RD; replace Xtn := eq_true Xtn; replace Xto := eq_true Xto; refine Yw (n := 32) (S := fun w' => r8 w' (Df.add ((Xl).toNat * 8)) (Xa l0 Xl) (r8 w' (Df.add ((Xl).toNat * 8)) (Xa l0 Xl) (r8 w' (Df.add ((Xl).toNat * 8)) (Xa l0 Xl) (r8t w' (Df.add ((Xl).toNat * 8)) (Xa l0 Xl))))) (ds := []) Oc zb6 rfl rfl ⟨(cb HB hw182_0 :), (cb HB hw182_1 :), (cb HB hw182_2 :), (cb HB hw182_3 :), (cb HB hw182_4 :), (cb HB hw182_5 :), (cb HB hw182_6 :), (cb HB hw182_7 :), (cb HB hw184_0 :), (cb HB hw184_1 :), (cb HB hw184_2 :), (cb HB hw184_3 :), (cb HB hw184_4 :), (cb HB hw184_5 :), (cb HB hw184_6 :), (cb HB hw184_7 :), (cb HB hw189_0 :), (cb HB hw189_1 :), (cb HB hw189_2 :), (cb HB hw189_3 :), (cb HB hw189_4 :), (cb HB hw189_5 :), (cb HB hw189_6 :), (cb HB hw189_7 :), (cb HB hw191_0 :), (cb HB hw191_1 :), (cb HB hw191_2 :), (cb HB hw191_3 :), (cb HB hw191_4 :), (cb HB hw191_5 :), (cb HB hw191_6 :), (cb HB hw191_7 :)⟩ (fun hHeld => ?_); refine XH Xt.TE Xt.MN (fun HT_ HW_ => ?_); generalize wr.drew = w11 at HB Vt Vu Vv Vw Vx Vy Vz V4 Fj Fp Fq Fs Fu Fv Fw Fx Fy Fz F3 F4 F5 F6 F7 F8 Rv Rw Rx Ry Rz RA RB RD hHeld ⊢
         refine pu 0 10 Od HT_ ?_; refine pu 1 11 Oe HT_ ?_; refine pu 2 12 Og HT_ ?_; refine tk 3 13 Oh HT_ HW_ hHeld ?_; refine Zj (i := 4) (N := some 14) Oi rfl rfl (Yl HT_.out zb6) (by decide) (fun K hK => ?_); refine YI Tryz.func71 zb6 rfl #[agx (Xa l0 Xl) ((Xa l0 Xl).f1) ((Xa l0 Xl).f7)] (by rfl) rfl rfl zb2 ?_
         with_reducible refine (YV.calls k1 ((Xa l0 Xl).f0) ((Xa l0 Xl).f1) ((Xa l0 Xl).f2) ((Xa l0 Xl).f3) ((Xa l0 Xl).f4) ((Xa l0 Xl).f5) ((Xa l0 Xl).f6) ((Xa l0 Xl).f7) true _ A5.out).mono ?_
         rintro e w12 ⟨rfl, hb⟩; refine ⟨_, rfl, ?_⟩; replace HB := az (Xc zb0 hb)
         (try clear hb);(try clear hb2);(try clear hk);(try clear hi)
         have q13 : (Xl : Int) ≤ ((l0.length : Int) : Int) := of_decide_eq_true zb3; obtain ⟨i013, hi013, _, hsz13, _⟩ := info_parts Em; have hroom13 : l0.length ≤ c0 := HC0.out; have hC13 : Kd.C k76 _ (some Df) l0.length l0 := HR0.out; have hcut13 := Xb7 (P := Tryz.prog) 29 76 .i64 Tryz.underlying29 hi013 (some Df) l0.length c0 Xl (of_decide_eq_true zb3) q13 hroom13; have hr13 := Kd.Xb8 (m := (Xl : Int).toNat) hC13 (by omega)
         have hy13 : XaK.length = (Xl : Int).toNat := (by rw [Ny185.out, List.length_take]; omega)
         rw [← Ny185.out] at hr13; rw [← hy13] at hcut13; have XrT := az hr13; have Xmb := az (show XaK.length ≤ c0 from by omega); clear hr13 hC13 hroom13 hi013 hsz13; have KY13 := az hy13; clear hy13; replace q13 := eq_true q13; refine hK.out _ _ ⟨(cb HB hw182_0 :), (cb HB hw182_1 :), (cb HB hw182_2 :), (cb HB hw182_3 :), (cb HB hw182_4 :), (cb HB hw182_5 :), (cb HB hw182_6 :), (cb HB hw182_7 :), (cb HB hw184_0 :), (cb HB hw184_1 :), (cb HB hw184_2 :), (cb HB hw184_3 :), (cb HB hw184_4 :), (cb HB hw184_5 :), (cb HB hw184_6 :), (cb HB hw184_7 :), (cb HB hw189_0 :), (cb HB hw189_1 :), (cb HB hw189_2 :), (cb HB hw189_3 :), (cb HB hw189_4 :), (cb HB hw189_5 :), (cb HB hw189_6 :), (cb HB hw189_7 :), (cb HB hw191_0 :), (cb HB hw191_1 :), (cb HB hw191_2 :), (cb HB hw191_3 :), (cb HB hw191_4 :), (cb HB hw191_5 :), (cb HB hw191_6 :), (cb HB hw191_7 :)⟩ (fun hHeld => ?_); clear hK K; refine XQ (a' := ?_) ?_ ?_; rotate_left
         ·show Act.put _ (some 14) _ = _
          simp only [Act.put, List.setIfInBounds_toArray, List.set_cons_zero, List.set_cons_succ, Xz, XF]
          rfl
         refine pu 5 15 Oj HT_ ?_; refine pu 6 16 Ol HT_ ?_; refine pu 7 17 Om HT_ ?_; refine pu 8 18 Oo HT_ ?_; refine pu 9 19 KW HT_ ?_; refine pu 10 20 KX HT_ ?_; refine pu 12 22 Q4 HT_ ?_; refine pu 13 23 Q5 HT_ ?_; refine pu 14 24 Q6 HT_ ?_; refine pu 15 25 Q7 HT_ ?_; refine pu 16 26 Q8 HT_ ?_; refine pu 17 27 Q9 HT_ ?_; refine pu 18 28 QA HT_ ?_; refine tk 11 21 KY HT_ HW_ hHeld ?_; refine tk 19 29 KZ HT_ HW_ hHeld ?_; refine Zj (i := 20) (N := some 30) La rfl rfl (Yl HT_.out zb6) (by decide) (fun K hK => ?_); refine YI Tryz.func72 zb6 rfl #[.slice (some Df) XaK.length c0, .int .i64 ((Xa l0 Xl).f1)] (by rfl) rfl rfl zb2 ?_
         with_reducible refine (Yr.calls k1 _ _ XaK ((Xa l0 Xl).f1) SA _ ?side1 ?side2 A9.out).mono ?_
         (case side1 => exact zb79)
         (case side2 => exact Xmb.out)
         rintro e w' ⟨rfl, ⟨nd, rfl⟩⟩; refine ⟨_, rfl, ?_⟩; refine hK.out _ _ ⟨(cb HB hw182_0 :), (cb HB hw182_1 :), (cb HB hw182_2 :), (cb HB hw182_3 :), (cb HB hw182_4 :), (cb HB hw182_5 :), (cb HB hw182_6 :), (cb HB hw182_7 :), (cb HB hw184_0 :), (cb HB hw184_1 :), (cb HB hw184_2 :), (cb HB hw184_3 :), (cb HB hw184_4 :), (cb HB hw184_5 :), (cb HB hw184_6 :), (cb HB hw184_7 :), (cb HB hw189_0 :), (cb HB hw189_1 :), (cb HB hw189_2 :), (cb HB hw189_3 :), (cb HB hw189_4 :), (cb HB hw189_5 :), (cb HB hw189_6 :), (cb HB hw189_7 :), (cb HB hw191_0 :), (cb HB hw191_1 :), (cb HB hw191_2 :), (cb HB hw191_3 :), (cb HB hw191_4 :), (cb HB hw191_5 :), (cb HB hw191_6 :), (cb HB hw191_7 :)⟩ (fun hHeld => ?_); clear hK K; refine XQ (a' := ?_) ?_ ?_; rotate_left
         ·show Act.put _ (some 30) _ = _
          simp only [Act.put, List.setIfInBounds_toArray, List.set_cons_zero, List.set_cons_succ, Xz, XF]
          rfl
         refine pu 21 31 Lb HT_ ?_; refine pu 22 32 Lc HT_ ?_; refine pu 23 33 Ld HT_ ?_; refine pu 24 34 Le HT_ ?_; refine pu 25 35 Lf HT_ ?_; refine pu 26 36 Lg HT_ ?_; refine pu 27 37 Lh HT_ ?_; refine pu 29 39 Xlg HT_ ?_; refine tk 28 38 Li HT_ HW_ hHeld ?_; refine pu 30 40 Lj HT_ ?_; refine pu 31 41 Ll HT_ ?_; refine YX (YA HT_.out zb6) ?_
         try go_wp2
         go_meet
         case rel => exact ⟨_, (decide (((Xa l0 Xl).f7) > Xl)), zb5, H', ⟨zb50⟩, ⟨zb0⟩⟩
        ·rw [if_neg c10] at H
         have Vh : (((Xa l0 Xl).f6) == SA) = false := beq_eq_false_iff_ne.mpr c10; have U8 : (((Xa l0 Xl).f6) != SA) = true := bne_iff_ne.mpr c10; have H' := az H; clear H
         try go_wp2
         replace HB := az (wd HB.out); have TA : 0 ≤ (Xl : Int) := of_decide_eq_true zb3; have TB : Xl < (l0.length : Int) := of_decide_eq_true zb3; obtain ⟨Df, XlY, Vt, Vu, Vv, Vw, Vx, Vy, Vz, V4⟩ := Ym HR0.out Xl TA TB; have hw182_7 := V4; have hw182_6 := Vz; have hw182_5 := Vy; have hw182_4 := Vx; have hw182_3 := Vw; have hw182_2 := Vv; have hw182_1 := Vu; have hw182_0 := Vt
         cases XlY
         replace Vt := cb HB Vt; replace Vu := cb HB Vu; replace Vv := cb HB Vv; replace Vw := cb HB Vw; replace Vx := cb HB Vx; replace Vy := cb HB Vy; replace Vz := cb HB Vz; replace V4 := cb HB V4; replace TA := eq_true TA; replace TB := eq_true TB; have XbV : 0 ≤ (Xl : Int) := of_decide_eq_true zb3; have XbW : Xl < (l0.length : Int) := of_decide_eq_true zb3; obtain ⟨XlZ, Xtl, Fj, Fp, Fq, Fs, Fu, Fv, Fw, Fx⟩ := Ym HR0.out Xl XbV XbW; have hw184_7 := Fx; have hw184_6 := Fw; have hw184_5 := Fv; have hw184_4 := Fu; have hw184_3 := Fs; have hw184_2 := Fq; have hw184_1 := Fp; have hw184_0 := Fj
         obtain rfl : Df = XlZ := (by injection Xtl)
         replace Fj := cb HB Fj; replace Fp := cb HB Fp; replace Fq := cb HB Fq; replace Fs := cb HB Fs; replace Fu := cb HB Fu; replace Fv := cb HB Fv; replace Fw := cb HB Fw; replace Fx := cb HB Fx; replace XbV := eq_true XbV; replace XbW := eq_true XbW; have XbX : 0 ≤ (Xl : Int) := of_decide_eq_true zb3; have XbY : Xl < (l0.length : Int) := of_decide_eq_true zb3; obtain ⟨Xma, Xtm, Fy, Fz, F3, F4, F5, F6, F7, F8⟩ := Ym HR0.out Xl XbX XbY; have hw189_7 := F8; have hw189_6 := F7; have hw189_5 := F6; have hw189_4 := F5; have hw189_3 := F4; have hw189_2 := F3; have hw189_1 := Fz; have hw189_0 := Fy
         obtain rfl : Df = Xma := (by injection Xtm)
         replace Fy := cb HB Fy; replace Fz := cb HB Fz; replace F3 := cb HB F3; replace F4 := cb HB F4; replace F5 := cb HB F5; replace F6 := cb HB F6; replace F7 := cb HB F7; replace F8 := cb HB F8; replace XbX := eq_true XbX; replace XbY := eq_true XbY; refine Yw (n := 32) (S := fun w' => r8 w' (Df.add ((Xl).toNat * 8)) (Xa l0 Xl) (r8 w' (Df.add ((Xl).toNat * 8)) (Xa l0 Xl) (r8t w' (Df.add ((Xl).toNat * 8)) (Xa l0 Xl)))) (ds := []) Oc zb6 rfl rfl ⟨(cb HB hw182_0 :), (cb HB hw182_1 :), (cb HB hw182_2 :), (cb HB hw182_3 :), (cb HB hw182_4 :), (cb HB hw182_5 :), (cb HB hw182_6 :), (cb HB hw182_7 :), (cb HB hw184_0 :), (cb HB hw184_1 :), (cb HB hw184_2 :), (cb HB hw184_3 :), (cb HB hw184_4 :), (cb HB hw184_5 :), (cb HB hw184_6 :), (cb HB hw184_7 :), (cb HB hw189_0 :), (cb HB hw189_1 :), (cb HB hw189_2 :), (cb HB hw189_3 :), (cb HB hw189_4 :), (cb HB hw189_5 :), (cb HB hw189_6 :), (cb HB hw189_7 :)⟩ (fun hHeld => ?_); refine XH Xt.TE Xt.MN (fun HT_ HW_ => ?_); generalize wr.drew = w14 at HB Vt Vu Vv Vw Vx Vy Vz V4 Fj Fp Fq Fs Fu Fv Fw Fx Fy Fz F3 F4 F5 F6 F7 F8 hHeld ⊢; refine pu 0 10 Od HT_ ?_; refine pu 1 11 Oe HT_ ?_; refine pu 2 12 Og HT_ ?_; refine tk 3 13 Oh HT_ HW_ hHeld ?_; refine Zj (i := 4) (N := some 14) Oi rfl rfl (Yl HT_.out zb6) (by decide) (fun K hK => ?_)
         refine YI Tryz.func71 zb6 rfl #[agx (Xa l0 Xl) ((Xa l0 Xl).f1) ((Xa l0 Xl).f7)] (by rfl) rfl rfl zb2 ?_
         with_reducible refine (YV.calls k1 ((Xa l0 Xl).f0) ((Xa l0 Xl).f1) ((Xa l0 Xl).f2) ((Xa l0 Xl).f3) ((Xa l0 Xl).f4) ((Xa l0 Xl).f5) ((Xa l0 Xl).f6) ((Xa l0 Xl).f7) true _ A5.out).mono ?_
         rintro e w15 ⟨rfl, hb⟩; refine ⟨_, rfl, ?_⟩; replace HB := az (Xc zb0 hb)
         (try clear hb);(try clear hb2);(try clear hk);(try clear hi)
         have q16 : (Xl : Int) ≤ ((l0.length : Int) : Int) := of_decide_eq_true zb3; obtain ⟨i016, hi016, _, hsz16, _⟩ := info_parts Em; have hroom16 : l0.length ≤ c0 := HC0.out; have hC16 : Kd.C k76 _ (some Df) l0.length l0 := HR0.out; have hcut16 := Xb7 (P := Tryz.prog) 29 76 .i64 Tryz.underlying29 hi016 (some Df) l0.length c0 Xl (of_decide_eq_true zb3) q16 hroom16; have hr16 := Kd.Xb8 (m := (Xl : Int).toNat) hC16 (by omega)
         have hy16 : XaK.length = (Xl : Int).toNat := (by rw [Ny185.out, List.length_take]; omega)
         rw [← Ny185.out] at hr16; rw [← hy16] at hcut16; have XrT := az hr16; have Xmb := az (show XaK.length ≤ c0 from by omega); clear hr16 hC16 hroom16 hi016 hsz16; have KY16 := az hy16; clear hy16; replace q16 := eq_true q16; refine hK.out _ _ ⟨(cb HB hw182_0 :), (cb HB hw182_1 :), (cb HB hw182_2 :), (cb HB hw182_3 :), (cb HB hw182_4 :), (cb HB hw182_5 :), (cb HB hw182_6 :), (cb HB hw182_7 :), (cb HB hw184_0 :), (cb HB hw184_1 :), (cb HB hw184_2 :), (cb HB hw184_3 :), (cb HB hw184_4 :), (cb HB hw184_5 :), (cb HB hw184_6 :), (cb HB hw184_7 :), (cb HB hw189_0 :), (cb HB hw189_1 :), (cb HB hw189_2 :), (cb HB hw189_3 :), (cb HB hw189_4 :), (cb HB hw189_5 :), (cb HB hw189_6 :), (cb HB hw189_7 :)⟩ (fun hHeld => ?_); clear hK K; refine XQ (a' := ?_) ?_ ?_; rotate_left
         ·show Act.put _ (some 14) _ = _
          simp only [Act.put, List.setIfInBounds_toArray, List.set_cons_zero, List.set_cons_succ, Xz, XF]
          rfl
         refine pu 5 15 Oj HT_ ?_; refine pu 6 16 Ol HT_ ?_; refine pu 7 17 Om HT_ ?_; refine pu 8 18 Oo HT_ ?_; refine pu 9 19 KW HT_ ?_; refine pu 10 20 KX HT_ ?_; refine pu 12 22 Q4 HT_ ?_; refine pu 13 23 Q5 HT_ ?_; refine pu 14 24 Q6 HT_ ?_; refine pu 15 25 Q7 HT_ ?_; refine pu 16 26 Q8 HT_ ?_; refine pu 17 27 Q9 HT_ ?_; refine pu 18 28 QA HT_ ?_; refine tk 11 21 KY HT_ HW_ hHeld ?_; refine tk 19 29 KZ HT_ HW_ hHeld ?_; refine Zj (i := 20) (N := some 30) La rfl rfl (Yl HT_.out zb6) (by decide) (fun K hK => ?_); refine YI Tryz.func72 zb6 rfl #[.slice (some Df) XaK.length c0, .int .i64 ((Xa l0 Xl).f1)] (by rfl) rfl rfl zb2 ?_
         with_reducible refine (Yr.calls k1 _ _ XaK ((Xa l0 Xl).f1) SA _ ?side1 ?side2 A9.out).mono ?_
         (case side1 => exact zb79)
         (case side2 => exact Xmb.out)
         rintro e w' ⟨rfl, ⟨nd, rfl⟩⟩; refine ⟨_, rfl, ?_⟩; refine hK.out _ _ ⟨(cb HB hw182_0 :), (cb HB hw182_1 :), (cb HB hw182_2 :), (cb HB hw182_3 :), (cb HB hw182_4 :), (cb HB hw182_5 :), (cb HB hw182_6 :), (cb HB hw182_7 :), (cb HB hw184_0 :), (cb HB hw184_1 :), (cb HB hw184_2 :), (cb HB hw184_3 :), (cb HB hw184_4 :), (cb HB hw184_5 :), (cb HB hw184_6 :), (cb HB hw184_7 :), (cb HB hw189_0 :), (cb HB hw189_1 :), (cb HB hw189_2 :), (cb HB hw189_3 :), (cb HB hw189_4 :), (cb HB hw189_5 :), (cb HB hw189_6 :), (cb HB hw189_7 :)⟩ (fun hHeld => ?_); clear hK K; refine XQ (a' := ?_) ?_ ?_; rotate_left
         ·show Act.put _ (some 30) _ = _
          simp only [Act.put, List.setIfInBounds_toArray, List.set_cons_zero, List.set_cons_succ, Xz, XF]
          rfl
         refine pu 21 31 Lb HT_ ?_; refine pu 22 32 Lc HT_ ?_; refine pu 23 33 Ld HT_ ?_; refine pn 24 34 Le HT_ ?_; refine pn 25 35 Lf HT_ ?_; refine pn 26 36 Lg HT_ ?_; refine pn 27 37 Lh HT_ ?_; refine pn 28 38 QB HT_ ?_; refine pn 29 39 Li HT_ ?_; refine pn 30 40 Lj HT_ ?_; refine pu 31 41 Ll HT_ ?_; refine YX (YA HT_.out zb6) ?_
         try go_wp2
         go_meet
         case rel => exact ⟨_, (true), zb5, H', ⟨zb50⟩, ⟨zb0⟩⟩
       ·rw [if_neg c8] at H
        exact absurd H (by simp)
      ·replace c6 := Bool.eq_false_iff.mpr c6
       subst c6
       have H1 : (Xt.j1 k1 l0 Xl true) = some r := by rw [if_neg (show ¬ (false = true) by decide)] at H; exact H
       clear H; have H := H1; clear H1; have H' := az H; clear H
       try go_wp2
       replace HB := az (wd HB.out); have TA : 0 ≤ (Xl : Int) := of_decide_eq_true zb3; have TB : Xl < (l0.length : Int) := of_decide_eq_true zb3; obtain ⟨Df, XlY, Vt, Vu, Vv, Vw, Vx, Vy, Vz, V4⟩ := Ym HR0.out Xl TA TB; have hw182_7 := V4; have hw182_6 := Vz; have hw182_5 := Vy; have hw182_4 := Vx; have hw182_3 := Vw; have hw182_2 := Vv; have hw182_1 := Vu; have hw182_0 := Vt
       cases XlY
       replace Vt := cb HB Vt; replace Vu := cb HB Vu; replace Vv := cb HB Vv; replace Vw := cb HB Vw; replace Vx := cb HB Vx; replace Vy := cb HB Vy; replace Vz := cb HB Vz; replace V4 := cb HB V4; replace TA := eq_true TA; replace TB := eq_true TB; refine Yw (n := 32) (S := fun w' => r8t w' (Df.add ((Xl).toNat * 8)) (Xa l0 Xl)) (ds := []) Oc zb6 rfl rfl ⟨(cb HB hw182_0 :), (cb HB hw182_1 :), (cb HB hw182_2 :), (cb HB hw182_3 :), (cb HB hw182_4 :), (cb HB hw182_5 :), (cb HB hw182_6 :), (cb HB hw182_7 :)⟩ (fun hHeld => ?_); refine XH Xt.TE Xt.MN (fun HT_ HW_ => ?_); generalize wr.drew = w17 at HB Vt Vu Vv Vw Vx Vy Vz V4 hHeld ⊢; refine pu 0 10 Od HT_ ?_; refine pu 1 11 Oe HT_ ?_; refine pu 2 12 Og HT_ ?_; refine tk 3 13 Oh HT_ HW_ hHeld ?_; refine Zj (i := 4) (N := some 14) Oi rfl rfl (Yl HT_.out zb6) (by decide) (fun K hK => ?_); refine YI Tryz.func71 zb6 rfl #[agx (Xa l0 Xl) ((Xa l0 Xl).f1) ((Xa l0 Xl).f7)] (by rfl) rfl rfl zb2 ?_
       with_reducible refine (YV.calls k1 ((Xa l0 Xl).f0) ((Xa l0 Xl).f1) ((Xa l0 Xl).f2) ((Xa l0 Xl).f3) ((Xa l0 Xl).f4) ((Xa l0 Xl).f5) ((Xa l0 Xl).f6) ((Xa l0 Xl).f7) false _ A5.out).mono ?_
       rintro e w18 ⟨rfl, hb⟩; refine ⟨_, rfl, ?_⟩; replace HB := az (Xc zb0 hb)
       (try clear hb);(try clear hb2);(try clear hk);(try clear hi)
       refine hK.out _ _ ⟨(cb HB hw182_0 :), (cb HB hw182_1 :), (cb HB hw182_2 :), (cb HB hw182_3 :), (cb HB hw182_4 :), (cb HB hw182_5 :), (cb HB hw182_6 :), (cb HB hw182_7 :)⟩ (fun hHeld => ?_); clear hK K; refine XQ (a' := ?_) ?_ ?_; rotate_left
       ·show Act.put _ (some 14) _ = _
        simp only [Act.put, List.setIfInBounds_toArray, List.set_cons_zero, List.set_cons_succ, Xz, XF]
        rfl
       refine pu 5 15 Oj HT_ ?_; refine pu 6 16 Ol HT_ ?_; refine pn 7 17 Om HT_ ?_; refine pn 8 18 Oo HT_ ?_; refine pn 9 19 KW HT_ ?_; refine pn 10 20 KX HT_ ?_; refine pn 11 21 XkZ HT_ ?_; refine pn 12 22 Xla HT_ ?_; refine pn 13 23 Xlb HT_ ?_; refine pn 14 24 Xlc HT_ ?_; refine pn 15 25 Xld HT_ ?_; refine pn 16 26 Xle HT_ ?_; refine pn 17 27 Xlf HT_ ?_; refine pn 18 28 KY HT_ ?_; refine pn 19 29 KZ HT_ ?_; refine pn 20 30 La HT_ ?_; refine pn 21 31 Lb HT_ ?_; refine pu 22 32 Lc HT_ ?_; refine pu 23 33 Ld HT_ ?_; refine pn 24 34 Le HT_ ?_; refine pn 25 35 Lf HT_ ?_; refine pn 26 36 Lg HT_ ?_; refine pn 27 37 Lh HT_ ?_; refine pn 28 38 QB HT_ ?_; refine pn 29 39 Li HT_ ?_; refine pn 30 40 Lj HT_ ?_; refine pu 31 41 Ll HT_ ?_; refine YX (YA HT_.out zb6) ?_
       try go_wp2
       go_meet
       case rel => exact ⟨_, (true), zb5, H', ⟨zb50⟩, ⟨zb0⟩⟩
     ·rw [if_neg c4] at H
      exact absurd H (by simp)
    case rest =>
     clear HC3;(try clear c1);(try clear p1);(try clear q1);(try clear hx1);(try clear p2);(try clear c4);(try clear c6);(try clear c7);(try clear c8);(try clear c10);(try clear Vh);(try clear U8);(try clear q16);(try clear p18);(try clear q18);(try clear hx18);(try clear Vt);(try clear Vu);(try clear Vv);(try clear Vw);(try clear Vx);(try clear Vy);(try clear Vz);(try clear V4);(try clear Fj);(try clear Fp);(try clear Fq);(try clear Fs);(try clear Fu);(try clear Fv);(try clear Fw);(try clear Fx);(try clear Fy);(try clear Fz);(try clear F3);(try clear F4);(try clear F5);(try clear F6);(try clear F7);(try clear F8);(try clear TA);(try clear XbV);(try clear XbX);(try clear q16);(try clear TB);(try clear XbW);(try clear XbY)
     obtain ⟨kq, Xh9, rfl, HA, HJ2, HB⟩ := hcut
     cases kq with
     | zero => exact absurd HA.out (by simp [Xt.j1])
     | succ kj2 =>
      have H := HA.out; clear HA; simp only [Xt.j1] at H
      by_cases c19 : Xh9 = true
      ·subst c19
       have H1 : (some false) = some r := by rw [if_pos rfl] at H; exact H
       clear H; have H := H1; clear H1; obtain rfl := Option.some.inj H
       go_wp2
       go_ret
       exact ⟨zb4, zb0⟩
      ·replace c19 := Bool.eq_false_iff.mpr c19
       subst c19
       have H1 : (if 0 ≤ Xl then (if Xl < (l0.length : Int) then (if ((Xa l0 Xl).f7) > 0 then (if 0 ≤ (wrap64 (((Xa l0 Xl).f7) - 1)) then (if (wrap64 (((Xa l0 Xl).f7) - 1)) < (l0.length : Int) then (if ((Xa l0 (wrap64 (((Xa l0 Xl).f7) - 1))).f1) = ((Xa l0 Xl).f1) then (Xt.l0 kj2 l0 (wrap64 (Xl + 1))) else (some false)) else (none)) else (none)) else (Xt.l0 kj2 l0 (wrap64 (Xl + 1)))) else (none)) else (none)) = some r := by rw [if_neg (show ¬ (false = true) by decide)] at H; exact H
       clear H; have H := H1; clear H1
       by_cases c20 : 0 ≤ Xl
       ·rw [if_pos c20] at H
        have c20b0 : decide (0 ≤ Xl) = true := decide_eq_true c20; clear c20
        by_cases c21 : Xl < (l0.length : Int)
        ·rw [if_pos c21] at H
         have c21b0 : decide (Xl < (l0.length : Int)) = true := decide_eq_true c21; clear c21
         by_cases c22 : ((Xa l0 Xl).f7) > 0
         ·rw [if_pos c22] at H
          have Xv1 : decide (0 < ((Xa l0 Xl).f7)) = true := decide_eq_true c22; clear c22
          obtain ⟨Uq, XhA⟩ : ∃ j_ : Int, (wrap64 (((Xa l0 Xl).f7) - 1)) = j_ := ⟨_, rfl⟩
          replace H : (if 0 ≤ (Uq) then (if (Uq) < (l0.length : Int) then (if ((Xa l0 (Uq)).f1) = ((Xa l0 Xl).f1) then (Xt.l0 kj2 l0 (wrap64 (Xl + 1))) else (some false)) else (none)) else (none)) = some r := by first | (rw [XhA] at H; exact H) | (simp only [XhA] at H ⊢; exact H)
          have hji23w : (IntKind.i64.wrap (((Xa l0 Xl).f7) - 1)) = Uq := (Xz _).trans XhA
          by_cases c24 : 0 ≤ (Uq)
          ·rw [if_pos c24] at H
           have c24b0 : decide (0 ≤ (Uq)) = true := decide_eq_true c24; clear c24
           by_cases c25 : (Uq) < (l0.length : Int)
           ·rw [if_pos c25] at H
            have c25b0 : decide ((Uq) < (l0.length : Int)) = true := decide_eq_true c25; clear c25
            by_cases c26 : ((Xa l0 (Uq)).f1) = ((Xa l0 Xl).f1)
            ·rw [if_pos c26] at H
             have Xv2 : (((Xa l0 (Uq)).f1) == ((Xa l0 Xl).f1)) = true := beq_iff_eq.mpr c26; have Xv3 : (((Xa l0 (Uq)).f1) != ((Xa l0 Xl).f1)) = false := bne_eq_false_iff_eq.mpr c26; clear c26; have H' := az H; clear H
             try go_wp2
             replace HB := az (wd HB.out); have Bb : 0 ≤ (Xl : Int) := of_decide_eq_true zb3; have Bc : Xl < (l0.length : Int) := of_decide_eq_true zb3; obtain ⟨FI, Xmc, VI, VJ, VK, VL, VM, VN, VO, VP⟩ := Ym HR0.out Xl Bb Bc; have hw192_7 := VP; have hw192_6 := VO; have hw192_5 := VN; have hw192_4 := VM; have hw192_3 := VL; have hw192_2 := VK; have hw192_1 := VJ; have hw192_0 := VI
             cases Xmc
             replace VI := cb HB VI; replace VJ := cb HB VJ; replace VK := cb HB VK; replace VL := cb HB VL; replace VM := cb HB VM; replace VN := cb HB VN; replace VO := cb HB VO; replace VP := cb HB VP; replace Bb := eq_true Bb; replace Bc := eq_true Bc; have XeD : 0 ≤ (Xl : Int) := of_decide_eq_true zb3; have XeE : Xl < (l0.length : Int) := of_decide_eq_true zb3; obtain ⟨Xmd, Xtp, Gx, Gy, Gz, G5, G6, G7, G8, G9⟩ := Ym HR0.out Xl XeD XeE; have hw193_7 := G9; have hw193_6 := G8; have hw193_5 := G7; have hw193_4 := G6; have hw193_3 := G5; have hw193_2 := Gz; have hw193_1 := Gy; have hw193_0 := Gx
             obtain rfl : FI = Xmd := (by injection Xtp)
             replace Gx := cb HB Gx; replace Gy := cb HB Gy; replace Gz := cb HB Gz; replace G5 := cb HB G5; replace G6 := cb HB G6; replace G7 := cb HB G7; replace G8 := cb HB G8; replace G9 := cb HB G9; replace XeD := eq_true XeD; replace XeE := eq_true XeE; have XeF : 0 ≤ ((Uq) : Int) := of_decide_eq_true zb3; have XeG : (Uq) < (l0.length : Int) := of_decide_eq_true zb3; obtain ⟨Xme, Xtq, GA, GG, GH, GI, GJ, GK, GN, GQ⟩ := Ym HR0.out (Uq) XeF XeG; have hw194_7 := GQ; have hw194_6 := GN; have hw194_5 := GK; have hw194_4 := GJ; have hw194_3 := GI; have hw194_2 := GH; have hw194_1 := GG; have hw194_0 := GA
             obtain rfl : FI = Xme := (by injection Xtq)
             replace GA := cb HB GA; replace GG := cb HB GG; replace GH := cb HB GH; replace GI := cb HB GI; replace GJ := cb HB GJ; replace GK := cb HB GK; replace GN := cb HB GN; replace GQ := cb HB GQ; replace XeF := eq_true XeF; replace XeG := eq_true XeG; have XeH : 0 ≤ (Xl : Int) := of_decide_eq_true zb3; have XeI : Xl < (l0.length : Int) := of_decide_eq_true zb3; obtain ⟨Xmf, Xtr, GR, GU, GV, GX, GY, GZ, Ua, Ub⟩ := Ym HR0.out Xl XeH XeI; have hw195_7 := Ub; have hw195_6 := Ua; have hw195_5 := GZ; have hw195_4 := GY; have hw195_3 := GX; have hw195_2 := GV; have hw195_1 := GU; have hw195_0 := GR
             obtain rfl : FI = Xmf := (by injection Xtr)
             replace GR := cb HB GR; replace GU := cb HB GU; replace GV := cb HB GV; replace GX := cb HB GX; replace GY := cb HB GY; replace GZ := cb HB GZ; replace Ua := cb HB Ua; replace Ub := cb HB Ub; replace XeH := eq_true XeH; replace XeI := eq_true XeI; refine Yw (n := 24) (S := fun w' => r8 w' (FI.add ((Xl).toNat * 8)) (Xa l0 Xl) (r8 w' (FI.add ((Xl).toNat * 8)) (Xa l0 Xl) (r8 w' (FI.add (((Uq)).toNat * 8)) (Xa l0 (Uq)) (r8t w' (FI.add ((Xl).toNat * 8)) (Xa l0 Xl))))) (ds := []) Lm zb6 rfl rfl ⟨(cb HB hw192_0 :), (cb HB hw192_1 :), (cb HB hw192_2 :), (cb HB hw192_3 :), (cb HB hw192_4 :), (cb HB hw192_5 :), (cb HB hw192_6 :), (cb HB hw192_7 :), (cb HB hw193_0 :), (cb HB hw193_1 :), (cb HB hw193_2 :), (cb HB hw193_3 :), (cb HB hw193_4 :), (cb HB hw193_5 :), (cb HB hw193_6 :), (cb HB hw193_7 :), (cb HB hw194_0 :), (cb HB hw194_1 :), (cb HB hw194_2 :), (cb HB hw194_3 :), (cb HB hw194_4 :), (cb HB hw194_5 :), (cb HB hw194_6 :), (cb HB hw194_7 :), (cb HB hw195_0 :), (cb HB hw195_1 :), (cb HB hw195_2 :), (cb HB hw195_3 :), (cb HB hw195_4 :), (cb HB hw195_5 :), (cb HB hw195_6 :), (cb HB hw195_7 :)⟩ (fun hHeld => ?_); refine XH Xt.Ob Xt.NS (fun HT_ HW_ => ?_); generalize wc.drew = w27 at HB VI VJ VK VL VM VN VO VP Gx Gy Gz G5 G6 G7 G8 G9 GA GG GH GI GJ GK GN GQ GR GU GV GX GY GZ Ua Ub hHeld ⊢
             refine pu 0 42 Lp HT_ ?_; refine pu 1 43 Lr HT_ ?_; refine pu 2 44 Ls HT_ ?_; refine pu 3 45 Lt HT_ ?_; refine tk 4 46 Lu HT_ HW_ hHeld ?_; refine pu 5 47 Lv HT_ ?_; refine pu 6 48 Lx HT_ ?_; refine pu 7 49 L6 HT_ ?_; refine pu 8 50 L8 HT_ ?_; refine pu 9 51 L9 HT_ ?_; refine pu 10 52 LA HT_ ?_; refine pu 11 53 LC HT_ ?_; refine pu 17 59 QC HT_ ?_; refine pu 18 60 QD HT_ ?_; refine pu 19 61 QE HT_ ?_; refine pu 20 62 QF HT_ ?_; refine tk 12 54 QG HT_ HW_ hHeld ?_; refine pu 13 55 QH HT_ ?_; refine pu 14 56 QI HT_ ?_; refine pu 15 57 QJ HT_ ?_; refine tk 16 58 LD HT_ HW_ hHeld ?_; refine tk 21 63 LF HT_ HW_ hHeld ?_; refine pu 22 64 LG HT_ ?_; refine pu 23 65 LH HT_ ?_; refine YX (YA HT_.out zb6) ?_
             try go_wp2
             go_roundg kj2
             case measure => have := HK1.out; have := HJ2.out; omega
             case rel => exact ⟨(wrap64 (Xl + 1)), zb5, H', ⟨by have := HK1.out; have := HJ2.out; omega⟩, ⟨zb0⟩⟩
            ·rw [if_neg c26] at H
             have Xv2 : (((Xa l0 (Uq)).f1) == ((Xa l0 Xl).f1)) = false := beq_eq_false_iff_ne.mpr c26; have Xv3 : (((Xa l0 (Uq)).f1) != ((Xa l0 Xl).f1)) = true := bne_iff_ne.mpr c26; obtain rfl := Option.some.inj H
             try go_wp2
             replace HB := az (wd HB.out); have Bb : 0 ≤ (Xl : Int) := of_decide_eq_true zb3; have Bc : Xl < (l0.length : Int) := of_decide_eq_true zb3; obtain ⟨FI, Xmc, VI, VJ, VK, VL, VM, VN, VO, VP⟩ := Ym HR0.out Xl Bb Bc; have hw192_7 := VP; have hw192_6 := VO; have hw192_5 := VN; have hw192_4 := VM; have hw192_3 := VL; have hw192_2 := VK; have hw192_1 := VJ; have hw192_0 := VI
             cases Xmc
             replace VI := cb HB VI; replace VJ := cb HB VJ; replace VK := cb HB VK; replace VL := cb HB VL; replace VM := cb HB VM; replace VN := cb HB VN; replace VO := cb HB VO; replace VP := cb HB VP; replace Bb := eq_true Bb; replace Bc := eq_true Bc; have XeD : 0 ≤ (Xl : Int) := of_decide_eq_true zb3; have XeE : Xl < (l0.length : Int) := of_decide_eq_true zb3; obtain ⟨Xmd, Xtp, Gx, Gy, Gz, G5, G6, G7, G8, G9⟩ := Ym HR0.out Xl XeD XeE; have hw193_7 := G9; have hw193_6 := G8; have hw193_5 := G7; have hw193_4 := G6; have hw193_3 := G5; have hw193_2 := Gz; have hw193_1 := Gy; have hw193_0 := Gx
             obtain rfl : FI = Xmd := (by injection Xtp)
             replace Gx := cb HB Gx; replace Gy := cb HB Gy; replace Gz := cb HB Gz; replace G5 := cb HB G5; replace G6 := cb HB G6; replace G7 := cb HB G7; replace G8 := cb HB G8; replace G9 := cb HB G9; replace XeD := eq_true XeD; replace XeE := eq_true XeE; have XeF : 0 ≤ ((Uq) : Int) := of_decide_eq_true zb3; have XeG : (Uq) < (l0.length : Int) := of_decide_eq_true zb3; obtain ⟨Xme, Xtq, GA, GG, GH, GI, GJ, GK, GN, GQ⟩ := Ym HR0.out (Uq) XeF XeG; have hw194_7 := GQ; have hw194_6 := GN; have hw194_5 := GK; have hw194_4 := GJ; have hw194_3 := GI; have hw194_2 := GH; have hw194_1 := GG; have hw194_0 := GA
             obtain rfl : FI = Xme := (by injection Xtq)
             replace GA := cb HB GA; replace GG := cb HB GG; replace GH := cb HB GH; replace GI := cb HB GI; replace GJ := cb HB GJ; replace GK := cb HB GK; replace GN := cb HB GN; replace GQ := cb HB GQ; replace XeF := eq_true XeF; replace XeG := eq_true XeG; have XeH : 0 ≤ (Xl : Int) := of_decide_eq_true zb3; have XeI : Xl < (l0.length : Int) := of_decide_eq_true zb3; obtain ⟨Xmf, Xtr, GR, GU, GV, GX, GY, GZ, Ua, Ub⟩ := Ym HR0.out Xl XeH XeI; have hw195_7 := Ub; have hw195_6 := Ua; have hw195_5 := GZ; have hw195_4 := GY; have hw195_3 := GX; have hw195_2 := GV; have hw195_1 := GU; have hw195_0 := GR
             obtain rfl : FI = Xmf := (by injection Xtr)
             replace GR := cb HB GR; replace GU := cb HB GU; replace GV := cb HB GV; replace GX := cb HB GX; replace GY := cb HB GY; replace GZ := cb HB GZ; replace Ua := cb HB Ua; replace Ub := cb HB Ub; replace XeH := eq_true XeH; replace XeI := eq_true XeI; refine Yw (n := 24) (S := fun w' => r8 w' (FI.add ((Xl).toNat * 8)) (Xa l0 Xl) (r8 w' (FI.add ((Xl).toNat * 8)) (Xa l0 Xl) (r8 w' (FI.add (((Uq)).toNat * 8)) (Xa l0 (Uq)) (r8t w' (FI.add ((Xl).toNat * 8)) (Xa l0 Xl))))) (ds := []) Lm zb6 rfl rfl ⟨(cb HB hw192_0 :), (cb HB hw192_1 :), (cb HB hw192_2 :), (cb HB hw192_3 :), (cb HB hw192_4 :), (cb HB hw192_5 :), (cb HB hw192_6 :), (cb HB hw192_7 :), (cb HB hw193_0 :), (cb HB hw193_1 :), (cb HB hw193_2 :), (cb HB hw193_3 :), (cb HB hw193_4 :), (cb HB hw193_5 :), (cb HB hw193_6 :), (cb HB hw193_7 :), (cb HB hw194_0 :), (cb HB hw194_1 :), (cb HB hw194_2 :), (cb HB hw194_3 :), (cb HB hw194_4 :), (cb HB hw194_5 :), (cb HB hw194_6 :), (cb HB hw194_7 :), (cb HB hw195_0 :), (cb HB hw195_1 :), (cb HB hw195_2 :), (cb HB hw195_3 :), (cb HB hw195_4 :), (cb HB hw195_5 :), (cb HB hw195_6 :), (cb HB hw195_7 :)⟩ (fun hHeld => ?_); refine XH Xt.Ob Xt.NS (fun HT_ HW_ => ?_); generalize wc.drew = w28 at HB VI VJ VK VL VM VN VO VP Gx Gy Gz G5 G6 G7 G8 G9 GA GG GH GI GJ GK GN GQ GR GU GV GX GY GZ Ua Ub hHeld ⊢
             refine pu 0 42 Lp HT_ ?_; refine pu 1 43 Lr HT_ ?_; refine pu 2 44 Ls HT_ ?_; refine pu 3 45 Lt HT_ ?_; refine tk 4 46 Lu HT_ HW_ hHeld ?_; refine pu 5 47 Lv HT_ ?_; refine pu 6 48 Lx HT_ ?_; refine pu 7 49 L6 HT_ ?_; refine pu 8 50 L8 HT_ ?_; refine pu 9 51 L9 HT_ ?_; refine pu 10 52 LA HT_ ?_; refine pu 11 53 LC HT_ ?_; refine pu 17 59 QC HT_ ?_; refine pu 18 60 QD HT_ ?_; refine pu 19 61 QE HT_ ?_; refine pu 20 62 QF HT_ ?_; refine tk 12 54 QG HT_ HW_ hHeld ?_; refine pu 13 55 QH HT_ ?_; refine pu 14 56 QI HT_ ?_; refine pu 15 57 QJ HT_ ?_; refine tk 16 58 LD HT_ HW_ hHeld ?_; refine tk 21 63 LF HT_ HW_ hHeld ?_; refine pu 22 64 LG HT_ ?_; refine pu 23 65 LH HT_ ?_; refine YX (YA HT_.out zb6) ?_
             try go_wp2
             go_ret
             exact ⟨by first | rfl | (simp [Dt, Du] <;> rfl) | (simp only [← XhA]; first | rfl | (simp [Dt, Du] <;> rfl)) | (simp [*, Dt, Du] <;> rfl), zb0⟩
           ·rw [if_neg c25] at H
            exact absurd H (by simp)
          ·rw [if_neg c24] at H
           exact absurd H (by simp)
         ·rw [if_neg c22] at H
          have Xv1 : decide (0 < ((Xa l0 Xl).f7)) = false := decide_eq_false c22; clear c22; have H' := az H; clear H
          try go_wp2
          replace HB := az (wd HB.out); have Bb : 0 ≤ (Xl : Int) := of_decide_eq_true zb3; have Bc : Xl < (l0.length : Int) := of_decide_eq_true zb3; obtain ⟨FI, Xmc, VI, VJ, VK, VL, VM, VN, VO, VP⟩ := Ym HR0.out Xl Bb Bc; have hw192_7 := VP; have hw192_6 := VO; have hw192_5 := VN; have hw192_4 := VM; have hw192_3 := VL; have hw192_2 := VK; have hw192_1 := VJ; have hw192_0 := VI
          cases Xmc
          replace VI := cb HB VI; replace VJ := cb HB VJ; replace VK := cb HB VK; replace VL := cb HB VL; replace VM := cb HB VM; replace VN := cb HB VN; replace VO := cb HB VO; replace VP := cb HB VP; replace Bb := eq_true Bb; replace Bc := eq_true Bc; refine Yw (n := 24) (S := fun w' => r8t w' (FI.add ((Xl).toNat * 8)) (Xa l0 Xl)) (ds := []) Lm zb6 rfl rfl ⟨(cb HB hw192_0 :), (cb HB hw192_1 :), (cb HB hw192_2 :), (cb HB hw192_3 :), (cb HB hw192_4 :), (cb HB hw192_5 :), (cb HB hw192_6 :), (cb HB hw192_7 :)⟩ (fun hHeld => ?_); refine XH Xt.Ob Xt.NS (fun HT_ HW_ => ?_); generalize wc.drew = w29 at HB VI VJ VK VL VM VN VO VP hHeld ⊢; refine pu 0 42 Lp HT_ ?_; refine pu 1 43 Lr HT_ ?_; refine pu 2 44 Ls HT_ ?_; refine pu 3 45 Lt HT_ ?_; refine tk 4 46 Lu HT_ HW_ hHeld ?_; refine pu 5 47 Lv HT_ ?_; refine pu 6 48 Lx HT_ ?_; refine pn 7 49 L6 HT_ ?_; refine pn 8 50 L8 HT_ ?_; refine pn 9 51 L9 HT_ ?_; refine pn 10 52 LA HT_ ?_; refine pn 11 53 LC HT_ ?_; refine pn 12 54 Xlh HT_ ?_; refine pn 13 55 Xli HT_ ?_; refine pn 14 56 Xlj HT_ ?_; refine pn 15 57 Xlk HT_ ?_; refine pn 16 58 Xll HT_ ?_; refine pn 17 59 Xlm HT_ ?_; refine pn 18 60 Xln HT_ ?_; refine pn 19 61 Xlo HT_ ?_; refine pn 20 62 LD HT_ ?_; refine pn 21 63 LF HT_ ?_; refine pn 22 64 LG HT_ ?_; refine pu 23 65 LH HT_ ?_
          refine YX (YA HT_.out zb6) ?_
          try go_wp2
          go_roundg kj2
          case measure => have := HK1.out; have := HJ2.out; omega
          case rel => exact ⟨(wrap64 (Xl + 1)), zb5, H', ⟨by have := HK1.out; have := HJ2.out; omega⟩, ⟨zb0⟩⟩
        ·rw [if_neg c21] at H
         exact absurd H (by simp)
       ·rw [if_neg c20] at H
        exact absurd H (by simp)
   ·rw [if_neg c2] at H
    have c2b0 : decide (Xl < (l0.length : Int)) = false := decide_eq_false c2; clear c2; obtain rfl := Option.some.inj H
    go_wp2
    go_ret
    exact ⟨zb4, zb0⟩
end Go.Proofs.YtphnphmbfogmlaaGreat.Pr
