import Derived.Test.YtphnphmbfogmlaaGreatQEByq
import Derived.Test.YtphnphmbfogmlaaGreatQEPrK
import Derived.Test.YtphnphmbfogmlaaGreatQESx
import Derived.Test.YtphnphmbfogmlaaGreatQEPrGood
import Derived.Test.YtphnphmbfogmlaaGreatQEPrWith
import Derived.Test.YtphnphmbfogmlaaGreatQEPrLogA
namespace Go.Proofs.YtphnphmbfogmlaaGreat.Pr
open Go.RowKit Go.PW Go.PL Go.PM
attribute [local go_sem] YO YP Zm Zn Yv Yw YQ YS
set_option linter.unusedVariables false
set_option linter.unusedSimpArgs false
abbrev Xaf : Array Bool := #[nn,nn,nn,nn,nn,nn,nn,nn,nn,nn,nn,nn,nn,nn,nn,nn,nn,nn,nn,nn,nn,nn,nn,nn,nn,nn,nn,nn,nn,nn,nn,nn]
abbrev Xag : Array Bool := #[yy,nn,nn,nn,nn,nn,nn,nn,nn,nn,nn,nn,nn,nn,nn,nn,nn,nn,nn,nn,nn,nn,nn,nn,nn,nn,nn,nn,nn,nn,nn,nn]
abbrev Xah : Array Bool := #[yy,yy,nn,nn,nn,nn,nn,nn,nn,nn,nn,nn,nn,nn,nn,nn,nn,nn,nn,nn,nn,nn,nn,nn,nn,nn,nn,nn,nn,nn,nn,nn]
abbrev Xai : Array Bool := #[yy,yy,yy,nn,nn,nn,nn,nn,nn,nn,nn,nn,nn,nn,nn,nn,nn,nn,nn,nn,nn,nn,nn,nn,nn,nn,nn,nn,nn,nn,nn,nn]
abbrev Xaj : Array Bool := #[yy,yy,yy,yy,nn,nn,nn,nn,nn,nn,nn,nn,nn,nn,nn,nn,nn,nn,nn,nn,nn,nn,nn,nn,nn,nn,nn,nn,nn,nn,nn,nn]
abbrev Xak : Array Bool := #[yy,yy,yy,yy,yy,nn,nn,nn,nn,nn,nn,nn,nn,nn,nn,nn,nn,nn,nn,nn,nn,nn,nn,nn,nn,nn,nn,nn,nn,nn,nn,nn]
abbrev Xal : Array Bool := #[yy,yy,yy,yy,yy,yy,nn,nn,nn,nn,nn,nn,nn,nn,nn,nn,nn,nn,nn,nn,nn,nn,nn,nn,nn,nn,nn,nn,nn,nn,nn,nn]
abbrev Xam : Array Bool := #[yy,yy,yy,yy,yy,yy,yy,nn,nn,nn,nn,nn,nn,nn,nn,nn,nn,nn,nn,nn,nn,nn,nn,nn,nn,nn,nn,nn,nn,nn,nn,nn]
abbrev Xan : Array Bool := #[yy,yy,yy,yy,yy,yy,yy,yy,nn,nn,nn,nn,nn,nn,nn,nn,nn,nn,nn,nn,nn,nn,nn,nn,nn,nn,nn,nn,nn,nn,nn,nn]
abbrev Xao : Array Bool := #[yy,yy,yy,yy,yy,yy,yy,yy,yy,nn,nn,nn,nn,nn,nn,nn,nn,nn,nn,nn,nn,nn,nn,nn,nn,nn,nn,nn,nn,nn,nn,nn]
abbrev Bh : Array Bool := #[yy,yy,yy,yy,yy,yy,yy,yy,yy,yy,nn,nn,nn,nn,nn,nn,nn,nn,nn,nn,nn,nn,nn,nn,nn,nn,nn,nn,nn,nn,nn,nn]
abbrev Bi : Array Bool := #[yy,yy,yy,yy,yy,yy,yy,yy,yy,yy,yy,nn,nn,nn,nn,nn,nn,nn,nn,nn,nn,nn,nn,nn,nn,nn,nn,nn,nn,nn,nn,nn]
abbrev Xcj : Array Bool := #[yy,yy,yy,yy,yy,yy,yy,yy,yy,yy,yy,nn,yy,nn,nn,nn,nn,nn,nn,nn,nn,nn,nn,nn,nn,nn,nn,nn,nn,nn,nn,nn]
abbrev Xpe : Array Bool := #[yy,yy,yy,yy,yy,yy,yy,yy,yy,yy,yy,yy,nn,nn,nn,nn,nn,nn,nn,nn,nn,nn,nn,nn,nn,nn,nn,nn,nn,nn,nn,nn]
abbrev Xck : Array Bool := #[yy,yy,yy,yy,yy,yy,yy,yy,yy,yy,yy,nn,yy,yy,nn,nn,nn,nn,nn,nn,nn,nn,nn,nn,nn,nn,nn,nn,nn,nn,nn,nn]
abbrev Xpf : Array Bool := #[yy,yy,yy,yy,yy,yy,yy,yy,yy,yy,yy,yy,yy,nn,nn,nn,nn,nn,nn,nn,nn,nn,nn,nn,nn,nn,nn,nn,nn,nn,nn,nn]
abbrev Xcl : Array Bool := #[yy,yy,yy,yy,yy,yy,yy,yy,yy,yy,yy,nn,yy,yy,yy,nn,nn,nn,nn,nn,nn,nn,nn,nn,nn,nn,nn,nn,nn,nn,nn,nn]
abbrev Xpg : Array Bool := #[yy,yy,yy,yy,yy,yy,yy,yy,yy,yy,yy,yy,yy,yy,nn,nn,nn,nn,nn,nn,nn,nn,nn,nn,nn,nn,nn,nn,nn,nn,nn,nn]
abbrev Xcm : Array Bool := #[yy,yy,yy,yy,yy,yy,yy,yy,yy,yy,yy,nn,yy,yy,yy,yy,nn,nn,nn,nn,nn,nn,nn,nn,nn,nn,nn,nn,nn,nn,nn,nn]
abbrev Xph : Array Bool := #[yy,yy,yy,yy,yy,yy,yy,yy,yy,yy,yy,yy,yy,yy,yy,nn,nn,nn,nn,nn,nn,nn,nn,nn,nn,nn,nn,nn,nn,nn,nn,nn]
abbrev Xcn : Array Bool := #[yy,yy,yy,yy,yy,yy,yy,yy,yy,yy,yy,nn,yy,yy,yy,yy,yy,nn,nn,nn,nn,nn,nn,nn,nn,nn,nn,nn,nn,nn,nn,nn]
abbrev Xpi : Array Bool := #[yy,yy,yy,yy,yy,yy,yy,yy,yy,yy,yy,yy,yy,yy,yy,yy,nn,nn,nn,nn,nn,nn,nn,nn,nn,nn,nn,nn,nn,nn,nn,nn]
abbrev Xco : Array Bool := #[yy,yy,yy,yy,yy,yy,yy,yy,yy,yy,yy,nn,yy,yy,yy,yy,yy,yy,nn,nn,nn,nn,nn,nn,nn,nn,nn,nn,nn,nn,nn,nn]
abbrev Xpj : Array Bool := #[yy,yy,yy,yy,yy,yy,yy,yy,yy,yy,yy,yy,yy,yy,yy,yy,yy,nn,nn,nn,nn,nn,nn,nn,nn,nn,nn,nn,nn,nn,nn,nn]
abbrev Xcp : Array Bool := #[yy,yy,yy,yy,yy,yy,yy,yy,yy,yy,yy,nn,yy,yy,yy,yy,yy,yy,yy,nn,nn,nn,nn,nn,nn,nn,nn,nn,nn,nn,nn,nn]
abbrev Xpk : Array Bool := #[yy,yy,yy,yy,yy,yy,yy,yy,yy,yy,yy,yy,yy,yy,yy,yy,yy,yy,nn,nn,nn,nn,nn,nn,nn,nn,nn,nn,nn,nn,nn,nn]
abbrev Bj : Array Bool := #[yy,yy,yy,yy,yy,yy,yy,yy,yy,yy,yy,yy,yy,yy,yy,yy,yy,yy,yy,nn,nn,nn,nn,nn,nn,nn,nn,nn,nn,nn,nn,nn]
abbrev Bl : Array Bool := #[yy,yy,yy,yy,yy,yy,yy,yy,yy,yy,yy,yy,yy,yy,yy,yy,yy,yy,yy,yy,nn,nn,nn,nn,nn,nn,nn,nn,nn,nn,nn,nn]
abbrev Bn : Array Bool := #[yy,yy,yy,yy,yy,yy,yy,yy,yy,yy,yy,yy,yy,yy,yy,yy,yy,yy,yy,yy,yy,nn,nn,nn,nn,nn,nn,nn,nn,nn,nn,nn]
abbrev Bo : Array Bool := #[yy,yy,yy,yy,yy,yy,yy,yy,yy,yy,yy,yy,yy,yy,yy,yy,yy,yy,yy,yy,yy,yy,nn,nn,nn,nn,nn,nn,nn,nn,nn,nn]
abbrev Bq : Array Bool := #[yy,yy,yy,yy,yy,yy,yy,yy,yy,yy,yy,yy,yy,yy,yy,yy,yy,yy,yy,yy,yy,yy,yy,nn,nn,nn,nn,nn,nn,nn,nn,nn]
abbrev Br : Array Bool := #[yy,yy,yy,yy,yy,yy,yy,yy,yy,yy,yy,yy,yy,yy,yy,yy,yy,yy,yy,yy,yy,yy,yy,yy,nn,nn,nn,nn,nn,nn,nn,nn]
abbrev Bt : Array Bool := #[yy,yy,yy,yy,yy,yy,yy,yy,yy,yy,yy,yy,yy,yy,yy,yy,yy,yy,yy,yy,yy,yy,yy,yy,yy,nn,nn,nn,nn,nn,nn,nn]
abbrev Bu : Array Bool := #[yy,yy,yy,yy,yy,yy,yy,yy,yy,yy,yy,yy,yy,yy,yy,yy,yy,yy,yy,yy,yy,yy,yy,yy,yy,yy,nn,nn,nn,nn,nn,nn]
abbrev Bv : Array Bool := #[yy,yy,yy,yy,yy,yy,yy,yy,yy,yy,yy,yy,yy,yy,yy,yy,yy,yy,yy,yy,yy,yy,yy,yy,yy,yy,yy,nn,nn,nn,nn,nn]
abbrev Bw : Array Bool := #[yy,yy,yy,yy,yy,yy,yy,yy,yy,yy,yy,yy,yy,yy,yy,yy,yy,yy,yy,yy,yy,yy,yy,yy,yy,yy,yy,yy,nn,nn,nn,nn]
abbrev Xpl : Array Bool := #[yy,yy,yy,yy,yy,yy,yy,yy,yy,yy,yy,yy,yy,yy,yy,yy,yy,yy,yy,yy,yy,yy,yy,yy,yy,yy,yy,yy,nn,yy,nn,nn]
abbrev Xcq : Array Bool := #[yy,yy,yy,yy,yy,yy,yy,yy,yy,yy,yy,yy,yy,yy,yy,yy,yy,yy,yy,yy,yy,yy,yy,yy,yy,yy,yy,yy,yy,nn,nn,nn]
abbrev Bz : Array Bool := #[yy,yy,yy,yy,yy,yy,yy,yy,yy,yy,yy,yy,yy,yy,yy,yy,yy,yy,yy,yy,yy,yy,yy,yy,yy,yy,yy,yy,yy,yy,nn,nn]
abbrev BB : Array Bool := #[yy,yy,yy,yy,yy,yy,yy,yy,yy,yy,yy,yy,yy,yy,yy,yy,yy,yy,yy,yy,yy,yy,yy,yy,yy,yy,yy,yy,yy,yy,yy,nn]
abbrev BC : Array Bool := #[yy,yy,yy,yy,yy,yy,yy,yy,yy,yy,yy,yy,yy,yy,yy,yy,yy,yy,yy,yy,yy,yy,yy,yy,yy,yy,yy,yy,yy,yy,yy,yy]
abbrev BF : Array Bool := #[nn,nn,nn,nn,nn,nn,nn,nn,nn,nn,nn,nn,nn,nn,nn,nn,nn,nn,nn,nn,nn,nn,nn,nn]
abbrev BG : Array Bool := #[yy,nn,nn,nn,nn,nn,nn,nn,nn,nn,nn,nn,nn,nn,nn,nn,nn,nn,nn,nn,nn,nn,nn,nn]
abbrev BH : Array Bool := #[yy,yy,nn,nn,nn,nn,nn,nn,nn,nn,nn,nn,nn,nn,nn,nn,nn,nn,nn,nn,nn,nn,nn,nn]
abbrev BI : Array Bool := #[yy,yy,yy,nn,nn,nn,nn,nn,nn,nn,nn,nn,nn,nn,nn,nn,nn,nn,nn,nn,nn,nn,nn,nn]
abbrev BJ : Array Bool := #[yy,yy,yy,yy,nn,nn,nn,nn,nn,nn,nn,nn,nn,nn,nn,nn,nn,nn,nn,nn,nn,nn,nn,nn]
abbrev BK : Array Bool := #[yy,yy,yy,yy,yy,nn,nn,nn,nn,nn,nn,nn,nn,nn,nn,nn,nn,nn,nn,nn,nn,nn,nn,nn]
abbrev BL : Array Bool := #[yy,yy,yy,yy,yy,yy,nn,nn,nn,nn,nn,nn,nn,nn,nn,nn,nn,nn,nn,nn,nn,nn,nn,nn]
abbrev BN : Array Bool := #[yy,yy,yy,yy,yy,yy,yy,nn,nn,nn,nn,nn,nn,nn,nn,nn,nn,nn,nn,nn,nn,nn,nn,nn]
abbrev BO : Array Bool := #[yy,yy,yy,yy,yy,yy,yy,yy,nn,nn,nn,nn,nn,nn,nn,nn,nn,nn,nn,nn,nn,nn,nn,nn]
abbrev BQ : Array Bool := #[yy,yy,yy,yy,yy,yy,yy,yy,yy,nn,nn,nn,nn,nn,nn,nn,nn,nn,nn,nn,nn,nn,nn,nn]
abbrev BS : Array Bool := #[yy,yy,yy,yy,yy,yy,yy,yy,yy,yy,nn,nn,nn,nn,nn,nn,nn,nn,nn,nn,nn,nn,nn,nn]
abbrev BU : Array Bool := #[yy,yy,yy,yy,yy,yy,yy,yy,yy,yy,yy,nn,nn,nn,nn,nn,nn,nn,nn,nn,nn,nn,nn,nn]
abbrev BV : Array Bool := #[yy,yy,yy,yy,yy,yy,yy,yy,yy,yy,yy,yy,nn,nn,nn,nn,nn,nn,nn,nn,nn,nn,nn,nn]
abbrev Xcr : Array Bool := #[yy,yy,yy,yy,yy,yy,yy,yy,yy,yy,yy,yy,nn,nn,nn,nn,nn,yy,nn,nn,nn,nn,nn,nn]
abbrev Xpm : Array Bool := #[yy,yy,yy,yy,yy,yy,yy,yy,yy,yy,yy,yy,yy,nn,nn,nn,nn,nn,nn,nn,nn,nn,nn,nn]
abbrev Xcs : Array Bool := #[yy,yy,yy,yy,yy,yy,yy,yy,yy,yy,yy,yy,nn,nn,nn,nn,nn,yy,yy,nn,nn,nn,nn,nn]
abbrev Xpn : Array Bool := #[yy,yy,yy,yy,yy,yy,yy,yy,yy,yy,yy,yy,yy,yy,nn,nn,nn,nn,nn,nn,nn,nn,nn,nn]
abbrev Xct : Array Bool := #[yy,yy,yy,yy,yy,yy,yy,yy,yy,yy,yy,yy,nn,nn,nn,nn,nn,yy,yy,yy,nn,nn,nn,nn]
abbrev Xpo : Array Bool := #[yy,yy,yy,yy,yy,yy,yy,yy,yy,yy,yy,yy,yy,yy,yy,nn,nn,nn,nn,nn,nn,nn,nn,nn]
abbrev Xcu : Array Bool := #[yy,yy,yy,yy,yy,yy,yy,yy,yy,yy,yy,yy,nn,nn,nn,nn,nn,yy,yy,yy,yy,nn,nn,nn]
abbrev Xpp : Array Bool := #[yy,yy,yy,yy,yy,yy,yy,yy,yy,yy,yy,yy,yy,yy,yy,yy,nn,nn,nn,nn,nn,nn,nn,nn]
abbrev Xcv : Array Bool := #[yy,yy,yy,yy,yy,yy,yy,yy,yy,yy,yy,yy,yy,nn,nn,nn,nn,yy,yy,yy,yy,nn,nn,nn]
abbrev Xpq : Array Bool := #[yy,yy,yy,yy,yy,yy,yy,yy,yy,yy,yy,yy,yy,yy,yy,yy,yy,nn,nn,nn,nn,nn,nn,nn]
abbrev Xcw : Array Bool := #[yy,yy,yy,yy,yy,yy,yy,yy,yy,yy,yy,yy,yy,yy,nn,nn,nn,yy,yy,yy,yy,nn,nn,nn]
abbrev Xpr : Array Bool := #[yy,yy,yy,yy,yy,yy,yy,yy,yy,yy,yy,yy,yy,yy,yy,yy,yy,yy,nn,nn,nn,nn,nn,nn]
abbrev Xcx : Array Bool := #[yy,yy,yy,yy,yy,yy,yy,yy,yy,yy,yy,yy,yy,yy,yy,nn,nn,yy,yy,yy,yy,nn,nn,nn]
abbrev Xps : Array Bool := #[yy,yy,yy,yy,yy,yy,yy,yy,yy,yy,yy,yy,yy,yy,yy,yy,yy,yy,yy,nn,nn,nn,nn,nn]
abbrev Xcy : Array Bool := #[yy,yy,yy,yy,yy,yy,yy,yy,yy,yy,yy,yy,yy,yy,yy,yy,nn,yy,yy,yy,yy,nn,nn,nn]
abbrev Xpt : Array Bool := #[yy,yy,yy,yy,yy,yy,yy,yy,yy,yy,yy,yy,yy,yy,yy,yy,yy,yy,yy,yy,nn,nn,nn,nn]
abbrev BX : Array Bool := #[yy,yy,yy,yy,yy,yy,yy,yy,yy,yy,yy,yy,yy,yy,yy,yy,yy,yy,yy,yy,yy,nn,nn,nn]
abbrev BZ : Array Bool := #[yy,yy,yy,yy,yy,yy,yy,yy,yy,yy,yy,yy,yy,yy,yy,yy,yy,yy,yy,yy,yy,yy,nn,nn]
abbrev Ea : Array Bool := #[yy,yy,yy,yy,yy,yy,yy,yy,yy,yy,yy,yy,yy,yy,yy,yy,yy,yy,yy,yy,yy,yy,yy,nn]
abbrev Eb : Array Bool := #[yy,yy,yy,yy,yy,yy,yy,yy,yy,yy,yy,yy,yy,yy,yy,yy,yy,yy,yy,yy,yy,yy,yy,yy]
mutual
def Xy.l0 : Nat → List (S76) → Int → Option (Bool)
 | 0, _, _ => none
 | k + 1, x0, x3 => if x3 < (x0.length : Int) then (if 0 ≤ x3 then ((Zk.f k ((Xa x0 x3).f0) ((Xa x0 x3).f1) ((Xa x0 x3).f2) ((Xa x0 x3).f3) ((Xa x0 x3).f4) ((Xa x0 x3).f5) ((Xa x0 x3).f6) ((Xa x0 x3).f7)).bind fun t183 => (if t183 = true then (if x3 ≤ (x0.length : Int) then ((Y2.f k (x0.take (x3 : Int).toNat) ((Xa x0 x3).f1)).bind fun KT => (if ((Xa x0 x3).f6) = KT then (Xy.j1 k x0 x3 (decide (((Xa x0 x3).f7) > x3))) else (Xy.j1 k x0 x3 true))) else (none)) else (Xy.j1 k x0 x3 true))) else (none)) else (some (decide ((x0.length : Int) ≤ 150)))
def Xy.j1 : Nat → List (S76) → Int → Bool → Option (Bool)
 | 0, _, _, _ => none
 | k + 1, x0, x3, x41 => if x41 = true then (some false) else (if 0 ≤ x3 then (if x3 < (x0.length : Int) then (if ((Xa x0 x3).f7) > 0 then (if 0 ≤ (wrap64 (((Xa x0 x3).f7) - 1)) then (if (wrap64 (((Xa x0 x3).f7) - 1)) < (x0.length : Int) then (if ((Xa x0 (wrap64 (((Xa x0 x3).f7) - 1))).f1) = ((Xa x0 x3).f1) then (Xy.l0 k x0 (wrap64 (x3 + 1))) else (some false)) else (none)) else (none)) else (Xy.l0 k x0 (wrap64 (x3 + 1)))) else (none)) else (none))
end
def Xy.f (k : Nat) (l0 : List (S76)) : Option (Bool) := Xy.l0 k l0 0
def Xy.T4 : Bool × List (List Nat × List Nat) := (true, [([], []), ([], []), ([0, 1], [0, 1]), ([2], [2]), ([3], [3]), ([4], [4]), ([5, 4], [5]), ([6], [6]), ([6], [6]), ([7, 8, 6], [6, 7, 8]), ([9, 6], [6, 9]), ([10, 6], [6, 10]), ([6], [6]), ([6], [6]), ([12, 13, 6], [6, 12, 13]), ([6], [6]), ([6], [6]), ([15, 16, 6], [6, 15, 16]), ([17, 6], [6, 17]), ([18, 6], [6, 18]), ([14, 19, 6, 6], [6, 14, 19]), ([11, 20, 6], [6, 11, 20]), ([6, 21], [6, 21]), ([22, 20], [22]), ([23], [23]), ([23], [23]), ([24, 25, 23], [23, 24, 25]), ([26, 23], [23, 26]), ([27, 23], [23, 27]), ([23], [23]), ([28, 29, 23], [23, 28, 29]), ([23, 30], [23, 30])])
def Xy.B4 : List Nat := [0, 0, 3, 7, 15, 31, 63, 127, 127, 511, 1023, 2047, 127, 127, 12415, 127, 127, 98431, 229503, 491647, 1044607, 2097151, 4194303, 8388607, 16777215, 16777215, 67108863, 134217727, 268435455, 16777215, 1073741823, 2147483647]
theorem Xy.EG : Ve .any (opsOf Tryz.f43 4) = Xy.T4 := by kernel_rfl
theorem Xy.Wv : Ja Xy.T4.2 Xy.B4 = true := by kernel_rfl
def Xy.T6 : Bool × List (List Nat × List Nat) := (true, [([], []), ([], []), ([0, 1], [0, 1]), ([2], [2]), ([3], [3]), ([4], [4]), ([5], [5]), ([6], [6]), ([6], [6]), ([6], [6]), ([8, 9, 6], [6, 8, 9]), ([10, 6], [6, 10]), ([11, 6], [6, 11]), ([12, 6], [6, 12]), ([7, 13, 6], [6, 7, 13]), ([14, 6], [6, 14]), ([15, 6], [6, 15]), ([6], [6]), ([6], [6]), ([17, 18, 6], [6, 17, 18]), ([19, 6], [6, 19]), ([20, 6], [6, 20]), ([16, 21, 6], [6, 16, 21]), ([6, 22], [6, 22])])
def Xy.B6 : List Nat := [0, 0, 3, 7, 15, 31, 63, 127, 127, 127, 895, 1919, 3967, 8063, 16383, 32767, 65535, 127, 127, 393343, 917631, 1966207, 4194303, 8388607]
theorem Xy.Xae : Ve .any (opsOf Tryz.f43 6) = Xy.T6 := by kernel_rfl
theorem Xy.Ka : Ja Xy.T6.2 Xy.B6 = true := by kernel_rfl
set_option maxHeartbeats 8000000 in
set_option maxRecDepth 100000 in
theorem Xy.calls (k : Nat) (A0 : Option Addr) (c0 : Nat) (l0 : List (S76)) (r : Bool) (w : World) (hr0 : Kd.C k76 w A0 l0.length l0) (hc0 : l0.length ≤ c0) (h : Xy.f k l0 = some r) :
 Calls Tryz.prog 43 #[.slice A0 l0.length c0] w fun e w' => e = .returned (.bool r) ∧ Below w.heap.size w w' := by
 have hu76 := Tryz.underlying76; have HR0 := az hr0; have HC0 := az hc0; clear hr0 hc0; have HB := az (Below.refl w.heap.size w); have H : (Xy.l0 k l0 0) = some r := h; clear h; have H' := az H; clear H
 go_enter Tryz.func43, Tryz.ntmps43
 go_wp2
 go_loopg [3] k (fun kq v3 w' => ∃ (Xt : Int), v3 = .int .i64 Xt ∧ Aside0 (Xy.l0 kq l0 Xt = some r) ∧ Aside0 (kq ≤ k) ∧ Aside0 (Below w.heap.size w w'))
 case atStart => exact ⟨(0), zb6, H', ⟨Nat.le_refl _⟩, ⟨zb1⟩⟩
 case round =>
  clear H'; obtain ⟨Xt, rfl, HA, HK1, HB⟩ := hrel
  cases gk with
  | zero => exact absurd HA.out (by simp [Xy.l0])
  | succ k1 =>
   have H := HA.out; clear HA; simp only [Xy.l0] at H
   by_cases c2 : Xt < (l0.length : Int)
   ·rw [if_pos c2] at H
    have c2b0 : decide (Xt < (l0.length : Int)) = true := decide_eq_true c2; clear c2; have HC3 := az H; clear H
    go_upto_region 4 with (fail)
    go_cut [41] (fun v41 wc => ∃ (kq : Nat) (Xl0 : Bool), v41 = .bool Xl0 ∧ Aside0 (Xy.j1 kq l0 Xt Xl0 = some r) ∧ Aside0 (kq ≤ k1) ∧ Aside0 (Below w.heap.size w wc))
    case first =>
     have H := HC3.out; clear HC3
     by_cases c4 : 0 ≤ Xt
     ·rw [if_pos c4] at H
      have c4b0 : decide (0 ≤ Xt) = true := decide_eq_true c4; clear c4
      (first | rw [c4b0] | (simp only [X9, XK]; rw [c4b0]) | skip)
      replace H := Option.bind_eq_some_iff.mp H; obtain ⟨t183, A50, H⟩ := H; replace H : (if t183 = true then (if Xt ≤ (l0.length : Int) then ((Y2.f k1 (l0.take (Xt : Int).toNat) ((Xa l0 Xt).f1)).bind fun KT => (if ((Xa l0 Xt).f6) = KT then (Xy.j1 k1 l0 Xt (decide (((Xa l0 Xt).f7) > Xt))) else (Xy.j1 k1 l0 Xt true))) else (none)) else (Xy.j1 k1 l0 Xt true)) = some r := H; have A5 := az A50; clear A50
      by_cases c6 : t183 = true
      ·subst c6
       have H1 : (if Xt ≤ (l0.length : Int) then ((Y2.f k1 (l0.take (Xt : Int).toNat) ((Xa l0 Xt).f1)).bind fun KT => (if ((Xa l0 Xt).f6) = KT then (Xy.j1 k1 l0 Xt (decide (((Xa l0 Xt).f7) > Xt))) else (Xy.j1 k1 l0 Xt true))) else (none)) = some r := by rw [if_pos rfl] at H; exact H
       clear H; have H := H1; clear H1; have c7b0 := eq_true (of_decide_eq_true zb3 : 0 ≤ Xt)
       by_cases c8 : Xt ≤ (l0.length : Int)
       ·rw [if_pos c8] at H
        have c8b0 := eq_true c8; have c8b1 : decide (Xt ≤ (l0.length : Int)) = true := decide_eq_true c8; clear c8
        obtain ⟨XdY, hy185⟩ : ∃ y_ : List (S76), y_ = (l0.take (Xt : Int).toNat) := ⟨_, rfl⟩
        replace H : ((Y2.f k1 XdY ((Xa l0 Xt).f1)).bind fun KT => (if ((Xa l0 Xt).f6) = KT then (Xy.j1 k1 l0 Xt (decide (((Xa l0 Xt).f7) > Xt))) else (Xy.j1 k1 l0 Xt true))) = some r := by first | (rw [hy185]; with_reducible exact H) | (have H2_ := (Option.bind_some _ _).symm.trans H; rw [hy185]; with_reducible exact H2_) | (have H2_ := (Option.bind_some _ _).symm.trans H; with_reducible exact H2_) | with_reducible exact H | (rw [hy185]; exact H) | exact H
        have Ny185 := az hy185; clear hy185; replace H := Option.bind_eq_some_iff.mp H; obtain ⟨KT, A90, H⟩ := H; replace H : (if ((Xa l0 Xt).f6) = KT then (Xy.j1 k1 l0 Xt (decide (((Xa l0 Xt).f7) > Xt))) else (Xy.j1 k1 l0 Xt true)) = some r := H; have A9 := az A90; clear A90
        by_cases c10 : ((Xa l0 Xt).f6) = KT
        ·rw [if_pos c10] at H
         have Vu : (((Xa l0 Xt).f6) == KT) = true := beq_iff_eq.mpr c10; have Nn : (((Xa l0 Xt).f6) != KT) = false := bne_eq_false_iff_eq.mpr c10; clear c10; have H' := az H; clear H
         try go_wp2
         replace HB := az (wd HB.out); have EC : 0 ≤ (Xt : Int) := of_decide_eq_true zb3; have ED : Xt < (l0.length : Int) := of_decide_eq_true zb3; obtain ⟨Fa, Xqk, VH, VI, VJ, VK, VL, VM, VN, VO⟩ := Yt HR0.out Xt EC ED; have hw182_7 := VO; have hw182_6 := VN; have hw182_5 := VM; have hw182_4 := VL; have hw182_3 := VK; have hw182_2 := VJ; have hw182_1 := VI; have hw182_0 := VH
         cases Xqk
         replace VH := cb HB VH; replace VI := cb HB VI; replace VJ := cb HB VJ; replace VK := cb HB VK; replace VL := cb HB VL; replace VM := cb HB VM; replace VN := cb HB VN; replace VO := cb HB VO; replace EC := eq_true EC; replace ED := eq_true ED; have Xf7 : 0 ≤ (Xt : Int) := of_decide_eq_true zb3; have Xf8 : Xt < (l0.length : Int) := of_decide_eq_true zb3; obtain ⟨Xql, XxY, G9, GA, GG, GH, GI, GJ, GK, GN⟩ := Yt HR0.out Xt Xf7 Xf8; have hw184_7 := GN; have hw184_6 := GK; have hw184_5 := GJ; have hw184_4 := GI; have hw184_3 := GH; have hw184_2 := GG; have hw184_1 := GA; have hw184_0 := G9
         obtain rfl : Fa = Xql := (by injection XxY)
         replace G9 := cb HB G9; replace GA := cb HB GA; replace GG := cb HB GG; replace GH := cb HB GH; replace GI := cb HB GI; replace GJ := cb HB GJ; replace GK := cb HB GK; replace GN := cb HB GN; replace Xf7 := eq_true Xf7; replace Xf8 := eq_true Xf8; have Xf9 : 0 ≤ (Xt : Int) := of_decide_eq_true zb3; have XfA : Xt < (l0.length : Int) := of_decide_eq_true zb3; obtain ⟨Xqm, XxZ, GQ, GR, GU, GV, GX, GY, GZ, Ua⟩ := Yt HR0.out Xt Xf9 XfA; have hw189_7 := Ua; have hw189_6 := GZ; have hw189_5 := GY; have hw189_4 := GX; have hw189_3 := GV; have hw189_2 := GU; have hw189_1 := GR; have hw189_0 := GQ
         obtain rfl : Fa = Xqm := (by injection XxZ)
         replace GQ := cb HB GQ; replace GR := cb HB GR; replace GU := cb HB GU; replace GV := cb HB GV; replace GX := cb HB GX; replace GY := cb HB GY; replace GZ := cb HB GZ; replace Ua := cb HB Ua; replace Xf9 := eq_true Xf9; replace XfA := eq_true XfA; have Xya : 0 ≤ (Xt : Int) := of_decide_eq_true zb3; have Xyb : Xt < (l0.length : Int) := of_decide_eq_true zb3; obtain ⟨X01, e191, Oy, Oz, O0, O1, O3, O4, O5, O6⟩ := Yt HR0.out Xt Xya Xyb; have hw191_7 := O6; have hw191_6 := O5; have hw191_5 := O4; have hw191_4 := O3; have hw191_3 := O1; have hw191_2 := O0; have hw191_1 := Oz; have hw191_0 := Oy
         obtain rfl : Fa = X01 := (by injection e191)
         replace Oy := cb HB Oy; replace Oz := cb HB Oz; replace O0 := cb HB O0; replace O1 := cb HB O1; replace O3 := cb HB O3; replace O4 := cb HB O4; replace O5 := cb HB O5; replace O6 := cb HB O6; replace Xya := eq_true Xya; replace Xyb := eq_true Xyb; refine Y5 (n := 32) (S := fun w' => r8 w' (Fa.add ((Xt).toNat * 8)) (Xa l0 Xt) (r8 w' (Fa.add ((Xt).toNat * 8)) (Xa l0 Xt) (r8 w' (Fa.add ((Xt).toNat * 8)) (Xa l0 Xt) (r8t w' (Fa.add ((Xt).toNat * 8)) (Xa l0 Xt))))) (ds := []) Xaf zb9 rfl rfl ⟨(cb HB hw182_0 :), (cb HB hw182_1 :), (cb HB hw182_2 :), (cb HB hw182_3 :), (cb HB hw182_4 :), (cb HB hw182_5 :), (cb HB hw182_6 :), (cb HB hw182_7 :), (cb HB hw184_0 :), (cb HB hw184_1 :), (cb HB hw184_2 :), (cb HB hw184_3 :), (cb HB hw184_4 :), (cb HB hw184_5 :), (cb HB hw184_6 :), (cb HB hw184_7 :), (cb HB hw189_0 :), (cb HB hw189_1 :), (cb HB hw189_2 :), (cb HB hw189_3 :), (cb HB hw189_4 :), (cb HB hw189_5 :), (cb HB hw189_6 :), (cb HB hw189_7 :), (cb HB hw191_0 :), (cb HB hw191_1 :), (cb HB hw191_2 :), (cb HB hw191_3 :), (cb HB hw191_4 :), (cb HB hw191_5 :), (cb HB hw191_6 :), (cb HB hw191_7 :)⟩ (fun hHeld => ?_); refine XV Xy.EG Xy.Wv (fun HT_ HW_ => ?_); generalize wr.drew = w11 at HB VH VI VJ VK VL VM VN VO G9 GA GG GH GI GJ GK GN GQ GR GU GV GX GY GZ Ua Oy Oz O0 O1 O3 O4 O5 O6 hHeld ⊢
         refine pu 0 10 Xag HT_ ?_; refine pu 1 11 Xah HT_ ?_; refine pu 2 12 Xai HT_ ?_; refine tk 3 13 Xaj HT_ HW_ hHeld ?_; refine Zy (i := 4) (N := some 14) Xak rfl rfl (Y6 HT_.out zb9) (by decide) (fun K hK => ?_); refine YW Tryz.func71 zb9 rfl #[agx (Xa l0 Xt) ((Xa l0 Xt).f1) ((Xa l0 Xt).f7)] (by rfl) rfl rfl zb2 ?_
         with_reducible refine (Zk.calls k1 ((Xa l0 Xt).f0) ((Xa l0 Xt).f1) ((Xa l0 Xt).f2) ((Xa l0 Xt).f3) ((Xa l0 Xt).f4) ((Xa l0 Xt).f5) ((Xa l0 Xt).f6) ((Xa l0 Xt).f7) true _ A5.out).mono ?_
         rintro e w12 ⟨rfl, hb⟩; refine ⟨_, rfl, ?_⟩; replace HB := az (Xc zb1 hb)
         (try clear hb);(try clear hb2);(try clear hk);(try clear hi)
         have q13 : (Xt : Int) ≤ ((l0.length : Int) : Int) := of_decide_eq_true zb3; obtain ⟨i013, hi013, _, hsz13, _⟩ := info_parts QA; have hroom13 : l0.length ≤ c0 := HC0.out; have hC13 : Kd.C k76 _ (some Fa) l0.length l0 := HR0.out; have hcut13 := XeI (P := Tryz.prog) 29 76 .i64 Tryz.underlying29 hi013 (some Fa) l0.length c0 Xt (of_decide_eq_true zb3) q13 hroom13; have hr13 := Kd.XeJ (m := (Xt : Int).toNat) hC13 (by omega)
         have hy13 : XdY.length = (Xt : Int).toNat := (by rw [Ny185.out, List.length_take]; omega)
         rw [← Ny185.out] at hr13; rw [← hy13] at hcut13; have Xwi := az hr13; have Xqn := az (show XdY.length ≤ c0 from by omega); clear hr13 hC13 hroom13 hi013 hsz13; have KY13 := az hy13; clear hy13; replace q13 := eq_true q13; refine hK.out _ _ ⟨(cb HB hw182_0 :), (cb HB hw182_1 :), (cb HB hw182_2 :), (cb HB hw182_3 :), (cb HB hw182_4 :), (cb HB hw182_5 :), (cb HB hw182_6 :), (cb HB hw182_7 :), (cb HB hw184_0 :), (cb HB hw184_1 :), (cb HB hw184_2 :), (cb HB hw184_3 :), (cb HB hw184_4 :), (cb HB hw184_5 :), (cb HB hw184_6 :), (cb HB hw184_7 :), (cb HB hw189_0 :), (cb HB hw189_1 :), (cb HB hw189_2 :), (cb HB hw189_3 :), (cb HB hw189_4 :), (cb HB hw189_5 :), (cb HB hw189_6 :), (cb HB hw189_7 :), (cb HB hw191_0 :), (cb HB hw191_1 :), (cb HB hw191_2 :), (cb HB hw191_3 :), (cb HB hw191_4 :), (cb HB hw191_5 :), (cb HB hw191_6 :), (cb HB hw191_7 :)⟩ (fun hHeld => ?_); clear hK K; refine XZ (a' := ?_) ?_ ?_; rotate_left
         ·show Act.put _ (some 14) _ = _
          simp only [Act.put, List.setIfInBounds_toArray, List.set_cons_zero, List.set_cons_succ, X9, XK]
          rfl
         refine pu 5 15 Xal HT_ ?_; refine pu 6 16 Xam HT_ ?_; refine pu 7 17 Xan HT_ ?_; refine pu 8 18 Xao HT_ ?_; refine pu 9 19 Bh HT_ ?_; refine pu 10 20 Bi HT_ ?_; refine pu 12 22 Xcj HT_ ?_; refine pu 13 23 Xck HT_ ?_; refine pu 14 24 Xcl HT_ ?_; refine pu 15 25 Xcm HT_ ?_; refine pu 16 26 Xcn HT_ ?_; refine pu 17 27 Xco HT_ ?_; refine pu 18 28 Xcp HT_ ?_; refine tk 11 21 Bj HT_ HW_ hHeld ?_; refine tk 19 29 Bl HT_ HW_ hHeld ?_; refine Zy (i := 20) (N := some 30) Bn rfl rfl (Y6 HT_.out zb9) (by decide) (fun K hK => ?_); refine YW Tryz.func72 zb9 rfl #[.slice (some Fa) XdY.length c0, .int .i64 ((Xa l0 Xt).f1)] (by rfl) rfl rfl zb2 ?_
         with_reducible refine (Y2.calls k1 _ _ XdY ((Xa l0 Xt).f1) KT _ ?side1 ?side2 A9.out).mono ?_
         (case side1 => exact zb105)
         (case side2 => exact Xqn.out)
         rintro e w' ⟨rfl, ⟨nd, rfl⟩⟩; refine ⟨_, rfl, ?_⟩; refine hK.out _ _ ⟨(cb HB hw182_0 :), (cb HB hw182_1 :), (cb HB hw182_2 :), (cb HB hw182_3 :), (cb HB hw182_4 :), (cb HB hw182_5 :), (cb HB hw182_6 :), (cb HB hw182_7 :), (cb HB hw184_0 :), (cb HB hw184_1 :), (cb HB hw184_2 :), (cb HB hw184_3 :), (cb HB hw184_4 :), (cb HB hw184_5 :), (cb HB hw184_6 :), (cb HB hw184_7 :), (cb HB hw189_0 :), (cb HB hw189_1 :), (cb HB hw189_2 :), (cb HB hw189_3 :), (cb HB hw189_4 :), (cb HB hw189_5 :), (cb HB hw189_6 :), (cb HB hw189_7 :), (cb HB hw191_0 :), (cb HB hw191_1 :), (cb HB hw191_2 :), (cb HB hw191_3 :), (cb HB hw191_4 :), (cb HB hw191_5 :), (cb HB hw191_6 :), (cb HB hw191_7 :)⟩ (fun hHeld => ?_); clear hK K; refine XZ (a' := ?_) ?_ ?_; rotate_left
         ·show Act.put _ (some 30) _ = _
          simp only [Act.put, List.setIfInBounds_toArray, List.set_cons_zero, List.set_cons_succ, X9, XK]
          rfl
         refine pu 21 31 Bo HT_ ?_; refine pu 22 32 Bq HT_ ?_; refine pu 23 33 Br HT_ ?_; refine pu 24 34 Bt HT_ ?_; refine pu 25 35 Bu HT_ ?_; refine pu 26 36 Bv HT_ ?_; refine pu 27 37 Bw HT_ ?_; refine pu 29 39 Xpl HT_ ?_; refine tk 28 38 Bz HT_ HW_ hHeld ?_; refine pu 30 40 BB HT_ ?_; refine pu 31 41 BC HT_ ?_; refine Zl (YT HT_.out zb9) ?_
         try go_wp2
         go_meet
         case rel => exact ⟨_, (decide (((Xa l0 Xt).f7) > Xt)), zb6, H', ⟨zb66⟩, ⟨zb1⟩⟩
        ·rw [if_neg c10] at H
         have Vu : (((Xa l0 Xt).f6) == KT) = false := beq_eq_false_iff_ne.mpr c10; have Nn : (((Xa l0 Xt).f6) != KT) = true := bne_iff_ne.mpr c10; have H' := az H; clear H
         try go_wp2
         replace HB := az (wd HB.out); have EC : 0 ≤ (Xt : Int) := of_decide_eq_true zb3; have ED : Xt < (l0.length : Int) := of_decide_eq_true zb3; obtain ⟨Fa, Xqk, VH, VI, VJ, VK, VL, VM, VN, VO⟩ := Yt HR0.out Xt EC ED; have hw182_7 := VO; have hw182_6 := VN; have hw182_5 := VM; have hw182_4 := VL; have hw182_3 := VK; have hw182_2 := VJ; have hw182_1 := VI; have hw182_0 := VH
         cases Xqk
         replace VH := cb HB VH; replace VI := cb HB VI; replace VJ := cb HB VJ; replace VK := cb HB VK; replace VL := cb HB VL; replace VM := cb HB VM; replace VN := cb HB VN; replace VO := cb HB VO; replace EC := eq_true EC; replace ED := eq_true ED; have Xf7 : 0 ≤ (Xt : Int) := of_decide_eq_true zb3; have Xf8 : Xt < (l0.length : Int) := of_decide_eq_true zb3; obtain ⟨Xql, XxY, G9, GA, GG, GH, GI, GJ, GK, GN⟩ := Yt HR0.out Xt Xf7 Xf8; have hw184_7 := GN; have hw184_6 := GK; have hw184_5 := GJ; have hw184_4 := GI; have hw184_3 := GH; have hw184_2 := GG; have hw184_1 := GA; have hw184_0 := G9
         obtain rfl : Fa = Xql := (by injection XxY)
         replace G9 := cb HB G9; replace GA := cb HB GA; replace GG := cb HB GG; replace GH := cb HB GH; replace GI := cb HB GI; replace GJ := cb HB GJ; replace GK := cb HB GK; replace GN := cb HB GN; replace Xf7 := eq_true Xf7; replace Xf8 := eq_true Xf8; have Xf9 : 0 ≤ (Xt : Int) := of_decide_eq_true zb3; have XfA : Xt < (l0.length : Int) := of_decide_eq_true zb3; obtain ⟨Xqm, XxZ, GQ, GR, GU, GV, GX, GY, GZ, Ua⟩ := Yt HR0.out Xt Xf9 XfA; have hw189_7 := Ua; have hw189_6 := GZ; have hw189_5 := GY; have hw189_4 := GX; have hw189_3 := GV; have hw189_2 := GU; have hw189_1 := GR; have hw189_0 := GQ
         obtain rfl : Fa = Xqm := (by injection XxZ)
         replace GQ := cb HB GQ; replace GR := cb HB GR; replace GU := cb HB GU; replace GV := cb HB GV; replace GX := cb HB GX; replace GY := cb HB GY; replace GZ := cb HB GZ; replace Ua := cb HB Ua; replace Xf9 := eq_true Xf9; replace XfA := eq_true XfA; refine Y5 (n := 32) (S := fun w' => r8 w' (Fa.add ((Xt).toNat * 8)) (Xa l0 Xt) (r8 w' (Fa.add ((Xt).toNat * 8)) (Xa l0 Xt) (r8t w' (Fa.add ((Xt).toNat * 8)) (Xa l0 Xt)))) (ds := []) Xaf zb9 rfl rfl ⟨(cb HB hw182_0 :), (cb HB hw182_1 :), (cb HB hw182_2 :), (cb HB hw182_3 :), (cb HB hw182_4 :), (cb HB hw182_5 :), (cb HB hw182_6 :), (cb HB hw182_7 :), (cb HB hw184_0 :), (cb HB hw184_1 :), (cb HB hw184_2 :), (cb HB hw184_3 :), (cb HB hw184_4 :), (cb HB hw184_5 :), (cb HB hw184_6 :), (cb HB hw184_7 :), (cb HB hw189_0 :), (cb HB hw189_1 :), (cb HB hw189_2 :), (cb HB hw189_3 :), (cb HB hw189_4 :), (cb HB hw189_5 :), (cb HB hw189_6 :), (cb HB hw189_7 :)⟩ (fun hHeld => ?_); refine XV Xy.EG Xy.Wv (fun HT_ HW_ => ?_); generalize wr.drew = w14 at HB VH VI VJ VK VL VM VN VO G9 GA GG GH GI GJ GK GN GQ GR GU GV GX GY GZ Ua hHeld ⊢; refine pu 0 10 Xag HT_ ?_; refine pu 1 11 Xah HT_ ?_; refine pu 2 12 Xai HT_ ?_; refine tk 3 13 Xaj HT_ HW_ hHeld ?_; refine Zy (i := 4) (N := some 14) Xak rfl rfl (Y6 HT_.out zb9) (by decide) (fun K hK => ?_)
         refine YW Tryz.func71 zb9 rfl #[agx (Xa l0 Xt) ((Xa l0 Xt).f1) ((Xa l0 Xt).f7)] (by rfl) rfl rfl zb2 ?_
         with_reducible refine (Zk.calls k1 ((Xa l0 Xt).f0) ((Xa l0 Xt).f1) ((Xa l0 Xt).f2) ((Xa l0 Xt).f3) ((Xa l0 Xt).f4) ((Xa l0 Xt).f5) ((Xa l0 Xt).f6) ((Xa l0 Xt).f7) true _ A5.out).mono ?_
         rintro e w15 ⟨rfl, hb⟩; refine ⟨_, rfl, ?_⟩; replace HB := az (Xc zb1 hb)
         (try clear hb);(try clear hb2);(try clear hk);(try clear hi)
         have q16 : (Xt : Int) ≤ ((l0.length : Int) : Int) := of_decide_eq_true zb3; obtain ⟨i016, hi016, _, hsz16, _⟩ := info_parts QA; have hroom16 : l0.length ≤ c0 := HC0.out; have hC16 : Kd.C k76 _ (some Fa) l0.length l0 := HR0.out; have hcut16 := XeI (P := Tryz.prog) 29 76 .i64 Tryz.underlying29 hi016 (some Fa) l0.length c0 Xt (of_decide_eq_true zb3) q16 hroom16; have hr16 := Kd.XeJ (m := (Xt : Int).toNat) hC16 (by omega)
         have hy16 : XdY.length = (Xt : Int).toNat := (by rw [Ny185.out, List.length_take]; omega)
         rw [← Ny185.out] at hr16; rw [← hy16] at hcut16; have Xwi := az hr16; have Xqn := az (show XdY.length ≤ c0 from by omega); clear hr16 hC16 hroom16 hi016 hsz16; have KY16 := az hy16; clear hy16; replace q16 := eq_true q16; refine hK.out _ _ ⟨(cb HB hw182_0 :), (cb HB hw182_1 :), (cb HB hw182_2 :), (cb HB hw182_3 :), (cb HB hw182_4 :), (cb HB hw182_5 :), (cb HB hw182_6 :), (cb HB hw182_7 :), (cb HB hw184_0 :), (cb HB hw184_1 :), (cb HB hw184_2 :), (cb HB hw184_3 :), (cb HB hw184_4 :), (cb HB hw184_5 :), (cb HB hw184_6 :), (cb HB hw184_7 :), (cb HB hw189_0 :), (cb HB hw189_1 :), (cb HB hw189_2 :), (cb HB hw189_3 :), (cb HB hw189_4 :), (cb HB hw189_5 :), (cb HB hw189_6 :), (cb HB hw189_7 :)⟩ (fun hHeld => ?_); clear hK K; refine XZ (a' := ?_) ?_ ?_; rotate_left
         ·show Act.put _ (some 14) _ = _
          simp only [Act.put, List.setIfInBounds_toArray, List.set_cons_zero, List.set_cons_succ, X9, XK]
          rfl
         refine pu 5 15 Xal HT_ ?_; refine pu 6 16 Xam HT_ ?_; refine pu 7 17 Xan HT_ ?_; refine pu 8 18 Xao HT_ ?_; refine pu 9 19 Bh HT_ ?_; refine pu 10 20 Bi HT_ ?_; refine pu 12 22 Xcj HT_ ?_; refine pu 13 23 Xck HT_ ?_; refine pu 14 24 Xcl HT_ ?_; refine pu 15 25 Xcm HT_ ?_; refine pu 16 26 Xcn HT_ ?_; refine pu 17 27 Xco HT_ ?_; refine pu 18 28 Xcp HT_ ?_; refine tk 11 21 Bj HT_ HW_ hHeld ?_; refine tk 19 29 Bl HT_ HW_ hHeld ?_; refine Zy (i := 20) (N := some 30) Bn rfl rfl (Y6 HT_.out zb9) (by decide) (fun K hK => ?_); refine YW Tryz.func72 zb9 rfl #[.slice (some Fa) XdY.length c0, .int .i64 ((Xa l0 Xt).f1)] (by rfl) rfl rfl zb2 ?_
         with_reducible refine (Y2.calls k1 _ _ XdY ((Xa l0 Xt).f1) KT _ ?side1 ?side2 A9.out).mono ?_
         (case side1 => exact zb105)
         (case side2 => exact Xqn.out)
         rintro e w' ⟨rfl, ⟨nd, rfl⟩⟩; refine ⟨_, rfl, ?_⟩; refine hK.out _ _ ⟨(cb HB hw182_0 :), (cb HB hw182_1 :), (cb HB hw182_2 :), (cb HB hw182_3 :), (cb HB hw182_4 :), (cb HB hw182_5 :), (cb HB hw182_6 :), (cb HB hw182_7 :), (cb HB hw184_0 :), (cb HB hw184_1 :), (cb HB hw184_2 :), (cb HB hw184_3 :), (cb HB hw184_4 :), (cb HB hw184_5 :), (cb HB hw184_6 :), (cb HB hw184_7 :), (cb HB hw189_0 :), (cb HB hw189_1 :), (cb HB hw189_2 :), (cb HB hw189_3 :), (cb HB hw189_4 :), (cb HB hw189_5 :), (cb HB hw189_6 :), (cb HB hw189_7 :)⟩ (fun hHeld => ?_); clear hK K; refine XZ (a' := ?_) ?_ ?_; rotate_left
         ·show Act.put _ (some 30) _ = _
          simp only [Act.put, List.setIfInBounds_toArray, List.set_cons_zero, List.set_cons_succ, X9, XK]
          rfl
         refine pu 21 31 Bo HT_ ?_; refine pu 22 32 Bq HT_ ?_; refine pu 23 33 Br HT_ ?_; refine pn 24 34 Bt HT_ ?_; refine pn 25 35 Bu HT_ ?_; refine pn 26 36 Bv HT_ ?_; refine pn 27 37 Bw HT_ ?_; refine pn 28 38 Xcq HT_ ?_; refine pn 29 39 Bz HT_ ?_; refine pn 30 40 BB HT_ ?_; refine pu 31 41 BC HT_ ?_; refine Zl (YT HT_.out zb9) ?_
         try go_wp2
         go_meet
         case rel => exact ⟨_, (true), zb6, H', ⟨zb66⟩, ⟨zb1⟩⟩
       ·rw [if_neg c8] at H
        exact absurd H (by simp)
      ·replace c6 := Bool.eq_false_iff.mpr c6
       subst c6
       have H1 : (Xy.j1 k1 l0 Xt true) = some r := by rw [if_neg (show ¬ (false = true) by decide)] at H; exact H
       clear H; have H := H1; clear H1; have H' := az H; clear H
       try go_wp2
       replace HB := az (wd HB.out); have EC : 0 ≤ (Xt : Int) := of_decide_eq_true zb3; have ED : Xt < (l0.length : Int) := of_decide_eq_true zb3; obtain ⟨Fa, Xqk, VH, VI, VJ, VK, VL, VM, VN, VO⟩ := Yt HR0.out Xt EC ED; have hw182_7 := VO; have hw182_6 := VN; have hw182_5 := VM; have hw182_4 := VL; have hw182_3 := VK; have hw182_2 := VJ; have hw182_1 := VI; have hw182_0 := VH
       cases Xqk
       replace VH := cb HB VH; replace VI := cb HB VI; replace VJ := cb HB VJ; replace VK := cb HB VK; replace VL := cb HB VL; replace VM := cb HB VM; replace VN := cb HB VN; replace VO := cb HB VO; replace EC := eq_true EC; replace ED := eq_true ED; refine Y5 (n := 32) (S := fun w' => r8t w' (Fa.add ((Xt).toNat * 8)) (Xa l0 Xt)) (ds := []) Xaf zb9 rfl rfl ⟨(cb HB hw182_0 :), (cb HB hw182_1 :), (cb HB hw182_2 :), (cb HB hw182_3 :), (cb HB hw182_4 :), (cb HB hw182_5 :), (cb HB hw182_6 :), (cb HB hw182_7 :)⟩ (fun hHeld => ?_); refine XV Xy.EG Xy.Wv (fun HT_ HW_ => ?_); generalize wr.drew = w17 at HB VH VI VJ VK VL VM VN VO hHeld ⊢; refine pu 0 10 Xag HT_ ?_; refine pu 1 11 Xah HT_ ?_; refine pu 2 12 Xai HT_ ?_; refine tk 3 13 Xaj HT_ HW_ hHeld ?_; refine Zy (i := 4) (N := some 14) Xak rfl rfl (Y6 HT_.out zb9) (by decide) (fun K hK => ?_); refine YW Tryz.func71 zb9 rfl #[agx (Xa l0 Xt) ((Xa l0 Xt).f1) ((Xa l0 Xt).f7)] (by rfl) rfl rfl zb2 ?_
       with_reducible refine (Zk.calls k1 ((Xa l0 Xt).f0) ((Xa l0 Xt).f1) ((Xa l0 Xt).f2) ((Xa l0 Xt).f3) ((Xa l0 Xt).f4) ((Xa l0 Xt).f5) ((Xa l0 Xt).f6) ((Xa l0 Xt).f7) false _ A5.out).mono ?_
       rintro e w18 ⟨rfl, hb⟩; refine ⟨_, rfl, ?_⟩; replace HB := az (Xc zb1 hb)
       (try clear hb);(try clear hb2);(try clear hk);(try clear hi)
       refine hK.out _ _ ⟨(cb HB hw182_0 :), (cb HB hw182_1 :), (cb HB hw182_2 :), (cb HB hw182_3 :), (cb HB hw182_4 :), (cb HB hw182_5 :), (cb HB hw182_6 :), (cb HB hw182_7 :)⟩ (fun hHeld => ?_); clear hK K; refine XZ (a' := ?_) ?_ ?_; rotate_left
       ·show Act.put _ (some 14) _ = _
        simp only [Act.put, List.setIfInBounds_toArray, List.set_cons_zero, List.set_cons_succ, X9, XK]
        rfl
       refine pu 5 15 Xal HT_ ?_; refine pu 6 16 Xam HT_ ?_; refine pn 7 17 Xan HT_ ?_; refine pn 8 18 Xao HT_ ?_; refine pn 9 19 Bh HT_ ?_; refine pn 10 20 Bi HT_ ?_; refine pn 11 21 Xpe HT_ ?_; refine pn 12 22 Xpf HT_ ?_; refine pn 13 23 Xpg HT_ ?_; refine pn 14 24 Xph HT_ ?_; refine pn 15 25 Xpi HT_ ?_; refine pn 16 26 Xpj HT_ ?_; refine pn 17 27 Xpk HT_ ?_; refine pn 18 28 Bj HT_ ?_; refine pn 19 29 Bl HT_ ?_; refine pn 20 30 Bn HT_ ?_; refine pn 21 31 Bo HT_ ?_; refine pu 22 32 Bq HT_ ?_; refine pu 23 33 Br HT_ ?_; refine pn 24 34 Bt HT_ ?_; refine pn 25 35 Bu HT_ ?_; refine pn 26 36 Bv HT_ ?_; refine pn 27 37 Bw HT_ ?_; refine pn 28 38 Xcq HT_ ?_; refine pn 29 39 Bz HT_ ?_; refine pn 30 40 BB HT_ ?_; refine pu 31 41 BC HT_ ?_; refine Zl (YT HT_.out zb9) ?_
       try go_wp2
       go_meet
       case rel => exact ⟨_, (true), zb6, H', ⟨zb66⟩, ⟨zb1⟩⟩
     ·rw [if_neg c4] at H
      exact absurd H (by simp)
    case rest =>
     clear HC3;(try clear c1);(try clear p1);(try clear q1);(try clear hx1);(try clear p2);(try clear c4);(try clear c6);(try clear c7);(try clear c8);(try clear c10);(try clear Vu);(try clear Nn);(try clear q16);(try clear p18);(try clear q18);(try clear hx18);(try clear VH);(try clear VI);(try clear VJ);(try clear VK);(try clear VL);(try clear VM);(try clear VN);(try clear VO);(try clear G9);(try clear GA);(try clear GG);(try clear GH);(try clear GI);(try clear GJ);(try clear GK);(try clear GN);(try clear GQ);(try clear GR);(try clear GU);(try clear GV);(try clear GX);(try clear GY);(try clear GZ);(try clear Ua);(try clear EC);(try clear Xf7);(try clear Xf9);(try clear q16);(try clear ED);(try clear Xf8);(try clear XfA)
     obtain ⟨kq, Xl0, rfl, HA, HJ2, HB⟩ := hcut
     cases kq with
     | zero => exact absurd HA.out (by simp [Xy.j1])
     | succ kj2 =>
      have H := HA.out; clear HA; simp only [Xy.j1] at H
      by_cases c19 : Xl0 = true
      ·subst c19
       have H1 : (some false) = some r := by rw [if_pos rfl] at H; exact H
       clear H; have H := H1; clear H1; obtain rfl := Option.some.inj H
       go_wp2
       go_ret
       exact ⟨zb4, zb1⟩
      ·replace c19 := Bool.eq_false_iff.mpr c19
       subst c19
       have H1 : (if 0 ≤ Xt then (if Xt < (l0.length : Int) then (if ((Xa l0 Xt).f7) > 0 then (if 0 ≤ (wrap64 (((Xa l0 Xt).f7) - 1)) then (if (wrap64 (((Xa l0 Xt).f7) - 1)) < (l0.length : Int) then (if ((Xa l0 (wrap64 (((Xa l0 Xt).f7) - 1))).f1) = ((Xa l0 Xt).f1) then (Xy.l0 kj2 l0 (wrap64 (Xt + 1))) else (some false)) else (none)) else (none)) else (Xy.l0 kj2 l0 (wrap64 (Xt + 1)))) else (none)) else (none)) = some r := by rw [if_neg (show ¬ (false = true) by decide)] at H; exact H
       clear H; have H := H1; clear H1
       by_cases c20 : 0 ≤ Xt
       ·rw [if_pos c20] at H
        have Xwx : decide (0 ≤ Xt) = true := decide_eq_true c20; clear c20
        by_cases c21 : Xt < (l0.length : Int)
        ·rw [if_pos c21] at H
         have Xwq : decide (Xt < (l0.length : Int)) = true := decide_eq_true c21; clear c21
         by_cases c22 : ((Xa l0 Xt).f7) > 0
         ·rw [if_pos c22] at H
          have XpI : decide (0 < ((Xa l0 Xt).f7)) = true := decide_eq_true c22; clear c22
          obtain ⟨MJ, Xl1⟩ : ∃ j_ : Int, (wrap64 (((Xa l0 Xt).f7) - 1)) = j_ := ⟨_, rfl⟩
          replace H : (if 0 ≤ (MJ) then (if (MJ) < (l0.length : Int) then (if ((Xa l0 (MJ)).f1) = ((Xa l0 Xt).f1) then (Xy.l0 kj2 l0 (wrap64 (Xt + 1))) else (some false)) else (none)) else (none)) = some r := by first | (rw [Xl1] at H; exact H) | (simp only [Xl1] at H ⊢; exact H)
          have hji23w : (IntKind.i64.wrap (((Xa l0 Xt).f7) - 1)) = MJ := (X9 _).trans Xl1
          by_cases c24 : 0 ≤ (MJ)
          ·rw [if_pos c24] at H
           have XpJ : decide (0 ≤ (MJ)) = true := decide_eq_true c24; clear c24
           by_cases c25 : (MJ) < (l0.length : Int)
           ·rw [if_pos c25] at H
            have Xws : decide ((MJ) < (l0.length : Int)) = true := decide_eq_true c25; clear c25
            by_cases c26 : ((Xa l0 (MJ)).f1) = ((Xa l0 Xt).f1)
            ·rw [if_pos c26] at H
             have X02 : (((Xa l0 (MJ)).f1) == ((Xa l0 Xt).f1)) = true := beq_iff_eq.mpr c26; have X03 : (((Xa l0 (MJ)).f1) != ((Xa l0 Xt).f1)) = false := bne_eq_false_iff_eq.mpr c26; clear c26; have H' := az H; clear H
             try go_wp2
             replace HB := az (wd HB.out); have I9 : 0 ≤ (Xt : Int) := of_decide_eq_true zb3; have IA : Xt < (l0.length : Int) := of_decide_eq_true zb3; obtain ⟨Uj, Xqo, De, Df, Dh, Di, Dj, Dk, Dl, Dm⟩ := Yt HR0.out Xt I9 IA; have hw192_7 := Dm; have hw192_6 := Dl; have hw192_5 := Dk; have hw192_4 := Dj; have hw192_3 := Di; have hw192_2 := Dh; have hw192_1 := Df; have hw192_0 := De
             cases Xqo
             replace De := cb HB De; replace Df := cb HB Df; replace Dh := cb HB Dh; replace Di := cb HB Di; replace Dj := cb HB Dj; replace Dk := cb HB Dk; replace Dl := cb HB Dl; replace Dm := cb HB Dm; replace I9 := eq_true I9; replace IA := eq_true IA; have Xid : 0 ≤ (Xt : Int) := of_decide_eq_true zb3; have Xie : Xt < (l0.length : Int) := of_decide_eq_true zb3; obtain ⟨Xqp, Xyc, UX, UY, UZ, Ma, Mc, Md, Me, Mf⟩ := Yt HR0.out Xt Xid Xie; have hw193_7 := Mf; have hw193_6 := Me; have hw193_5 := Md; have hw193_4 := Mc; have hw193_3 := Ma; have hw193_2 := UZ; have hw193_1 := UY; have hw193_0 := UX
             obtain rfl : Uj = Xqp := (by injection Xyc)
             replace UX := cb HB UX; replace UY := cb HB UY; replace UZ := cb HB UZ; replace Ma := cb HB Ma; replace Mc := cb HB Mc; replace Md := cb HB Md; replace Me := cb HB Me; replace Mf := cb HB Mf; replace Xid := eq_true Xid; replace Xie := eq_true Xie; have Xif : 0 ≤ ((MJ) : Int) := of_decide_eq_true zb3; have Xig : (MJ) < (l0.length : Int) := of_decide_eq_true zb3; obtain ⟨Xqq, Xyd, Mg, Mh, Mi, Mj, Mk, Ml, Mm, Mo⟩ := Yt HR0.out (MJ) Xif Xig; have hw194_7 := Mo; have hw194_6 := Mm; have hw194_5 := Ml; have hw194_4 := Mk; have hw194_3 := Mj; have hw194_2 := Mi; have hw194_1 := Mh; have hw194_0 := Mg
             obtain rfl : Uj = Xqq := (by injection Xyd)
             replace Mg := cb HB Mg; replace Mh := cb HB Mh; replace Mi := cb HB Mi; replace Mj := cb HB Mj; replace Mk := cb HB Mk; replace Ml := cb HB Ml; replace Mm := cb HB Mm; replace Mo := cb HB Mo; replace Xif := eq_true Xif; replace Xig := eq_true Xig; have Xih : 0 ≤ (Xt : Int) := of_decide_eq_true zb3; have Xii : Xt < (l0.length : Int) := of_decide_eq_true zb3; obtain ⟨Xqr, Xye, Mq, Mr, Ms, Mt, Mv, Mw, Mx, M0⟩ := Yt HR0.out Xt Xih Xii; have hw195_7 := M0; have hw195_6 := Mx; have hw195_5 := Mw; have hw195_4 := Mv; have hw195_3 := Mt; have hw195_2 := Ms; have hw195_1 := Mr; have hw195_0 := Mq
             obtain rfl : Uj = Xqr := (by injection Xye)
             replace Mq := cb HB Mq; replace Mr := cb HB Mr; replace Ms := cb HB Ms; replace Mt := cb HB Mt; replace Mv := cb HB Mv; replace Mw := cb HB Mw; replace Mx := cb HB Mx; replace M0 := cb HB M0; replace Xih := eq_true Xih; replace Xii := eq_true Xii; refine Y5 (n := 24) (S := fun w' => r8 w' (Uj.add ((Xt).toNat * 8)) (Xa l0 Xt) (r8 w' (Uj.add ((Xt).toNat * 8)) (Xa l0 Xt) (r8 w' (Uj.add (((MJ)).toNat * 8)) (Xa l0 (MJ)) (r8t w' (Uj.add ((Xt).toNat * 8)) (Xa l0 Xt))))) (ds := []) BF zb9 rfl rfl ⟨(cb HB hw192_0 :), (cb HB hw192_1 :), (cb HB hw192_2 :), (cb HB hw192_3 :), (cb HB hw192_4 :), (cb HB hw192_5 :), (cb HB hw192_6 :), (cb HB hw192_7 :), (cb HB hw193_0 :), (cb HB hw193_1 :), (cb HB hw193_2 :), (cb HB hw193_3 :), (cb HB hw193_4 :), (cb HB hw193_5 :), (cb HB hw193_6 :), (cb HB hw193_7 :), (cb HB hw194_0 :), (cb HB hw194_1 :), (cb HB hw194_2 :), (cb HB hw194_3 :), (cb HB hw194_4 :), (cb HB hw194_5 :), (cb HB hw194_6 :), (cb HB hw194_7 :), (cb HB hw195_0 :), (cb HB hw195_1 :), (cb HB hw195_2 :), (cb HB hw195_3 :), (cb HB hw195_4 :), (cb HB hw195_5 :), (cb HB hw195_6 :), (cb HB hw195_7 :)⟩ (fun hHeld => ?_); refine XV Xy.Xae Xy.Ka (fun HT_ HW_ => ?_); generalize wc.drew = w27 at HB De Df Dh Di Dj Dk Dl Dm UX UY UZ Ma Mc Md Me Mf Mg Mh Mi Mj Mk Ml Mm Mo Mq Mr Ms Mt Mv Mw Mx M0 hHeld ⊢
             refine pu 0 42 BG HT_ ?_; refine pu 1 43 BH HT_ ?_; refine pu 2 44 BI HT_ ?_; refine pu 3 45 BJ HT_ ?_; refine tk 4 46 BK HT_ HW_ hHeld ?_; refine pu 5 47 BL HT_ ?_; refine pu 6 48 BN HT_ ?_; refine pu 7 49 BO HT_ ?_; refine pu 8 50 BQ HT_ ?_; refine pu 9 51 BS HT_ ?_; refine pu 10 52 BU HT_ ?_; refine pu 11 53 BV HT_ ?_; refine pu 17 59 Xcr HT_ ?_; refine pu 18 60 Xcs HT_ ?_; refine pu 19 61 Xct HT_ ?_; refine pu 20 62 Xcu HT_ ?_; refine tk 12 54 Xcv HT_ HW_ hHeld ?_; refine pu 13 55 Xcw HT_ ?_; refine pu 14 56 Xcx HT_ ?_; refine pu 15 57 Xcy HT_ ?_; refine tk 16 58 BX HT_ HW_ hHeld ?_; refine tk 21 63 BZ HT_ HW_ hHeld ?_; refine pu 22 64 Ea HT_ ?_; refine pu 23 65 Eb HT_ ?_; refine Zl (YT HT_.out zb9) ?_
             try go_wp2
             go_roundg kj2
             case measure => have := HK1.out; have := HJ2.out; omega
             case rel => exact ⟨(wrap64 (Xt + 1)), zb6, H', ⟨by have := HK1.out; have := HJ2.out; omega⟩, ⟨zb1⟩⟩
            ·rw [if_neg c26] at H
             have X02 : (((Xa l0 (MJ)).f1) == ((Xa l0 Xt).f1)) = false := beq_eq_false_iff_ne.mpr c26; have X03 : (((Xa l0 (MJ)).f1) != ((Xa l0 Xt).f1)) = true := bne_iff_ne.mpr c26; obtain rfl := Option.some.inj H
             try go_wp2
             replace HB := az (wd HB.out); have I9 : 0 ≤ (Xt : Int) := of_decide_eq_true zb3; have IA : Xt < (l0.length : Int) := of_decide_eq_true zb3; obtain ⟨Uj, Xqo, De, Df, Dh, Di, Dj, Dk, Dl, Dm⟩ := Yt HR0.out Xt I9 IA; have hw192_7 := Dm; have hw192_6 := Dl; have hw192_5 := Dk; have hw192_4 := Dj; have hw192_3 := Di; have hw192_2 := Dh; have hw192_1 := Df; have hw192_0 := De
             cases Xqo
             replace De := cb HB De; replace Df := cb HB Df; replace Dh := cb HB Dh; replace Di := cb HB Di; replace Dj := cb HB Dj; replace Dk := cb HB Dk; replace Dl := cb HB Dl; replace Dm := cb HB Dm; replace I9 := eq_true I9; replace IA := eq_true IA; have Xid : 0 ≤ (Xt : Int) := of_decide_eq_true zb3; have Xie : Xt < (l0.length : Int) := of_decide_eq_true zb3; obtain ⟨Xqp, Xyc, UX, UY, UZ, Ma, Mc, Md, Me, Mf⟩ := Yt HR0.out Xt Xid Xie; have hw193_7 := Mf; have hw193_6 := Me; have hw193_5 := Md; have hw193_4 := Mc; have hw193_3 := Ma; have hw193_2 := UZ; have hw193_1 := UY; have hw193_0 := UX
             obtain rfl : Uj = Xqp := (by injection Xyc)
             replace UX := cb HB UX; replace UY := cb HB UY; replace UZ := cb HB UZ; replace Ma := cb HB Ma; replace Mc := cb HB Mc; replace Md := cb HB Md; replace Me := cb HB Me; replace Mf := cb HB Mf; replace Xid := eq_true Xid; replace Xie := eq_true Xie; have Xif : 0 ≤ ((MJ) : Int) := of_decide_eq_true zb3; have Xig : (MJ) < (l0.length : Int) := of_decide_eq_true zb3; obtain ⟨Xqq, Xyd, Mg, Mh, Mi, Mj, Mk, Ml, Mm, Mo⟩ := Yt HR0.out (MJ) Xif Xig; have hw194_7 := Mo; have hw194_6 := Mm; have hw194_5 := Ml; have hw194_4 := Mk; have hw194_3 := Mj; have hw194_2 := Mi; have hw194_1 := Mh; have hw194_0 := Mg
             obtain rfl : Uj = Xqq := (by injection Xyd)
             replace Mg := cb HB Mg; replace Mh := cb HB Mh; replace Mi := cb HB Mi; replace Mj := cb HB Mj; replace Mk := cb HB Mk; replace Ml := cb HB Ml; replace Mm := cb HB Mm; replace Mo := cb HB Mo; replace Xif := eq_true Xif; replace Xig := eq_true Xig; have Xih : 0 ≤ (Xt : Int) := of_decide_eq_true zb3; have Xii : Xt < (l0.length : Int) := of_decide_eq_true zb3; obtain ⟨Xqr, Xye, Mq, Mr, Ms, Mt, Mv, Mw, Mx, M0⟩ := Yt HR0.out Xt Xih Xii; have hw195_7 := M0; have hw195_6 := Mx; have hw195_5 := Mw; have hw195_4 := Mv; have hw195_3 := Mt; have hw195_2 := Ms; have hw195_1 := Mr; have hw195_0 := Mq
             obtain rfl : Uj = Xqr := (by injection Xye)
             replace Mq := cb HB Mq; replace Mr := cb HB Mr; replace Ms := cb HB Ms; replace Mt := cb HB Mt; replace Mv := cb HB Mv; replace Mw := cb HB Mw; replace Mx := cb HB Mx; replace M0 := cb HB M0; replace Xih := eq_true Xih; replace Xii := eq_true Xii; refine Y5 (n := 24) (S := fun w' => r8 w' (Uj.add ((Xt).toNat * 8)) (Xa l0 Xt) (r8 w' (Uj.add ((Xt).toNat * 8)) (Xa l0 Xt) (r8 w' (Uj.add (((MJ)).toNat * 8)) (Xa l0 (MJ)) (r8t w' (Uj.add ((Xt).toNat * 8)) (Xa l0 Xt))))) (ds := []) BF zb9 rfl rfl ⟨(cb HB hw192_0 :), (cb HB hw192_1 :), (cb HB hw192_2 :), (cb HB hw192_3 :), (cb HB hw192_4 :), (cb HB hw192_5 :), (cb HB hw192_6 :), (cb HB hw192_7 :), (cb HB hw193_0 :), (cb HB hw193_1 :), (cb HB hw193_2 :), (cb HB hw193_3 :), (cb HB hw193_4 :), (cb HB hw193_5 :), (cb HB hw193_6 :), (cb HB hw193_7 :), (cb HB hw194_0 :), (cb HB hw194_1 :), (cb HB hw194_2 :), (cb HB hw194_3 :), (cb HB hw194_4 :), (cb HB hw194_5 :), (cb HB hw194_6 :), (cb HB hw194_7 :), (cb HB hw195_0 :), (cb HB hw195_1 :), (cb HB hw195_2 :), (cb HB hw195_3 :), (cb HB hw195_4 :), (cb HB hw195_5 :), (cb HB hw195_6 :), (cb HB hw195_7 :)⟩ (fun hHeld => ?_); refine XV Xy.Xae Xy.Ka (fun HT_ HW_ => ?_); generalize wc.drew = w28 at HB De Df Dh Di Dj Dk Dl Dm UX UY UZ Ma Mc Md Me Mf Mg Mh Mi Mj Mk Ml Mm Mo Mq Mr Ms Mt Mv Mw Mx M0 hHeld ⊢
             refine pu 0 42 BG HT_ ?_; refine pu 1 43 BH HT_ ?_; refine pu 2 44 BI HT_ ?_; refine pu 3 45 BJ HT_ ?_; refine tk 4 46 BK HT_ HW_ hHeld ?_; refine pu 5 47 BL HT_ ?_; refine pu 6 48 BN HT_ ?_; refine pu 7 49 BO HT_ ?_; refine pu 8 50 BQ HT_ ?_; refine pu 9 51 BS HT_ ?_; refine pu 10 52 BU HT_ ?_; refine pu 11 53 BV HT_ ?_; refine pu 17 59 Xcr HT_ ?_; refine pu 18 60 Xcs HT_ ?_; refine pu 19 61 Xct HT_ ?_; refine pu 20 62 Xcu HT_ ?_; refine tk 12 54 Xcv HT_ HW_ hHeld ?_; refine pu 13 55 Xcw HT_ ?_; refine pu 14 56 Xcx HT_ ?_; refine pu 15 57 Xcy HT_ ?_; refine tk 16 58 BX HT_ HW_ hHeld ?_; refine tk 21 63 BZ HT_ HW_ hHeld ?_; refine pu 22 64 Ea HT_ ?_; refine pu 23 65 Eb HT_ ?_; refine Zl (YT HT_.out zb9) ?_
             try go_wp2
             go_ret
             exact ⟨by first | rfl | (simp [F5, F6] <;> rfl) | (simp only [← Xl1]; first | rfl | (simp [F5, F6] <;> rfl)) | (simp [*, F5, F6] <;> rfl), zb1⟩
           ·rw [if_neg c25] at H
            exact absurd H (by simp)
          ·rw [if_neg c24] at H
           exact absurd H (by simp)
         ·rw [if_neg c22] at H
          have XpI : decide (0 < ((Xa l0 Xt).f7)) = false := decide_eq_false c22; clear c22; have H' := az H; clear H
          try go_wp2
          replace HB := az (wd HB.out); have I9 : 0 ≤ (Xt : Int) := of_decide_eq_true zb3; have IA : Xt < (l0.length : Int) := of_decide_eq_true zb3; obtain ⟨Uj, Xqo, De, Df, Dh, Di, Dj, Dk, Dl, Dm⟩ := Yt HR0.out Xt I9 IA; have hw192_7 := Dm; have hw192_6 := Dl; have hw192_5 := Dk; have hw192_4 := Dj; have hw192_3 := Di; have hw192_2 := Dh; have hw192_1 := Df; have hw192_0 := De
          cases Xqo
          replace De := cb HB De; replace Df := cb HB Df; replace Dh := cb HB Dh; replace Di := cb HB Di; replace Dj := cb HB Dj; replace Dk := cb HB Dk; replace Dl := cb HB Dl; replace Dm := cb HB Dm; replace I9 := eq_true I9; replace IA := eq_true IA; refine Y5 (n := 24) (S := fun w' => r8t w' (Uj.add ((Xt).toNat * 8)) (Xa l0 Xt)) (ds := []) BF zb9 rfl rfl ⟨(cb HB hw192_0 :), (cb HB hw192_1 :), (cb HB hw192_2 :), (cb HB hw192_3 :), (cb HB hw192_4 :), (cb HB hw192_5 :), (cb HB hw192_6 :), (cb HB hw192_7 :)⟩ (fun hHeld => ?_); refine XV Xy.Xae Xy.Ka (fun HT_ HW_ => ?_); generalize wc.drew = w29 at HB De Df Dh Di Dj Dk Dl Dm hHeld ⊢; refine pu 0 42 BG HT_ ?_; refine pu 1 43 BH HT_ ?_; refine pu 2 44 BI HT_ ?_; refine pu 3 45 BJ HT_ ?_; refine tk 4 46 BK HT_ HW_ hHeld ?_; refine pu 5 47 BL HT_ ?_; refine pu 6 48 BN HT_ ?_; refine pn 7 49 BO HT_ ?_; refine pn 8 50 BQ HT_ ?_; refine pn 9 51 BS HT_ ?_; refine pn 10 52 BU HT_ ?_; refine pn 11 53 BV HT_ ?_; refine pn 12 54 Xpm HT_ ?_; refine pn 13 55 Xpn HT_ ?_; refine pn 14 56 Xpo HT_ ?_; refine pn 15 57 Xpp HT_ ?_; refine pn 16 58 Xpq HT_ ?_; refine pn 17 59 Xpr HT_ ?_; refine pn 18 60 Xps HT_ ?_; refine pn 19 61 Xpt HT_ ?_; refine pn 20 62 BX HT_ ?_; refine pn 21 63 BZ HT_ ?_; refine pn 22 64 Ea HT_ ?_; refine pu 23 65 Eb HT_ ?_
          refine Zl (YT HT_.out zb9) ?_
          try go_wp2
          go_roundg kj2
          case measure => have := HK1.out; have := HJ2.out; omega
          case rel => exact ⟨(wrap64 (Xt + 1)), zb6, H', ⟨by have := HK1.out; have := HJ2.out; omega⟩, ⟨zb1⟩⟩
        ·rw [if_neg c21] at H
         exact absurd H (by simp)
       ·rw [if_neg c20] at H
        exact absurd H (by simp)
   ·rw [if_neg c2] at H
    have c2b0 : decide (Xt < (l0.length : Int)) = false := decide_eq_false c2; clear c2; obtain rfl := Option.some.inj H
    go_wp2
    go_ret
    exact ⟨zb4, zb1⟩
end Go.Proofs.YtphnphmbfogmlaaGreat.Pr
