import Derived.Test.YtphnphmbfogmlaaGreatQEByq
import Derived.Test.YtphnphmbfogmlaaGreatQEPrK
import Derived.Test.YtphnphmbfogmlaaGreatQESx
import Derived.Test.YtphnphmbfogmlaaGreatQEPrWith
import Derived.Test.YtphnphmbfogmlaaGreatQEPrLoad
import Derived.Test.YtphnphmbfogmlaaGreatQEPrPT
namespace Go.Proofs.YtphnphmbfogmlaaGreat.Pr
open Go.RowKit Go.PW Go.PL Go.PM
attribute [local go_sem] YO YP Zm Zn Yv Yw YQ YS
set_option linter.unusedVariables false
set_option linter.unusedSimpArgs false
abbrev CW : Array Bool := #[nn,nn,nn,nn,nn,nn,nn,nn,nn,nn,nn,nn,nn,nn,nn,nn,nn,nn,nn,nn,nn,nn,nn,nn,nn,nn,nn,nn,nn,nn,nn,nn,nn,nn,nn,nn,nn,nn,nn,nn]
abbrev CX : Array Bool := #[yy,nn,nn,nn,nn,nn,nn,nn,nn,nn,nn,nn,nn,nn,nn,nn,nn,nn,nn,nn,nn,nn,nn,nn,nn,nn,nn,nn,nn,nn,nn,nn,nn,nn,nn,nn,nn,nn,nn,nn]
abbrev CZ : Array Bool := #[yy,nn,yy,nn,nn,nn,nn,nn,nn,nn,nn,nn,nn,nn,nn,nn,nn,nn,nn,nn,nn,nn,nn,nn,nn,nn,nn,nn,nn,nn,nn,nn,nn,nn,nn,nn,nn,nn,nn,nn]
abbrev Ba : Array Bool := #[yy,nn,yy,nn,nn,nn,yy,nn,nn,nn,nn,nn,nn,nn,nn,nn,nn,nn,nn,nn,nn,nn,nn,nn,nn,nn,nn,nn,nn,nn,nn,nn,nn,nn,nn,nn,nn,nn,nn,nn]
abbrev Bb : Array Bool := #[yy,nn,yy,nn,nn,nn,yy,nn,yy,nn,nn,nn,nn,nn,nn,nn,nn,nn,nn,nn,nn,nn,nn,nn,nn,nn,nn,nn,nn,nn,nn,nn,nn,nn,nn,nn,nn,nn,nn,nn]
abbrev Bc : Array Bool := #[yy,yy,yy,nn,nn,nn,yy,nn,yy,nn,nn,nn,nn,nn,nn,nn,nn,nn,nn,nn,nn,nn,nn,nn,nn,nn,nn,nn,nn,nn,nn,nn,nn,nn,nn,nn,nn,nn,nn,nn]
abbrev Bd : Array Bool := #[yy,yy,yy,yy,nn,nn,yy,nn,yy,nn,nn,nn,nn,nn,nn,nn,nn,nn,nn,nn,nn,nn,nn,nn,nn,nn,nn,nn,nn,nn,nn,nn,nn,nn,nn,nn,nn,nn,nn,nn]
abbrev Be : Array Bool := #[yy,yy,yy,yy,yy,nn,yy,nn,yy,nn,nn,nn,nn,nn,nn,nn,nn,nn,nn,nn,nn,nn,nn,nn,nn,nn,nn,nn,nn,nn,nn,nn,nn,nn,nn,nn,nn,nn,nn,nn]
abbrev Bf : Array Bool := #[yy,yy,yy,yy,yy,yy,yy,nn,yy,nn,nn,nn,nn,nn,nn,nn,nn,nn,nn,nn,nn,nn,nn,nn,nn,nn,nn,nn,nn,nn,nn,nn,nn,nn,nn,nn,nn,nn,nn,nn]
abbrev Bg : Array Bool := #[yy,yy,yy,yy,yy,yy,yy,yy,yy,nn,nn,nn,nn,nn,nn,nn,nn,nn,nn,nn,nn,nn,nn,nn,nn,nn,nn,nn,nn,nn,nn,nn,nn,nn,nn,nn,nn,nn,nn,nn]
abbrev Te : Array Bool := #[yy,yy,yy,yy,yy,yy,yy,yy,yy,yy,nn,nn,nn,nn,nn,nn,nn,nn,nn,nn,nn,nn,nn,nn,nn,nn,nn,nn,nn,nn,nn,nn,nn,nn,nn,nn,nn,nn,nn,nn]
abbrev Tf : Array Bool := #[yy,yy,yy,yy,yy,yy,yy,yy,yy,yy,yy,nn,nn,nn,nn,nn,nn,nn,nn,nn,nn,nn,nn,nn,nn,nn,nn,nn,nn,nn,nn,nn,nn,nn,nn,nn,nn,nn,nn,nn]
abbrev Tg : Array Bool := #[yy,yy,yy,yy,yy,yy,yy,yy,yy,yy,yy,yy,nn,nn,nn,nn,nn,nn,nn,nn,nn,nn,nn,nn,nn,nn,nn,nn,nn,nn,nn,nn,nn,nn,nn,nn,nn,nn,nn,nn]
abbrev Ti : Array Bool := #[yy,yy,yy,yy,yy,yy,yy,yy,yy,yy,yy,yy,yy,nn,nn,nn,nn,nn,nn,nn,nn,nn,nn,nn,nn,nn,nn,nn,nn,nn,nn,nn,nn,nn,nn,nn,nn,nn,nn,nn]
abbrev QR : Array Bool := #[yy,yy,yy,yy,yy,yy,yy,yy,yy,yy,yy,yy,yy,nn,yy,nn,nn,nn,nn,nn,nn,nn,nn,nn,nn,nn,nn,nn,nn,nn,nn,nn,nn,nn,nn,nn,nn,nn,nn,nn]
abbrev XiV : Array Bool := #[yy,yy,yy,yy,yy,yy,yy,yy,yy,yy,yy,yy,yy,yy,nn,nn,nn,nn,nn,nn,nn,nn,nn,nn,nn,nn,nn,nn,nn,nn,nn,nn,nn,nn,nn,nn,nn,nn,nn,nn]
abbrev QS : Array Bool := #[yy,yy,yy,yy,yy,yy,yy,yy,yy,yy,yy,yy,yy,nn,yy,nn,nn,nn,yy,nn,nn,nn,nn,nn,nn,nn,nn,nn,nn,nn,nn,nn,nn,nn,nn,nn,nn,nn,nn,nn]
abbrev XiW : Array Bool := #[yy,yy,yy,yy,yy,yy,yy,yy,yy,yy,yy,yy,yy,yy,yy,nn,nn,nn,nn,nn,nn,nn,nn,nn,nn,nn,nn,nn,nn,nn,nn,nn,nn,nn,nn,nn,nn,nn,nn,nn]
abbrev QT : Array Bool := #[yy,yy,yy,yy,yy,yy,yy,yy,yy,yy,yy,yy,yy,nn,yy,nn,nn,nn,yy,nn,yy,nn,nn,nn,nn,nn,nn,nn,nn,nn,nn,nn,nn,nn,nn,nn,nn,nn,nn,nn]
abbrev XiX : Array Bool := #[yy,yy,yy,yy,yy,yy,yy,yy,yy,yy,yy,yy,yy,yy,yy,yy,nn,nn,nn,nn,nn,nn,nn,nn,nn,nn,nn,nn,nn,nn,nn,nn,nn,nn,nn,nn,nn,nn,nn,nn]
abbrev QU : Array Bool := #[yy,yy,yy,yy,yy,yy,yy,yy,yy,yy,yy,yy,yy,yy,yy,nn,nn,nn,yy,nn,yy,nn,nn,nn,nn,nn,nn,nn,nn,nn,nn,nn,nn,nn,nn,nn,nn,nn,nn,nn]
abbrev XiY : Array Bool := #[yy,yy,yy,yy,yy,yy,yy,yy,yy,yy,yy,yy,yy,yy,yy,yy,yy,nn,nn,nn,nn,nn,nn,nn,nn,nn,nn,nn,nn,nn,nn,nn,nn,nn,nn,nn,nn,nn,nn,nn]
abbrev QV : Array Bool := #[yy,yy,yy,yy,yy,yy,yy,yy,yy,yy,yy,yy,yy,yy,yy,yy,nn,nn,yy,nn,yy,nn,nn,nn,nn,nn,nn,nn,nn,nn,nn,nn,nn,nn,nn,nn,nn,nn,nn,nn]
abbrev XiZ : Array Bool := #[yy,yy,yy,yy,yy,yy,yy,yy,yy,yy,yy,yy,yy,yy,yy,yy,yy,yy,nn,nn,nn,nn,nn,nn,nn,nn,nn,nn,nn,nn,nn,nn,nn,nn,nn,nn,nn,nn,nn,nn]
abbrev QW : Array Bool := #[yy,yy,yy,yy,yy,yy,yy,yy,yy,yy,yy,yy,yy,yy,yy,yy,yy,nn,yy,nn,yy,nn,nn,nn,nn,nn,nn,nn,nn,nn,nn,nn,nn,nn,nn,nn,nn,nn,nn,nn]
abbrev Xja : Array Bool := #[yy,yy,yy,yy,yy,yy,yy,yy,yy,yy,yy,yy,yy,yy,yy,yy,yy,yy,yy,nn,nn,nn,nn,nn,nn,nn,nn,nn,nn,nn,nn,nn,nn,nn,nn,nn,nn,nn,nn,nn]
abbrev QX : Array Bool := #[yy,yy,yy,yy,yy,yy,yy,yy,yy,yy,yy,yy,yy,yy,yy,yy,yy,yy,yy,nn,yy,nn,nn,nn,nn,nn,nn,nn,nn,nn,nn,nn,nn,nn,nn,nn,nn,nn,nn,nn]
abbrev Xjb : Array Bool := #[yy,yy,yy,yy,yy,yy,yy,yy,yy,yy,yy,yy,yy,yy,yy,yy,yy,yy,yy,yy,nn,nn,nn,nn,nn,nn,nn,nn,nn,nn,nn,nn,nn,nn,nn,nn,nn,nn,nn,nn]
abbrev Tj : Array Bool := #[yy,yy,yy,yy,yy,yy,yy,yy,yy,yy,yy,yy,yy,yy,yy,yy,yy,yy,yy,yy,yy,nn,nn,nn,nn,nn,nn,nn,nn,nn,nn,nn,nn,nn,nn,nn,nn,nn,nn,nn]
abbrev Tk : Array Bool := #[yy,yy,yy,yy,yy,yy,yy,yy,yy,yy,yy,yy,yy,yy,yy,yy,yy,yy,yy,yy,yy,yy,nn,nn,nn,nn,nn,nn,nn,nn,nn,nn,nn,nn,nn,nn,nn,nn,nn,nn]
abbrev Tm : Array Bool := #[yy,yy,yy,yy,yy,yy,yy,yy,yy,yy,yy,yy,yy,yy,yy,yy,yy,yy,yy,yy,yy,yy,yy,nn,nn,nn,nn,nn,nn,nn,nn,nn,nn,nn,nn,nn,nn,nn,nn,nn]
abbrev Tn : Array Bool := #[yy,yy,yy,yy,yy,yy,yy,yy,yy,yy,yy,yy,yy,yy,yy,yy,yy,yy,yy,yy,yy,yy,yy,yy,nn,nn,nn,nn,nn,nn,nn,nn,nn,nn,nn,nn,nn,nn,nn,nn]
abbrev Tp : Array Bool := #[yy,yy,yy,yy,yy,yy,yy,yy,yy,yy,yy,yy,yy,yy,yy,yy,yy,yy,yy,yy,yy,yy,yy,yy,yy,nn,nn,nn,nn,nn,nn,nn,nn,nn,nn,nn,nn,nn,nn,nn]
abbrev Tq : Array Bool := #[yy,yy,yy,yy,yy,yy,yy,yy,yy,yy,yy,yy,yy,yy,yy,yy,yy,yy,yy,yy,yy,yy,yy,yy,yy,yy,nn,nn,nn,nn,nn,nn,nn,nn,nn,nn,nn,nn,nn,nn]
abbrev Tt : Array Bool := #[yy,yy,yy,yy,yy,yy,yy,yy,yy,yy,yy,yy,yy,yy,yy,yy,yy,yy,yy,yy,yy,yy,yy,yy,yy,yy,yy,nn,nn,nn,nn,nn,nn,nn,nn,nn,nn,nn,nn,nn]
abbrev Xjc : Array Bool := #[yy,yy,yy,yy,yy,yy,yy,yy,yy,yy,yy,yy,yy,yy,yy,yy,yy,yy,yy,yy,yy,yy,yy,yy,yy,yy,yy,nn,yy,nn,nn,nn,nn,nn,nn,nn,nn,nn,nn,nn]
abbrev QY : Array Bool := #[yy,yy,yy,yy,yy,yy,yy,yy,yy,yy,yy,yy,yy,yy,yy,yy,yy,yy,yy,yy,yy,yy,yy,yy,yy,yy,yy,yy,nn,nn,nn,nn,nn,nn,nn,nn,nn,nn,nn,nn]
abbrev Xjd : Array Bool := #[yy,yy,yy,yy,yy,yy,yy,yy,yy,yy,yy,yy,yy,yy,yy,yy,yy,yy,yy,yy,yy,yy,yy,yy,yy,yy,yy,nn,yy,nn,nn,yy,nn,nn,nn,nn,nn,nn,nn,nn]
abbrev QZ : Array Bool := #[yy,yy,yy,yy,yy,yy,yy,yy,yy,yy,yy,yy,yy,yy,yy,yy,yy,yy,yy,yy,yy,yy,yy,yy,yy,yy,yy,yy,yy,nn,nn,nn,nn,nn,nn,nn,nn,nn,nn,nn]
abbrev Xje : Array Bool := #[yy,yy,yy,yy,yy,yy,yy,yy,yy,yy,yy,yy,yy,yy,yy,yy,yy,yy,yy,yy,yy,yy,yy,yy,yy,yy,yy,nn,yy,nn,nn,yy,nn,yy,nn,nn,nn,nn,nn,nn]
abbrev Xaa : Array Bool := #[yy,yy,yy,yy,yy,yy,yy,yy,yy,yy,yy,yy,yy,yy,yy,yy,yy,yy,yy,yy,yy,yy,yy,yy,yy,yy,yy,yy,yy,yy,nn,nn,nn,nn,nn,nn,nn,nn,nn,nn]
abbrev Xjf : Array Bool := #[yy,yy,yy,yy,yy,yy,yy,yy,yy,yy,yy,yy,yy,yy,yy,yy,yy,yy,yy,yy,yy,yy,yy,yy,yy,yy,yy,yy,yy,nn,nn,yy,nn,yy,nn,nn,nn,nn,nn,nn]
abbrev Xab : Array Bool := #[yy,yy,yy,yy,yy,yy,yy,yy,yy,yy,yy,yy,yy,yy,yy,yy,yy,yy,yy,yy,yy,yy,yy,yy,yy,yy,yy,yy,yy,yy,yy,nn,nn,nn,nn,nn,nn,nn,nn,nn]
abbrev Xjg : Array Bool := #[yy,yy,yy,yy,yy,yy,yy,yy,yy,yy,yy,yy,yy,yy,yy,yy,yy,yy,yy,yy,yy,yy,yy,yy,yy,yy,yy,yy,yy,yy,nn,yy,nn,yy,nn,nn,nn,nn,nn,nn]
abbrev Xac : Array Bool := #[yy,yy,yy,yy,yy,yy,yy,yy,yy,yy,yy,yy,yy,yy,yy,yy,yy,yy,yy,yy,yy,yy,yy,yy,yy,yy,yy,yy,yy,yy,yy,yy,nn,nn,nn,nn,nn,nn,nn,nn]
abbrev Xjh : Array Bool := #[yy,yy,yy,yy,yy,yy,yy,yy,yy,yy,yy,yy,yy,yy,yy,yy,yy,yy,yy,yy,yy,yy,yy,yy,yy,yy,yy,yy,yy,yy,yy,yy,nn,yy,nn,nn,nn,nn,nn,nn]
abbrev Xad : Array Bool := #[yy,yy,yy,yy,yy,yy,yy,yy,yy,yy,yy,yy,yy,yy,yy,yy,yy,yy,yy,yy,yy,yy,yy,yy,yy,yy,yy,yy,yy,yy,yy,yy,yy,nn,nn,nn,nn,nn,nn,nn]
abbrev Tu : Array Bool := #[yy,yy,yy,yy,yy,yy,yy,yy,yy,yy,yy,yy,yy,yy,yy,yy,yy,yy,yy,yy,yy,yy,yy,yy,yy,yy,yy,yy,yy,yy,yy,yy,yy,yy,nn,nn,nn,nn,nn,nn]
abbrev Tv : Array Bool := #[yy,yy,yy,yy,yy,yy,yy,yy,yy,yy,yy,yy,yy,yy,yy,yy,yy,yy,yy,yy,yy,yy,yy,yy,yy,yy,yy,yy,yy,yy,yy,yy,yy,yy,yy,nn,nn,nn,nn,nn]
abbrev Tw : Array Bool := #[yy,yy,yy,yy,yy,yy,yy,yy,yy,yy,yy,yy,yy,yy,yy,yy,yy,yy,yy,yy,yy,yy,yy,yy,yy,yy,yy,yy,yy,yy,yy,yy,yy,yy,yy,yy,nn,nn,nn,nn]
abbrev Tx : Array Bool := #[yy,yy,yy,yy,yy,yy,yy,yy,yy,yy,yy,yy,yy,yy,yy,yy,yy,yy,yy,yy,yy,yy,yy,yy,yy,yy,yy,yy,yy,yy,yy,yy,yy,yy,yy,yy,yy,nn,nn,nn]
abbrev Ty : Array Bool := #[yy,yy,yy,yy,yy,yy,yy,yy,yy,yy,yy,yy,yy,yy,yy,yy,yy,yy,yy,yy,yy,yy,yy,yy,yy,yy,yy,yy,yy,yy,yy,yy,yy,yy,yy,yy,yy,yy,nn,nn]
abbrev Tz : Array Bool := #[yy,yy,yy,yy,yy,yy,yy,yy,yy,yy,yy,yy,yy,yy,yy,yy,yy,yy,yy,yy,yy,yy,yy,yy,yy,yy,yy,yy,yy,yy,yy,yy,yy,yy,yy,yy,yy,yy,yy,nn]
abbrev TA : Array Bool := #[yy,yy,yy,yy,yy,yy,yy,yy,yy,yy,yy,yy,yy,yy,yy,yy,yy,yy,yy,yy,yy,yy,yy,yy,yy,yy,yy,yy,yy,yy,yy,yy,yy,yy,yy,yy,yy,yy,yy,yy]
def Zb.f (k : Nat) (Xm : List (S56)) (Xh : List (S56)) (Xe : List (S76)) (Xo : Int) (Xp : Bool) (a1 : Int) : Option (Bool) := if 0 ≤ a1 then (if a1 < (Xh.length : Int) then ((Zd.f k Xe a1).bind fun Ct => (if ((Xb Xh a1).f0) = Ct then (if a1 < (Xm.length : Int) then (if ((Xb Xh a1).f0) > ((Xb Xm a1).f0) then (some true) else ((YV.f k ((Xb Xh a1).f0) ((Xb Xh a1).f1) ((Xb Xh a1).f2) ((Xb Xm a1).f0) ((Xb Xm a1).f1) ((Xb Xm a1).f2)).bind fun Xfs => (some Xfs))) else (none)) else (some false))) else (none)) else (none)
def Zb.T1 : Bool × List (List Nat × List Nat) := (true, [([], []), ([0], [0]), ([], []), ([1, 2], [1, 2]), ([3], [3]), ([4], [4]), ([], []), ([6], [6]), ([], []), ([7, 8], [7, 8]), ([5, 9], [5, 9]), ([10, 9], [10]), ([11], [11]), ([12, 11], [11, 12]), ([11], [11]), ([13, 14, 11], [11, 13, 14]), ([15, 11], [11, 15]), ([16, 11], [11, 16]), ([11], [11]), ([18, 11], [11, 18]), ([11], [11]), ([19, 20, 11], [11, 19, 20]), ([21, 11], [11, 21]), ([22, 11], [11, 22]), ([17, 23, 11], [11, 17, 23]), ([24, 11, 11], [11, 24]), ([25], [25]), ([26, 25], [25, 26]), ([25], [25]), ([27, 28, 25], [25, 27, 28]), ([29, 25], [25, 29]), ([25], [25]), ([31, 25], [25, 31]), ([25], [25]), ([32, 33, 25], [25, 32, 33]), ([34, 25], [25, 34]), ([30, 35, 25, 25], [25, 30, 35]), ([25, 36, 11], [11, 25, 36]), ([11, 37], [11, 37]), ([38, 36, 0, 1, 2, 3, 4, 5, 6, 7, 8, 9, 10, 11, 12, 13, 14, 15, 16, 17, 18, 19, 20, 21, 22, 23, 24, 25, 26, 27, 28, 29, 30, 31, 32, 33, 34, 35, 36, 37, 38], [38])])
def Zb.B1 : List Nat := [0, 1, 0, 7, 15, 31, 0, 64, 0, 448, 1023, 2047, 4095, 8191, 4095, 32767, 65535, 131071, 4095, 266239, 4095, 1839103, 3936255, 8130559, 16777215, 33554431, 67108863, 134217727, 67108863, 536870911, 1073741823, 67108863, 2214592511, 67108863, 15099494399, 32279363583, 68719476735, 137438953471, 274877906943, 549755813887]
theorem Zb.EH : Ve .any (opsOf Tryz.f48 1) = Zb.T1 := by kernel_rfl
theorem Zb.Ww : Ja Zb.T1.2 Zb.B1 = true := by kernel_rfl
set_option maxHeartbeats 8000000 in
set_option maxRecDepth 100000 in
theorem Zb.calls (k : Nat) (YI : Option Addr) (YB : Nat) (Xm : List (S56)) (YN : Option Addr) (YJ : Nat) (Xh : List (S56)) (XE : Option Addr) (XF : Nat) (Xe : List (S76)) (Xo : Int) (Xp : Bool) (a1 : Int) (r : Bool) (w : World) (hr0_0 : Kd.C k56 w YI Xm.length Xm) (hc0_0 : Xm.length ≤ YB) (hr0_1 : Kd.C k56 w YN Xh.length Xh) (hc0_1 : Xh.length ≤ YJ) (hr0_2 : Kd.C k76 w XE Xe.length Xe) (hc0_2 : Xe.length ≤ XF) (h : Zb.f k Xm Xh Xe Xo Xp a1 = some r) :
 Calls Tryz.prog 48 #[.agg #[.slice YI Xm.length YB, .slice YN Xh.length YJ, .slice XE Xe.length XF, .int .i64 Xo, .bool Xp], .int .i64 a1] w fun e w' => e = .returned (.bool r) ∧ Below w.heap.size w w' := by
 have hu31 := Tryz.underlying31; have hu56 := Tryz.underlying56; have U3 := az hr0_0; have Wq := az hc0_0; clear hr0_0 hc0_0; have VC := az hr0_1; have Ws := az hc0_1; clear hr0_1 hc0_1; have VU := az hr0_2; have DY := az hc0_2; clear hr0_2 hc0_2; have HB := az (Below.refl w.heap.size w); have H : (if 0 ≤ a1 then (if a1 < (Xh.length : Int) then ((Zd.f k Xe a1).bind fun Ct => (if ((Xb Xh a1).f0) = Ct then (if a1 < (Xm.length : Int) then (if ((Xb Xh a1).f0) > ((Xb Xm a1).f0) then (some true) else ((YV.f k ((Xb Xh a1).f0) ((Xb Xh a1).f1) ((Xb Xh a1).f2) ((Xb Xm a1).f0) ((Xb Xm a1).f1) ((Xb Xm a1).f2)).bind fun Xfs => (some Xfs))) else (none)) else (some false))) else (none)) else (none)) = some r := h; clear h
 by_cases c3 : 0 ≤ a1
 ·rw [if_pos c3] at H
  have c3b0 : decide (0 ≤ a1) = true := decide_eq_true c3; clear c3
  by_cases c4 : a1 < (Xh.length : Int)
  ·rw [if_pos c4] at H
   have c4b0 : decide (a1 < (Xh.length : Int)) = true := decide_eq_true c4; clear c4; replace H := Option.bind_eq_some_iff.mp H; obtain ⟨Ct, A50, H⟩ := H; replace H : (if ((Xb Xh a1).f0) = Ct then (if a1 < (Xm.length : Int) then (if ((Xb Xh a1).f0) > ((Xb Xm a1).f0) then (some true) else ((YV.f k ((Xb Xh a1).f0) ((Xb Xh a1).f1) ((Xb Xh a1).f2) ((Xb Xm a1).f0) ((Xb Xm a1).f1) ((Xb Xm a1).f2)).bind fun Xfs => (some Xfs))) else (none)) else (some false)) = some r := H; have A5 := az A50; clear A50
   by_cases c6 : ((Xb Xh a1).f0) = Ct
   ·rw [if_pos c6] at H
    have c6b0 : (((Xb Xh a1).f0) == Ct) = true := beq_iff_eq.mpr c6; have c6b1 : (((Xb Xh a1).f0) != Ct) = false := bne_eq_false_iff_eq.mpr c6; clear c6
    by_cases c7 : a1 < (Xm.length : Int)
    ·rw [if_pos c7] at H
     have c7b0 : decide (a1 < (Xm.length : Int)) = true := decide_eq_true c7; clear c7
     by_cases c8 : ((Xb Xh a1).f0) > ((Xb Xm a1).f0)
     ·rw [if_pos c8] at H
      have c8b0 : decide (((Xb Xm a1).f0) < ((Xb Xh a1).f0)) = true := decide_eq_true c8; clear c8; obtain rfl := Option.some.inj H
      go_enter Tryz.func48, Tryz.ntmps48
      try go_wp2_with (first | ((with_reducible refine Xn (N := 2) rfl ?_); refine Xl ?hg (N := 2) ?hd (cs := #[.slice YI Xm.length YB, .slice YN Xh.length YJ, .slice XE Xe.length XF, .int .i64 Xo, .bool Xp]) (t := 31) ?hr ?_; (case hd => rfl); (case hg => rfl); (case hr => exact zb10); intro F3 hg w9 hbox hb; have ZP := az (hbox); have Xft := az ((zb129 : w.heap.size ≤ F3)); have Xwz := Xft; replace HB := az (Xc zb1 hb); clear hb hbox hg))
      replace ZP := az (XL ZP.out); replace HB := az (wd HB.out); have Ij : 0 ≤ (a1 : Int) := of_decide_eq_true zb3; have Ik : a1 < (Xh.length : Int) := of_decide_eq_true zb3; obtain ⟨J3, SF, SG, XpM, Db, Dc, Vj, hl229_2, hi229_2⟩ := ZU VC.out a1 Ij Ik; have hw229_2 := Vj; have hw229_1 := Dc; have hw229_0 := Db
      cases XpM
      replace Db := cb HB Db; replace Dc := cb HB Dc; replace Vj := cb HB Vj; have Rf := az hi229_2; have Xkf := az hl229_2; clear hi229_2 hl229_2; replace Ij := eq_true Ij; replace Ik := eq_true Ik; have Xh0 : 0 ≤ (a1 : Int) := of_decide_eq_true zb3; have Xh1 : a1 < (Xh.length : Int) := of_decide_eq_true zb3; obtain ⟨XpN, Xxq, Xxr, Xxs, UA, UB, FW, hl231_2, hi231_2⟩ := ZU VC.out a1 Xh0 Xh1; have hw231_2 := FW; have hw231_1 := UB; have hw231_0 := UA
      obtain rfl : J3 = XpN := (by injection Xxs)
      replace UA := cb HB UA; replace UB := cb HB UB; replace FW := cb HB FW; have Xdc := az hi231_2; have Xst := az hl231_2; clear hi231_2 hl231_2; replace Xh0 := eq_true Xh0; replace Xh1 := eq_true Xh1; have ea_ := Option.some.inj (Vj.symm.trans FW)
      injection ea_ with ea_ en_ ec_
      subst ea_; subst ec_; clear en_; have Xh2 : 0 ≤ (a1 : Int) := of_decide_eq_true zb3; have Xh3 : a1 < (Xm.length : Int) := of_decide_eq_true zb3; obtain ⟨FX, Il, Im, Xxt, UC, UD, G8, hl232_2, hi232_2⟩ := ZU U3.out a1 Xh2 Xh3; have hw232_2 := G8; have hw232_1 := UD; have hw232_0 := UC
      cases Xxt
      replace UC := cb HB UC; replace UD := cb HB UD; replace G8 := cb HB G8; have Xdd := az hi232_2; have Xsu := az hl232_2; clear hi232_2 hl232_2; replace Xh2 := eq_true Xh2; replace Xh3 := eq_true Xh3; refine Y5 (n := 40) (S := fun w' => w'.cell? ⟨F3, 0, none⟩ = some (.slice (some FX) Xm.length YB) ∧ w'.cell? ⟨F3, 1, none⟩ = some (.slice (some J3) Xh.length YJ) ∧ w'.cell? ⟨F3, 2, none⟩ = some (.slice XE Xe.length XF) ∧ w'.cell? ⟨F3, 3, none⟩ = some (.int .i64 Xo) ∧ w'.cell? ⟨F3, 4, none⟩ = some (.bool Xp) ∧ w'.cell? (J3.add ((a1).toNat * 3)) = some (.int .i64 ((Xb Xh a1).f0)) ∧ w'.cell? ⟨(J3.add ((a1).toNat * 3)).block, (J3.add ((a1).toNat * 3)).off + 1, none⟩ = some (.int .i64 ((Xb Xh a1).f1)) ∧ w'.cell? ⟨(J3.add ((a1).toNat * 3)).block, (J3.add ((a1).toNat * 3)).off + 2, none⟩ = some (.slice SF ((Xb Xh a1).f2).length SG) ∧ w'.cell? (J3.add ((a1).toNat * 3)) = some (.int .i64 ((Xb Xh a1).f0)) ∧ w'.cell? ⟨(J3.add ((a1).toNat * 3)).block, (J3.add ((a1).toNat * 3)).off + 1, none⟩ = some (.int .i64 ((Xb Xh a1).f1)) ∧ w'.cell? ⟨(J3.add ((a1).toNat * 3)).block, (J3.add ((a1).toNat * 3)).off + 2, none⟩ = some (.slice SF ((Xb Xh a1).f2).length SG) ∧ w'.cell? (FX.add ((a1).toNat * 3)) = some (.int .i64 ((Xb Xm a1).f0)) ∧ w'.cell? ⟨(FX.add ((a1).toNat * 3)).block, (FX.add ((a1).toNat * 3)).off + 1, none⟩ = some (.int .i64 ((Xb Xm a1).f1)) ∧ w'.cell? ⟨(FX.add ((a1).toNat * 3)).block, (FX.add ((a1).toNat * 3)).off + 2, none⟩ = some (.slice Il ((Xb Xm a1).f2).length Im)) (ds := []) CW zb9 rfl rfl ⟨bt ZP rfl, bt ZP rfl, bt ZP rfl, bt ZP rfl, bt ZP rfl, (cb HB hw229_0 :), (cb HB hw229_1 :), (cb HB hw229_2 :), (cb HB hw231_0 :), (cb HB hw231_1 :), (cb HB hw231_2 :), (cb HB hw232_0 :), (cb HB hw232_1 :), (cb HB hw232_2 :)⟩ (fun hHeld => ?_); refine XV Zb.EH Zb.Ww (fun HT_ HW_ => ?_)
      generalize w9.drew = w10 at ZP HB Rf Xdc Xdd Db Dc Vj UA UB FW UC UD G8 hHeld ⊢; refine pu 0 5 CX HT_ ?_; refine pu 2 7 CZ HT_ ?_; refine pu 6 11 Ba HT_ ?_; refine pu 8 13 Bb HT_ ?_; refine tk 1 6 Bc HT_ HW_ hHeld ?_; refine pu 3 8 Bd HT_ ?_; refine pu 4 9 Be HT_ ?_; refine tk 5 10 Bf HT_ HW_ hHeld ?_; refine tk 7 12 Bg HT_ HW_ hHeld ?_; refine Zy (i := 9) (N := some 14) Te rfl rfl (Y6 HT_.out zb9) (by decide) (fun K hK => ?_); refine YW Tryz.func76 zb9 rfl #[.slice XE Xe.length XF, .int .i64 a1] (by rfl) rfl rfl zb2 ?_
      with_reducible refine (Zd.calls k _ _ Xe a1 Ct _ ?side1 ?side2 A5.out).mono ?_
      (case side1 => exact zb5)
      (case side2 => exact zb92)
      rintro e w' ⟨rfl, ⟨nd, rfl⟩⟩; refine ⟨_, rfl, ?_⟩; refine hK.out _ _ ⟨bt ZP rfl, bt ZP rfl, bt ZP rfl, bt ZP rfl, bt ZP rfl, (cb HB hw229_0 :), (cb HB hw229_1 :), (cb HB hw229_2 :), (cb HB hw231_0 :), (cb HB hw231_1 :), (cb HB hw231_2 :), (cb HB hw232_0 :), (cb HB hw232_1 :), (cb HB hw232_2 :)⟩ (fun hHeld => ?_); clear hK K; refine XZ (a' := ?_) ?_ ?_; rotate_left
      ·show Act.put _ (some 14) _ = _
       simp only [Act.put, List.setIfInBounds_toArray, List.set_cons_zero, List.set_cons_succ, X9, XK]
       rfl
      refine pu 10 15 Tf HT_ ?_; refine pu 11 16 Tg HT_ ?_; refine pu 12 17 Ti HT_ ?_; refine pu 14 19 QR HT_ ?_; refine pu 18 23 QS HT_ ?_; refine pu 20 25 QT HT_ ?_; refine tk 13 18 QU HT_ HW_ hHeld ?_; refine pu 15 20 QV HT_ ?_; refine pu 16 21 QW HT_ ?_; refine tk 17 22 QX HT_ HW_ hHeld ?_; refine tk 19 24 Tj HT_ HW_ hHeld ?_; refine pu 21 26 Tk HT_ ?_; refine pu 22 27 Tm HT_ ?_; refine tk 23 28 Tn HT_ HW_ hHeld ?_; refine pu 24 29 Tp HT_ ?_; refine pu 25 30 Tq HT_ ?_; refine pn 26 31 Tt HT_ ?_; refine pn 27 32 QY HT_ ?_; refine pn 28 33 QZ HT_ ?_; refine pn 29 34 Xaa HT_ ?_; refine pn 30 35 Xab HT_ ?_; refine pn 31 36 Xac HT_ ?_; refine pn 32 37 Xad HT_ ?_; refine pn 33 38 Tu HT_ ?_; refine pn 34 39 Tv HT_ ?_; refine pn 35 40 Tw HT_ ?_; refine pn 36 41 Tx HT_ ?_; refine pu 37 42 Ty HT_ ?_; refine pu 38 43 Tz HT_ ?_; refine pu 39 4 TA HT_ ?_; refine Zl (YT HT_.out zb9) ?_
      try go_wp2
      go_ret
      exact ⟨zb4, zb0⟩
     ·rw [if_neg c8] at H
      have c8b0 : decide (((Xb Xm a1).f0) < ((Xb Xh a1).f0)) = false := decide_eq_false c8; clear c8; replace H := Option.bind_eq_some_iff.mp H; obtain ⟨Xfs, Io, H⟩ := H; replace H : (some Xfs) = some r := H; have A11 := az Io; clear Io; obtain rfl := Option.some.inj H
      go_enter Tryz.func48, Tryz.ntmps48
      try go_wp2_with (first | ((with_reducible refine Xn (N := 2) rfl ?_); refine Xl ?hg (N := 2) ?hd (cs := #[.slice YI Xm.length YB, .slice YN Xh.length YJ, .slice XE Xe.length XF, .int .i64 Xo, .bool Xp]) (t := 31) ?hr ?_; (case hd => rfl); (case hg => rfl); (case hr => exact zb10); intro F3 hg w12 hbox hb; have ZP := az (hbox); have Xft := az ((zb129 : w.heap.size ≤ F3)); have Xwz := Xft; replace HB := az (Xc zb1 hb); clear hb hbox hg))
      replace ZP := az (XL ZP.out); replace HB := az (wd HB.out); have Ij : 0 ≤ (a1 : Int) := of_decide_eq_true zb3; have Ik : a1 < (Xh.length : Int) := of_decide_eq_true zb3; obtain ⟨J3, SF, SG, XpM, Db, Dc, Vj, hl229_2, hi229_2⟩ := ZU VC.out a1 Ij Ik; have hw229_2 := Vj; have hw229_1 := Dc; have hw229_0 := Db
      cases XpM
      replace Db := cb HB Db; replace Dc := cb HB Dc; replace Vj := cb HB Vj; have Rf := az hi229_2; have Xkf := az hl229_2; clear hi229_2 hl229_2; replace Ij := eq_true Ij; replace Ik := eq_true Ik; have Xh0 : 0 ≤ (a1 : Int) := of_decide_eq_true zb3; have Xh1 : a1 < (Xh.length : Int) := of_decide_eq_true zb3; obtain ⟨XpN, Xxq, Xxr, Xxs, UA, UB, FW, hl231_2, hi231_2⟩ := ZU VC.out a1 Xh0 Xh1; have hw231_2 := FW; have hw231_1 := UB; have hw231_0 := UA
      obtain rfl : J3 = XpN := (by injection Xxs)
      replace UA := cb HB UA; replace UB := cb HB UB; replace FW := cb HB FW; have Xdc := az hi231_2; have Xst := az hl231_2; clear hi231_2 hl231_2; replace Xh0 := eq_true Xh0; replace Xh1 := eq_true Xh1; have ea_ := Option.some.inj (Vj.symm.trans FW)
      injection ea_ with ea_ en_ ec_
      subst ea_; subst ec_; clear en_; have Xh2 : 0 ≤ (a1 : Int) := of_decide_eq_true zb3; have Xh3 : a1 < (Xm.length : Int) := of_decide_eq_true zb3; obtain ⟨FX, Il, Im, Xxt, UC, UD, G8, hl232_2, hi232_2⟩ := ZU U3.out a1 Xh2 Xh3; have hw232_2 := G8; have hw232_1 := UD; have hw232_0 := UC
      cases Xxt
      replace UC := cb HB UC; replace UD := cb HB UD; replace G8 := cb HB G8; have Xdd := az hi232_2; have Xsu := az hl232_2; clear hi232_2 hl232_2; replace Xh2 := eq_true Xh2; replace Xh3 := eq_true Xh3; have Xxu : 0 ≤ (a1 : Int) := of_decide_eq_true zb3; have Xxv : a1 < (Xh.length : Int) := of_decide_eq_true zb3; obtain ⟨X0f, A233_2, c233_2, e233, Oj, Ol, Rh, hl233_2, hi233_2⟩ := ZU VC.out a1 Xxu Xxv; have hw233_2 := Rh; have hw233_1 := Ol; have hw233_0 := Oj
      obtain rfl : J3 = X0f := (by injection e233)
      replace Oj := cb HB Oj; replace Ol := cb HB Ol; replace Rh := cb HB Rh; have Xkg := az hi233_2; have Xsv := az hl233_2; clear hi233_2 hl233_2; replace Xxu := eq_true Xxu; replace Xxv := eq_true Xxv; have ea_ := Option.some.inj (Vj.symm.trans Rh)
      injection ea_ with ea_ en_ ec_
      subst ea_; subst ec_; clear en_; have Xxw : 0 ≤ (a1 : Int) := of_decide_eq_true zb3; have Xxx : a1 < (Xm.length : Int) := of_decide_eq_true zb3; obtain ⟨X0g, A234_2, c234_2, e234, Om, Oo, Ri, hl234_2, hi234_2⟩ := ZU U3.out a1 Xxw Xxx; have hw234_2 := Ri; have hw234_1 := Oo; have hw234_0 := Om
      obtain rfl : FX = X0g := (by injection e234)
      replace Om := cb HB Om; replace Oo := cb HB Oo; replace Ri := cb HB Ri; have Xkh := az hi234_2; have Xsw := az hl234_2; clear hi234_2 hl234_2; replace Xxw := eq_true Xxw; replace Xxx := eq_true Xxx; have ea_ := Option.some.inj (G8.symm.trans Ri)
      injection ea_ with ea_ en_ ec_
      subst ea_; subst ec_; clear en_; refine Y5 (n := 40) (S := fun w' => w'.cell? ⟨F3, 0, none⟩ = some (.slice (some FX) Xm.length YB) ∧ w'.cell? ⟨F3, 1, none⟩ = some (.slice (some J3) Xh.length YJ) ∧ w'.cell? ⟨F3, 2, none⟩ = some (.slice XE Xe.length XF) ∧ w'.cell? ⟨F3, 3, none⟩ = some (.int .i64 Xo) ∧ w'.cell? ⟨F3, 4, none⟩ = some (.bool Xp) ∧ w'.cell? (J3.add ((a1).toNat * 3)) = some (.int .i64 ((Xb Xh a1).f0)) ∧ w'.cell? ⟨(J3.add ((a1).toNat * 3)).block, (J3.add ((a1).toNat * 3)).off + 1, none⟩ = some (.int .i64 ((Xb Xh a1).f1)) ∧ w'.cell? ⟨(J3.add ((a1).toNat * 3)).block, (J3.add ((a1).toNat * 3)).off + 2, none⟩ = some (.slice SF ((Xb Xh a1).f2).length SG) ∧ w'.cell? (J3.add ((a1).toNat * 3)) = some (.int .i64 ((Xb Xh a1).f0)) ∧ w'.cell? ⟨(J3.add ((a1).toNat * 3)).block, (J3.add ((a1).toNat * 3)).off + 1, none⟩ = some (.int .i64 ((Xb Xh a1).f1)) ∧ w'.cell? ⟨(J3.add ((a1).toNat * 3)).block, (J3.add ((a1).toNat * 3)).off + 2, none⟩ = some (.slice SF ((Xb Xh a1).f2).length SG) ∧ w'.cell? (FX.add ((a1).toNat * 3)) = some (.int .i64 ((Xb Xm a1).f0)) ∧ w'.cell? ⟨(FX.add ((a1).toNat * 3)).block, (FX.add ((a1).toNat * 3)).off + 1, none⟩ = some (.int .i64 ((Xb Xm a1).f1)) ∧ w'.cell? ⟨(FX.add ((a1).toNat * 3)).block, (FX.add ((a1).toNat * 3)).off + 2, none⟩ = some (.slice Il ((Xb Xm a1).f2).length Im) ∧ w'.cell? (J3.add ((a1).toNat * 3)) = some (.int .i64 ((Xb Xh a1).f0)) ∧ w'.cell? ⟨(J3.add ((a1).toNat * 3)).block, (J3.add ((a1).toNat * 3)).off + 1, none⟩ = some (.int .i64 ((Xb Xh a1).f1)) ∧ w'.cell? ⟨(J3.add ((a1).toNat * 3)).block, (J3.add ((a1).toNat * 3)).off + 2, none⟩ = some (.slice SF ((Xb Xh a1).f2).length SG) ∧ w'.cell? (FX.add ((a1).toNat * 3)) = some (.int .i64 ((Xb Xm a1).f0)) ∧ w'.cell? ⟨(FX.add ((a1).toNat * 3)).block, (FX.add ((a1).toNat * 3)).off + 1, none⟩ = some (.int .i64 ((Xb Xm a1).f1)) ∧ w'.cell? ⟨(FX.add ((a1).toNat * 3)).block, (FX.add ((a1).toNat * 3)).off + 2, none⟩ = some (.slice Il ((Xb Xm a1).f2).length Im)) (ds := []) CW zb9 rfl rfl ⟨bt ZP rfl, bt ZP rfl, bt ZP rfl, bt ZP rfl, bt ZP rfl, (cb HB hw229_0 :), (cb HB hw229_1 :), (cb HB hw229_2 :), (cb HB hw231_0 :), (cb HB hw231_1 :), (cb HB hw231_2 :), (cb HB hw232_0 :), (cb HB hw232_1 :), (cb HB hw232_2 :), (cb HB hw233_0 :), (cb HB hw233_1 :), (cb HB hw233_2 :), (cb HB hw234_0 :), (cb HB hw234_1 :), (cb HB hw234_2 :)⟩ (fun hHeld => ?_); refine XV Zb.EH Zb.Ww (fun HT_ HW_ => ?_)
      generalize w12.drew = w13 at ZP HB Rf Xdc Xdd Xkg Xkh Db Dc Vj UA UB FW UC UD G8 Oj Ol Rh Om Oo Ri hHeld ⊢; refine pu 0 5 CX HT_ ?_; refine pu 2 7 CZ HT_ ?_; refine pu 6 11 Ba HT_ ?_; refine pu 8 13 Bb HT_ ?_; refine tk 1 6 Bc HT_ HW_ hHeld ?_; refine pu 3 8 Bd HT_ ?_; refine pu 4 9 Be HT_ ?_; refine tk 5 10 Bf HT_ HW_ hHeld ?_; refine tk 7 12 Bg HT_ HW_ hHeld ?_; refine Zy (i := 9) (N := some 14) Te rfl rfl (Y6 HT_.out zb9) (by decide) (fun K hK => ?_); refine YW Tryz.func76 zb9 rfl #[.slice XE Xe.length XF, .int .i64 a1] (by rfl) rfl rfl zb2 ?_
      with_reducible refine (Zd.calls k _ _ Xe a1 Ct _ ?side1 ?side2 A5.out).mono ?_
      (case side1 => exact zb5)
      (case side2 => exact zb92)
      rintro e w' ⟨rfl, ⟨nd, rfl⟩⟩; refine ⟨_, rfl, ?_⟩; refine hK.out _ _ ⟨bt ZP rfl, bt ZP rfl, bt ZP rfl, bt ZP rfl, bt ZP rfl, (cb HB hw229_0 :), (cb HB hw229_1 :), (cb HB hw229_2 :), (cb HB hw231_0 :), (cb HB hw231_1 :), (cb HB hw231_2 :), (cb HB hw232_0 :), (cb HB hw232_1 :), (cb HB hw232_2 :), (cb HB hw233_0 :), (cb HB hw233_1 :), (cb HB hw233_2 :), (cb HB hw234_0 :), (cb HB hw234_1 :), (cb HB hw234_2 :)⟩ (fun hHeld => ?_); clear hK K; refine XZ (a' := ?_) ?_ ?_; rotate_left
      ·show Act.put _ (some 14) _ = _
       simp only [Act.put, List.setIfInBounds_toArray, List.set_cons_zero, List.set_cons_succ, X9, XK]
       rfl
      refine pu 10 15 Tf HT_ ?_; refine pu 11 16 Tg HT_ ?_; refine pu 12 17 Ti HT_ ?_; refine pu 14 19 QR HT_ ?_; refine pu 18 23 QS HT_ ?_; refine pu 20 25 QT HT_ ?_; refine tk 13 18 QU HT_ HW_ hHeld ?_; refine pu 15 20 QV HT_ ?_; refine pu 16 21 QW HT_ ?_; refine tk 17 22 QX HT_ HW_ hHeld ?_; refine tk 19 24 Tj HT_ HW_ hHeld ?_; refine pu 21 26 Tk HT_ ?_; refine pu 22 27 Tm HT_ ?_; refine tk 23 28 Tn HT_ HW_ hHeld ?_; refine pu 24 29 Tp HT_ ?_; refine pu 25 30 Tq HT_ ?_; refine pu 26 31 Tt HT_ ?_; refine pu 28 33 Xjc HT_ ?_; refine pu 31 36 Xjd HT_ ?_; refine pu 33 38 Xje HT_ ?_; refine tk 27 32 Xjf HT_ HW_ hHeld ?_; refine pu 29 34 Xjg HT_ ?_; refine tk 30 35 Xjh HT_ HW_ hHeld ?_; refine tk 32 37 Tu HT_ HW_ hHeld ?_; refine pu 34 39 Tv HT_ ?_; refine tk 35 40 Tw HT_ HW_ hHeld ?_; refine Zy (i := 36) (N := some 41) Tx rfl rfl (Y6 HT_.out zb9) (by decide) (fun K hK => ?_); refine YW Tryz.func46 zb9 rfl #[.agg #[.int .i64 ((Xb Xh a1).f0), .int .i64 ((Xb Xh a1).f1), .slice SF ((Xb Xh a1).f2).length SG], .agg #[.int .i64 ((Xb Xm a1).f0), .int .i64 ((Xb Xm a1).f1), .slice Il ((Xb Xm a1).f2).length Im]] (by rfl) rfl rfl zb2 ?_
      with_reducible refine (YV.calls k ((Xb Xh a1).f0) ((Xb Xh a1).f1) _ _ ((Xb Xh a1).f2) ((Xb Xm a1).f0) ((Xb Xm a1).f1) _ _ ((Xb Xm a1).f2) Xfs _ ?side1 ?side2 ?side3 ?side4 A11.out).mono ?_
      (case side1 => repeat (first | exact (Kd.Xr Xkg.out zb0) | (with_reducible refine Kd.YC ?_ _) | (with_reducible refine Kd.YE ?_ _) | (with_reducible refine Kd.Zi ?_)))
      (case side2 => exact Xsv.out)
      (case side3 => repeat (first | exact (Kd.Xr Xkh.out zb0) | (with_reducible refine Kd.YC ?_ _) | (with_reducible refine Kd.YE ?_ _) | (with_reducible refine Kd.Zi ?_)))
      (case side4 => exact Xsw.out)
      rintro e w14 ⟨rfl, hb⟩; refine ⟨_, rfl, ?_⟩; replace ZP := bb ZP (fun h => by (with_reducible repeat (first | apply bn | apply bd | apply ba)); exact h) hb; replace HB := az (Xc zb0 hb)
      (try clear hb);(try clear hb2);(try clear hk);(try clear hi)
      refine hK.out _ _ ⟨bt ZP rfl, bt ZP rfl, bt ZP rfl, bt ZP rfl, bt ZP rfl, (cb HB hw229_0 :), (cb HB hw229_1 :), (cb HB hw229_2 :), (cb HB hw231_0 :), (cb HB hw231_1 :), (cb HB hw231_2 :), (cb HB hw232_0 :), (cb HB hw232_1 :), (cb HB hw232_2 :), (cb HB hw233_0 :), (cb HB hw233_1 :), (cb HB hw233_2 :), (cb HB hw234_0 :), (cb HB hw234_1 :), (cb HB hw234_2 :)⟩ (fun hHeld => ?_); clear hK K; refine XZ (a' := ?_) ?_ ?_; rotate_left
      ·show Act.put _ (some 41) _ = _
       simp only [Act.put, List.setIfInBounds_toArray, List.set_cons_zero, List.set_cons_succ, X9, XK]
       rfl
      refine pu 37 42 Ty HT_ ?_; refine pu 38 43 Tz HT_ ?_; refine pu 39 4 TA HT_ ?_; refine Zl (YT HT_.out zb9) ?_
      try go_wp2
      go_ret
      exact ⟨zb4, zb0⟩
    ·rw [if_neg c7] at H
     exact absurd H (by simp)
   ·rw [if_neg c6] at H
    have c6b0 : (((Xb Xh a1).f0) == Ct) = false := beq_eq_false_iff_ne.mpr c6; have c6b1 : (((Xb Xh a1).f0) != Ct) = true := bne_iff_ne.mpr c6; obtain rfl := Option.some.inj H
    go_enter Tryz.func48, Tryz.ntmps48
    try go_wp2_with (first | ((with_reducible refine Xn (N := 2) rfl ?_); refine Xl ?hg (N := 2) ?hd (cs := #[.slice YI Xm.length YB, .slice YN Xh.length YJ, .slice XE Xe.length XF, .int .i64 Xo, .bool Xp]) (t := 31) ?hr ?_; (case hd => rfl); (case hg => rfl); (case hr => exact zb10); intro F3 hg w15 hbox hb; have ZP := az (hbox); have Xft := az ((zb129 : w.heap.size ≤ F3)); have Xwz := Xft; replace HB := az (Xc zb1 hb); clear hb hbox hg))
    replace ZP := az (XL ZP.out); replace HB := az (wd HB.out); have Ij : 0 ≤ (a1 : Int) := of_decide_eq_true zb3; have Ik : a1 < (Xh.length : Int) := of_decide_eq_true zb3; obtain ⟨J3, SF, SG, XpM, Db, Dc, Vj, hl229_2, hi229_2⟩ := ZU VC.out a1 Ij Ik; have hw229_2 := Vj; have hw229_1 := Dc; have hw229_0 := Db
    cases XpM
    replace Db := cb HB Db; replace Dc := cb HB Dc; replace Vj := cb HB Vj; have Rf := az hi229_2; have Xkf := az hl229_2; clear hi229_2 hl229_2; replace Ij := eq_true Ij; replace Ik := eq_true Ik; refine Y5 (n := 40) (S := fun w' => w'.cell? ⟨F3, 0, none⟩ = some (.slice YI Xm.length YB) ∧ w'.cell? ⟨F3, 1, none⟩ = some (.slice (some J3) Xh.length YJ) ∧ w'.cell? ⟨F3, 2, none⟩ = some (.slice XE Xe.length XF) ∧ w'.cell? ⟨F3, 3, none⟩ = some (.int .i64 Xo) ∧ w'.cell? ⟨F3, 4, none⟩ = some (.bool Xp) ∧ w'.cell? (J3.add ((a1).toNat * 3)) = some (.int .i64 ((Xb Xh a1).f0)) ∧ w'.cell? ⟨(J3.add ((a1).toNat * 3)).block, (J3.add ((a1).toNat * 3)).off + 1, none⟩ = some (.int .i64 ((Xb Xh a1).f1)) ∧ w'.cell? ⟨(J3.add ((a1).toNat * 3)).block, (J3.add ((a1).toNat * 3)).off + 2, none⟩ = some (.slice SF ((Xb Xh a1).f2).length SG)) (ds := []) CW zb9 rfl rfl ⟨bt ZP rfl, bt ZP rfl, bt ZP rfl, bt ZP rfl, bt ZP rfl, (cb HB hw229_0 :), (cb HB hw229_1 :), (cb HB hw229_2 :)⟩ (fun hHeld => ?_); refine XV Zb.EH Zb.Ww (fun HT_ HW_ => ?_); generalize w15.drew = w16 at ZP HB Rf Db Dc Vj hHeld ⊢; refine pu 0 5 CX HT_ ?_; refine pu 2 7 CZ HT_ ?_; refine pu 6 11 Ba HT_ ?_; refine pu 8 13 Bb HT_ ?_; refine tk 1 6 Bc HT_ HW_ hHeld ?_; refine pu 3 8 Bd HT_ ?_; refine pu 4 9 Be HT_ ?_; refine tk 5 10 Bf HT_ HW_ hHeld ?_; refine tk 7 12 Bg HT_ HW_ hHeld ?_
    refine Zy (i := 9) (N := some 14) Te rfl rfl (Y6 HT_.out zb9) (by decide) (fun K hK => ?_); refine YW Tryz.func76 zb9 rfl #[.slice XE Xe.length XF, .int .i64 a1] (by rfl) rfl rfl zb2 ?_
    with_reducible refine (Zd.calls k _ _ Xe a1 Ct _ ?side1 ?side2 A5.out).mono ?_
    (case side1 => exact zb5)
    (case side2 => exact zb92)
    rintro e w' ⟨rfl, ⟨nd, rfl⟩⟩; refine ⟨_, rfl, ?_⟩; refine hK.out _ _ ⟨bt ZP rfl, bt ZP rfl, bt ZP rfl, bt ZP rfl, bt ZP rfl, (cb HB hw229_0 :), (cb HB hw229_1 :), (cb HB hw229_2 :)⟩ (fun hHeld => ?_); clear hK K; refine XZ (a' := ?_) ?_ ?_; rotate_left
    ·show Act.put _ (some 14) _ = _
     simp only [Act.put, List.setIfInBounds_toArray, List.set_cons_zero, List.set_cons_succ, X9, XK]
     rfl
    refine pu 10 15 Tf HT_ ?_; refine pu 11 16 Tg HT_ ?_; refine pn 12 17 Ti HT_ ?_; refine pn 13 18 XiV HT_ ?_; refine pn 14 19 XiW HT_ ?_; refine pn 15 20 XiX HT_ ?_; refine pn 16 21 XiY HT_ ?_; refine pn 17 22 XiZ HT_ ?_; refine pn 18 23 Xja HT_ ?_; refine pn 19 24 Xjb HT_ ?_; refine pn 20 25 Tj HT_ ?_; refine pn 21 26 Tk HT_ ?_; refine pn 22 27 Tm HT_ ?_; refine pn 23 28 Tn HT_ ?_; refine pn 24 29 Tp HT_ ?_; refine pn 25 30 Tq HT_ ?_; refine pn 26 31 Tt HT_ ?_; refine pn 27 32 QY HT_ ?_; refine pn 28 33 QZ HT_ ?_; refine pn 29 34 Xaa HT_ ?_; refine pn 30 35 Xab HT_ ?_; refine pn 31 36 Xac HT_ ?_; refine pn 32 37 Xad HT_ ?_; refine pn 33 38 Tu HT_ ?_; refine pn 34 39 Tv HT_ ?_; refine pn 35 40 Tw HT_ ?_; refine pn 36 41 Tx HT_ ?_; refine pn 37 42 Ty HT_ ?_; refine pu 38 43 Tz HT_ ?_; refine pu 39 4 TA HT_ ?_; refine Zl (YT HT_.out zb9) ?_
    try go_wp2
    go_ret
    exact ⟨zb4, zb0⟩
  ·rw [if_neg c4] at H
   exact absurd H (by simp)
 ·rw [if_neg c3] at H
  exact absurd H (by simp)
end Go.Proofs.YtphnphmbfogmlaaGreat.Pr
