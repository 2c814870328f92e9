import Derived.Test.YtphnphmbfogmlaaGreatQFByq
import Derived.Test.YtphnphmbfogmlaaGreatQFPrK
import Derived.Test.YtphnphmbfogmlaaGreatQFSx
import Derived.Test.YtphnphmbfogmlaaGreatQFPrWith
import Derived.Test.YtphnphmbfogmlaaGreatQFPrLoad
import Derived.Test.YtphnphmbfogmlaaGreatQFPrPT
namespace Go.Proofs.YtphnphmbfogmlaaGreat.Pr
open Go.RowKit Go.PW Go.PL Go.PM
attribute [local go_sem] Y3 Y4 YN YO Ya Yb Y5 Y6
set_option linter.unusedVariables false
set_option linter.unusedSimpArgs false
abbrev KM : Array Bool := #[nn,nn,nn,nn,nn,nn,nn,nn,nn,nn,nn,nn,nn,nn,nn,nn,nn,nn,nn,nn,nn,nn,nn,nn,nn,nn,nn,nn,nn,nn,nn,nn,nn,nn,nn,nn,nn,nn,nn,nn]
abbrev KN : Array Bool := #[yy,nn,nn,nn,nn,nn,nn,nn,nn,nn,nn,nn,nn,nn,nn,nn,nn,nn,nn,nn,nn,nn,nn,nn,nn,nn,nn,nn,nn,nn,nn,nn,nn,nn,nn,nn,nn,nn,nn,nn]
abbrev KO : Array Bool := #[yy,nn,yy,nn,nn,nn,nn,nn,nn,nn,nn,nn,nn,nn,nn,nn,nn,nn,nn,nn,nn,nn,nn,nn,nn,nn,nn,nn,nn,nn,nn,nn,nn,nn,nn,nn,nn,nn,nn,nn]
abbrev KP : Array Bool := #[yy,nn,yy,nn,nn,nn,yy,nn,nn,nn,nn,nn,nn,nn,nn,nn,nn,nn,nn,nn,nn,nn,nn,nn,nn,nn,nn,nn,nn,nn,nn,nn,nn,nn,nn,nn,nn,nn,nn,nn]
abbrev KQ : Array Bool := #[yy,nn,yy,nn,nn,nn,yy,nn,yy,nn,nn,nn,nn,nn,nn,nn,nn,nn,nn,nn,nn,nn,nn,nn,nn,nn,nn,nn,nn,nn,nn,nn,nn,nn,nn,nn,nn,nn,nn,nn]
abbrev KR : Array Bool := #[yy,yy,yy,nn,nn,nn,yy,nn,yy,nn,nn,nn,nn,nn,nn,nn,nn,nn,nn,nn,nn,nn,nn,nn,nn,nn,nn,nn,nn,nn,nn,nn,nn,nn,nn,nn,nn,nn,nn,nn]
abbrev KS : Array Bool := #[yy,yy,yy,yy,nn,nn,yy,nn,yy,nn,nn,nn,nn,nn,nn,nn,nn,nn,nn,nn,nn,nn,nn,nn,nn,nn,nn,nn,nn,nn,nn,nn,nn,nn,nn,nn,nn,nn,nn,nn]
abbrev KT : Array Bool := #[yy,yy,yy,yy,yy,nn,yy,nn,yy,nn,nn,nn,nn,nn,nn,nn,nn,nn,nn,nn,nn,nn,nn,nn,nn,nn,nn,nn,nn,nn,nn,nn,nn,nn,nn,nn,nn,nn,nn,nn]
abbrev KU : Array Bool := #[yy,yy,yy,yy,yy,yy,yy,nn,yy,nn,nn,nn,nn,nn,nn,nn,nn,nn,nn,nn,nn,nn,nn,nn,nn,nn,nn,nn,nn,nn,nn,nn,nn,nn,nn,nn,nn,nn,nn,nn]
abbrev KV : Array Bool := #[yy,yy,yy,yy,yy,yy,yy,yy,yy,nn,nn,nn,nn,nn,nn,nn,nn,nn,nn,nn,nn,nn,nn,nn,nn,nn,nn,nn,nn,nn,nn,nn,nn,nn,nn,nn,nn,nn,nn,nn]
abbrev WI : Array Bool := #[yy,yy,yy,yy,yy,yy,yy,yy,yy,yy,nn,nn,nn,nn,nn,nn,nn,nn,nn,nn,nn,nn,nn,nn,nn,nn,nn,nn,nn,nn,nn,nn,nn,nn,nn,nn,nn,nn,nn,nn]
abbrev WJ : Array Bool := #[yy,yy,yy,yy,yy,yy,yy,yy,yy,yy,yy,nn,nn,nn,nn,nn,nn,nn,nn,nn,nn,nn,nn,nn,nn,nn,nn,nn,nn,nn,nn,nn,nn,nn,nn,nn,nn,nn,nn,nn]
abbrev WK : Array Bool := #[yy,yy,yy,yy,yy,yy,yy,yy,yy,yy,yy,yy,nn,nn,nn,nn,nn,nn,nn,nn,nn,nn,nn,nn,nn,nn,nn,nn,nn,nn,nn,nn,nn,nn,nn,nn,nn,nn,nn,nn]
abbrev WL : Array Bool := #[yy,yy,yy,yy,yy,yy,yy,yy,yy,yy,yy,yy,yy,nn,nn,nn,nn,nn,nn,nn,nn,nn,nn,nn,nn,nn,nn,nn,nn,nn,nn,nn,nn,nn,nn,nn,nn,nn,nn,nn]
abbrev EL : Array Bool := #[yy,yy,yy,yy,yy,yy,yy,yy,yy,yy,yy,yy,yy,nn,yy,nn,nn,nn,nn,nn,nn,nn,nn,nn,nn,nn,nn,nn,nn,nn,nn,nn,nn,nn,nn,nn,nn,nn,nn,nn]
abbrev Xf6 : Array Bool := #[yy,yy,yy,yy,yy,yy,yy,yy,yy,yy,yy,yy,yy,yy,nn,nn,nn,nn,nn,nn,nn,nn,nn,nn,nn,nn,nn,nn,nn,nn,nn,nn,nn,nn,nn,nn,nn,nn,nn,nn]
abbrev EN : Array Bool := #[yy,yy,yy,yy,yy,yy,yy,yy,yy,yy,yy,yy,yy,nn,yy,nn,nn,nn,yy,nn,nn,nn,nn,nn,nn,nn,nn,nn,nn,nn,nn,nn,nn,nn,nn,nn,nn,nn,nn,nn]
abbrev Xf7 : Array Bool := #[yy,yy,yy,yy,yy,yy,yy,yy,yy,yy,yy,yy,yy,yy,yy,nn,nn,nn,nn,nn,nn,nn,nn,nn,nn,nn,nn,nn,nn,nn,nn,nn,nn,nn,nn,nn,nn,nn,nn,nn]
abbrev EO : Array Bool := #[yy,yy,yy,yy,yy,yy,yy,yy,yy,yy,yy,yy,yy,nn,yy,nn,nn,nn,yy,nn,yy,nn,nn,nn,nn,nn,nn,nn,nn,nn,nn,nn,nn,nn,nn,nn,nn,nn,nn,nn]
abbrev Xf8 : Array Bool := #[yy,yy,yy,yy,yy,yy,yy,yy,yy,yy,yy,yy,yy,yy,yy,yy,nn,nn,nn,nn,nn,nn,nn,nn,nn,nn,nn,nn,nn,nn,nn,nn,nn,nn,nn,nn,nn,nn,nn,nn]
abbrev EP : Array Bool := #[yy,yy,yy,yy,yy,yy,yy,yy,yy,yy,yy,yy,yy,yy,yy,nn,nn,nn,yy,nn,yy,nn,nn,nn,nn,nn,nn,nn,nn,nn,nn,nn,nn,nn,nn,nn,nn,nn,nn,nn]
abbrev Xf9 : Array Bool := #[yy,yy,yy,yy,yy,yy,yy,yy,yy,yy,yy,yy,yy,yy,yy,yy,yy,nn,nn,nn,nn,nn,nn,nn,nn,nn,nn,nn,nn,nn,nn,nn,nn,nn,nn,nn,nn,nn,nn,nn]
abbrev ER : Array Bool := #[yy,yy,yy,yy,yy,yy,yy,yy,yy,yy,yy,yy,yy,yy,yy,yy,nn,nn,yy,nn,yy,nn,nn,nn,nn,nn,nn,nn,nn,nn,nn,nn,nn,nn,nn,nn,nn,nn,nn,nn]
abbrev XfA : Array Bool := #[yy,yy,yy,yy,yy,yy,yy,yy,yy,yy,yy,yy,yy,yy,yy,yy,yy,yy,nn,nn,nn,nn,nn,nn,nn,nn,nn,nn,nn,nn,nn,nn,nn,nn,nn,nn,nn,nn,nn,nn]
abbrev ES : Array Bool := #[yy,yy,yy,yy,yy,yy,yy,yy,yy,yy,yy,yy,yy,yy,yy,yy,yy,nn,yy,nn,yy,nn,nn,nn,nn,nn,nn,nn,nn,nn,nn,nn,nn,nn,nn,nn,nn,nn,nn,nn]
abbrev XfB : Array Bool := #[yy,yy,yy,yy,yy,yy,yy,yy,yy,yy,yy,yy,yy,yy,yy,yy,yy,yy,yy,nn,nn,nn,nn,nn,nn,nn,nn,nn,nn,nn,nn,nn,nn,nn,nn,nn,nn,nn,nn,nn]
abbrev ET : Array Bool := #[yy,yy,yy,yy,yy,yy,yy,yy,yy,yy,yy,yy,yy,yy,yy,yy,yy,yy,yy,nn,yy,nn,nn,nn,nn,nn,nn,nn,nn,nn,nn,nn,nn,nn,nn,nn,nn,nn,nn,nn]
abbrev XfC : Array Bool := #[yy,yy,yy,yy,yy,yy,yy,yy,yy,yy,yy,yy,yy,yy,yy,yy,yy,yy,yy,yy,nn,nn,nn,nn,nn,nn,nn,nn,nn,nn,nn,nn,nn,nn,nn,nn,nn,nn,nn,nn]
abbrev WM : Array Bool := #[yy,yy,yy,yy,yy,yy,yy,yy,yy,yy,yy,yy,yy,yy,yy,yy,yy,yy,yy,yy,yy,nn,nn,nn,nn,nn,nn,nn,nn,nn,nn,nn,nn,nn,nn,nn,nn,nn,nn,nn]
abbrev WN : Array Bool := #[yy,yy,yy,yy,yy,yy,yy,yy,yy,yy,yy,yy,yy,yy,yy,yy,yy,yy,yy,yy,yy,yy,nn,nn,nn,nn,nn,nn,nn,nn,nn,nn,nn,nn,nn,nn,nn,nn,nn,nn]
abbrev WO : Array Bool := #[yy,yy,yy,yy,yy,yy,yy,yy,yy,yy,yy,yy,yy,yy,yy,yy,yy,yy,yy,yy,yy,yy,yy,nn,nn,nn,nn,nn,nn,nn,nn,nn,nn,nn,nn,nn,nn,nn,nn,nn]
abbrev WQ : Array Bool := #[yy,yy,yy,yy,yy,yy,yy,yy,yy,yy,yy,yy,yy,yy,yy,yy,yy,yy,yy,yy,yy,yy,yy,yy,nn,nn,nn,nn,nn,nn,nn,nn,nn,nn,nn,nn,nn,nn,nn,nn]
abbrev WR : Array Bool := #[yy,yy,yy,yy,yy,yy,yy,yy,yy,yy,yy,yy,yy,yy,yy,yy,yy,yy,yy,yy,yy,yy,yy,yy,yy,nn,nn,nn,nn,nn,nn,nn,nn,nn,nn,nn,nn,nn,nn,nn]
abbrev WS : Array Bool := #[yy,yy,yy,yy,yy,yy,yy,yy,yy,yy,yy,yy,yy,yy,yy,yy,yy,yy,yy,yy,yy,yy,yy,yy,yy,yy,nn,nn,nn,nn,nn,nn,nn,nn,nn,nn,nn,nn,nn,nn]
abbrev WT : Array Bool := #[yy,yy,yy,yy,yy,yy,yy,yy,yy,yy,yy,yy,yy,yy,yy,yy,yy,yy,yy,yy,yy,yy,yy,yy,yy,yy,yy,nn,nn,nn,nn,nn,nn,nn,nn,nn,nn,nn,nn,nn]
abbrev XfD : Array Bool := #[yy,yy,yy,yy,yy,yy,yy,yy,yy,yy,yy,yy,yy,yy,yy,yy,yy,yy,yy,yy,yy,yy,yy,yy,yy,yy,yy,nn,yy,nn,nn,nn,nn,nn,nn,nn,nn,nn,nn,nn]
abbrev EU : Array Bool := #[yy,yy,yy,yy,yy,yy,yy,yy,yy,yy,yy,yy,yy,yy,yy,yy,yy,yy,yy,yy,yy,yy,yy,yy,yy,yy,yy,yy,nn,nn,nn,nn,nn,nn,nn,nn,nn,nn,nn,nn]
abbrev XfE : Array Bool := #[yy,yy,yy,yy,yy,yy,yy,yy,yy,yy,yy,yy,yy,yy,yy,yy,yy,yy,yy,yy,yy,yy,yy,yy,yy,yy,yy,nn,yy,nn,nn,yy,nn,nn,nn,nn,nn,nn,nn,nn]
abbrev EW : Array Bool := #[yy,yy,yy,yy,yy,yy,yy,yy,yy,yy,yy,yy,yy,yy,yy,yy,yy,yy,yy,yy,yy,yy,yy,yy,yy,yy,yy,yy,yy,nn,nn,nn,nn,nn,nn,nn,nn,nn,nn,nn]
abbrev XfF : Array Bool := #[yy,yy,yy,yy,yy,yy,yy,yy,yy,yy,yy,yy,yy,yy,yy,yy,yy,yy,yy,yy,yy,yy,yy,yy,yy,yy,yy,nn,yy,nn,nn,yy,nn,yy,nn,nn,nn,nn,nn,nn]
abbrev EX : Array Bool := #[yy,yy,yy,yy,yy,yy,yy,yy,yy,yy,yy,yy,yy,yy,yy,yy,yy,yy,yy,yy,yy,yy,yy,yy,yy,yy,yy,yy,yy,yy,nn,nn,nn,nn,nn,nn,nn,nn,nn,nn]
abbrev XfG : Array Bool := #[yy,yy,yy,yy,yy,yy,yy,yy,yy,yy,yy,yy,yy,yy,yy,yy,yy,yy,yy,yy,yy,yy,yy,yy,yy,yy,yy,yy,yy,nn,nn,yy,nn,yy,nn,nn,nn,nn,nn,nn]
abbrev EY : Array Bool := #[yy,yy,yy,yy,yy,yy,yy,yy,yy,yy,yy,yy,yy,yy,yy,yy,yy,yy,yy,yy,yy,yy,yy,yy,yy,yy,yy,yy,yy,yy,yy,nn,nn,nn,nn,nn,nn,nn,nn,nn]
abbrev XfH : Array Bool := #[yy,yy,yy,yy,yy,yy,yy,yy,yy,yy,yy,yy,yy,yy,yy,yy,yy,yy,yy,yy,yy,yy,yy,yy,yy,yy,yy,yy,yy,yy,nn,yy,nn,yy,nn,nn,nn,nn,nn,nn]
abbrev EZ : Array Bool := #[yy,yy,yy,yy,yy,yy,yy,yy,yy,yy,yy,yy,yy,yy,yy,yy,yy,yy,yy,yy,yy,yy,yy,yy,yy,yy,yy,yy,yy,yy,yy,yy,nn,nn,nn,nn,nn,nn,nn,nn]
abbrev XfI : Array Bool := #[yy,yy,yy,yy,yy,yy,yy,yy,yy,yy,yy,yy,yy,yy,yy,yy,yy,yy,yy,yy,yy,yy,yy,yy,yy,yy,yy,yy,yy,yy,yy,yy,nn,yy,nn,nn,nn,nn,nn,nn]
abbrev Oa : Array Bool := #[yy,yy,yy,yy,yy,yy,yy,yy,yy,yy,yy,yy,yy,yy,yy,yy,yy,yy,yy,yy,yy,yy,yy,yy,yy,yy,yy,yy,yy,yy,yy,yy,yy,nn,nn,nn,nn,nn,nn,nn]
abbrev WU : Array Bool := #[yy,yy,yy,yy,yy,yy,yy,yy,yy,yy,yy,yy,yy,yy,yy,yy,yy,yy,yy,yy,yy,yy,yy,yy,yy,yy,yy,yy,yy,yy,yy,yy,yy,yy,nn,nn,nn,nn,nn,nn]
abbrev WV : Array Bool := #[yy,yy,yy,yy,yy,yy,yy,yy,yy,yy,yy,yy,yy,yy,yy,yy,yy,yy,yy,yy,yy,yy,yy,yy,yy,yy,yy,yy,yy,yy,yy,yy,yy,yy,yy,nn,nn,nn,nn,nn]
abbrev WW : Array Bool := #[yy,yy,yy,yy,yy,yy,yy,yy,yy,yy,yy,yy,yy,yy,yy,yy,yy,yy,yy,yy,yy,yy,yy,yy,yy,yy,yy,yy,yy,yy,yy,yy,yy,yy,yy,yy,nn,nn,nn,nn]
abbrev WX : Array Bool := #[yy,yy,yy,yy,yy,yy,yy,yy,yy,yy,yy,yy,yy,yy,yy,yy,yy,yy,yy,yy,yy,yy,yy,yy,yy,yy,yy,yy,yy,yy,yy,yy,yy,yy,yy,yy,yy,nn,nn,nn]
abbrev WY : Array Bool := #[yy,yy,yy,yy,yy,yy,yy,yy,yy,yy,yy,yy,yy,yy,yy,yy,yy,yy,yy,yy,yy,yy,yy,yy,yy,yy,yy,yy,yy,yy,yy,yy,yy,yy,yy,yy,yy,yy,nn,nn]
abbrev WZ : Array Bool := #[yy,yy,yy,yy,yy,yy,yy,yy,yy,yy,yy,yy,yy,yy,yy,yy,yy,yy,yy,yy,yy,yy,yy,yy,yy,yy,yy,yy,yy,yy,yy,yy,yy,yy,yy,yy,yy,yy,yy,nn]
abbrev Pb : Array Bool := #[yy,yy,yy,yy,yy,yy,yy,yy,yy,yy,yy,yy,yy,yy,yy,yy,yy,yy,yy,yy,yy,yy,yy,yy,yy,yy,yy,yy,yy,yy,yy,yy,yy,yy,yy,yy,yy,yy,yy,yy]
def YJ.f (k : Nat) (Yc : List (S56)) (XM : List (S56)) (Xm : List (S76)) (Yu : Int) (Yt : Bool) (a1 : Int) : Option (Bool) := if 0 ≤ a1 then (if a1 < (XM.length : Int) then ((YK.f k Xm a1).bind fun Kn => (if ((Xb XM a1).f0) = Kn then (if a1 < (Yc.length : Int) then (if ((Xb XM a1).f0) > ((Xb Yc a1).f0) then (some true) else ((YG.f k ((Xb XM a1).f0) ((Xb XM a1).f1) ((Xb XM a1).f2) ((Xb Yc a1).f0) ((Xb Yc a1).f1) ((Xb Yc a1).f2)).bind fun XbP => (some XbP))) else (none)) else (some false))) else (none)) else (none)
def YJ.T1 : Bool × List (List Nat × List Nat) := (true, [([], []), ([0], [0]), ([], []), ([1, 2], [1, 2]), ([3], [3]), ([4], [4]), ([], []), ([6], [6]), ([], []), ([7, 8], [7, 8]), ([5, 9], [5, 9]), ([10, 9], [10]), ([11], [11]), ([12, 11], [11, 12]), ([11], [11]), ([13, 14, 11], [11, 13, 14]), ([15, 11], [11, 15]), ([16, 11], [11, 16]), ([11], [11]), ([18, 11], [11, 18]), ([11], [11]), ([19, 20, 11], [11, 19, 20]), ([21, 11], [11, 21]), ([22, 11], [11, 22]), ([17, 23, 11], [11, 17, 23]), ([24, 11, 11], [11, 24]), ([25], [25]), ([26, 25], [25, 26]), ([25], [25]), ([27, 28, 25], [25, 27, 28]), ([29, 25], [25, 29]), ([25], [25]), ([31, 25], [25, 31]), ([25], [25]), ([32, 33, 25], [25, 32, 33]), ([34, 25], [25, 34]), ([30, 35, 25, 25], [25, 30, 35]), ([25, 36, 11], [11, 25, 36]), ([11, 37], [11, 37]), ([38, 36, 0, 1, 2, 3, 4, 5, 6, 7, 8, 9, 10, 11, 12, 13, 14, 15, 16, 17, 18, 19, 20, 21, 22, 23, 24, 25, 26, 27, 28, 29, 30, 31, 32, 33, 34, 35, 36, 37, 38], [38])])
def YJ.B1 : List Nat := [0, 1, 0, 7, 15, 31, 0, 64, 0, 448, 1023, 2047, 4095, 8191, 4095, 32767, 65535, 131071, 4095, 266239, 4095, 1839103, 3936255, 8130559, 16777215, 33554431, 67108863, 134217727, 67108863, 536870911, 1073741823, 67108863, 2214592511, 67108863, 15099494399, 32279363583, 68719476735, 137438953471, 274877906943, 549755813887]
theorem YJ.TH : JH .any (opsOf Tryz.f48 1) = YJ.T1 := by kernel_rfl
theorem YJ.MQ : Z4 YJ.T1.2 YJ.B1 = true := by kernel_rfl
set_option maxHeartbeats 8000000 in
set_option maxRecDepth 100000 in
theorem YJ.calls (k : Nat) (Je : Option Addr) (Ja : Nat) (Yc : List (S56)) (J9 : Option Addr) (Jy : Nat) (XM : List (S56)) (Yg : Option Addr) (Yh : Nat) (Xm : List (S76)) (Yu : Int) (Yt : Bool) (a1 : Int) (r : Bool) (w : World) (hr0_0 : Kd.C k56 w Je Yc.length Yc) (hc0_0 : Yc.length ≤ Ja) (hr0_1 : Kd.C k56 w J9 XM.length XM) (hc0_1 : XM.length ≤ Jy) (hr0_2 : Kd.C k76 w Yg Xm.length Xm) (hc0_2 : Xm.length ≤ Yh) (h : YJ.f k Yc XM Xm Yu Yt a1 = some r) :
 Calls Tryz.prog 48 #[.agg #[.slice Je Yc.length Ja, .slice J9 XM.length Jy, .slice Yg Xm.length Yh, .int .i64 Yu, .bool Yt], .int .i64 a1] w fun e w' => e = .returned (.bool r) ∧ Below w.heap.size w w' := by
 have hu31 := Tryz.underlying31; have hu56 := Tryz.underlying56; have OG := az hr0_0; have ML := az hc0_0; clear hr0_0 hc0_0; have Pf := az hr0_1; have SH := az hc0_1; clear hr0_1 hc0_1; have U6 := az hr0_2; have JI := az hc0_2; clear hr0_2 hc0_2; have HB := az (Below.refl w.heap.size w); have H : (if 0 ≤ a1 then (if a1 < (XM.length : Int) then ((YK.f k Xm a1).bind fun Kn => (if ((Xb XM a1).f0) = Kn then (if a1 < (Yc.length : Int) then (if ((Xb XM a1).f0) > ((Xb Yc a1).f0) then (some true) else ((YG.f k ((Xb XM a1).f0) ((Xb XM a1).f1) ((Xb XM a1).f2) ((Xb Yc a1).f0) ((Xb Yc a1).f1) ((Xb Yc a1).f2)).bind fun XbP => (some XbP))) else (none)) else (some false))) else (none)) else (none)) = some r := h; clear h
 by_cases c3 : 0 ≤ a1
 ·rw [if_pos c3] at H
  have c3b0 : decide (0 ≤ a1) = true := decide_eq_true c3; clear c3
  by_cases c4 : a1 < (XM.length : Int)
  ·rw [if_pos c4] at H
   have c4b0 : decide (a1 < (XM.length : Int)) = true := decide_eq_true c4; clear c4; replace H := Option.bind_eq_some_iff.mp H; obtain ⟨Kn, A50, H⟩ := H; replace H : (if ((Xb XM a1).f0) = Kn then (if a1 < (Yc.length : Int) then (if ((Xb XM a1).f0) > ((Xb Yc a1).f0) then (some true) else ((YG.f k ((Xb XM a1).f0) ((Xb XM a1).f1) ((Xb XM a1).f2) ((Xb Yc a1).f0) ((Xb Yc a1).f1) ((Xb Yc a1).f2)).bind fun XbP => (some XbP))) else (none)) else (some false)) = some r := H; have A5 := az A50; clear A50
   by_cases c6 : ((Xb XM a1).f0) = Kn
   ·rw [if_pos c6] at H
    have c6b0 : (((Xb XM a1).f0) == Kn) = true := beq_iff_eq.mpr c6; have c6b1 : (((Xb XM a1).f0) != Kn) = false := bne_eq_false_iff_eq.mpr c6; clear c6
    by_cases c7 : a1 < (Yc.length : Int)
    ·rw [if_pos c7] at H
     have c7b0 : decide (a1 < (Yc.length : Int)) = true := decide_eq_true c7; clear c7
     by_cases c8 : ((Xb XM a1).f0) > ((Xb Yc a1).f0)
     ·rw [if_pos c8] at H
      have c8b0 : decide (((Xb Yc a1).f0) < ((Xb XM a1).f0)) = true := decide_eq_true c8; clear c8; obtain rfl := Option.some.inj H
      go_enter Tryz.func48, Tryz.ntmps48
      try go_wp2_with (first | ((with_reducible refine Xp (N := 2) rfl ?_); refine Xn ?hg (N := 2) ?hd (cs := #[.slice Je Yc.length Ja, .slice J9 XM.length Jy, .slice Yg Xm.length Yh, .int .i64 Yu, .bool Yt]) (t := 31) ?hr ?_; (case hd => rfl); (case hg => rfl); (case hr => exact zb7); intro Dq hg w9 hbox hb; have Z6 := az (hbox); have XbQ := az ((zb95 : w.heap.size ≤ Dq)); have XrW := XbQ; replace HB := az (Xc zb0 hb); clear hb hbox hg))
      replace Z6 := az (XB Z6.out); replace HB := az (wd HB.out); have Cq : 0 ≤ (a1 : Int) := of_decide_eq_true zb3; have Cr : a1 < (XM.length : Int) := of_decide_eq_true zb3; obtain ⟨Jg, Ms, Mt, XlH, VG, VH, JV, hl229_2, hi229_2⟩ := Zl Pf.out a1 Cq Cr; have hw229_2 := JV; have hw229_1 := VH; have hw229_0 := VG
      cases XlH
      replace VG := cb HB VG; replace VH := cb HB VH; replace JV := cb HB JV; have Pj := az hi229_2; have Xg2 := az hl229_2; clear hi229_2 hl229_2; replace Cq := eq_true Cq; replace Cr := eq_true Cr; have XdY : 0 ≤ (a1 : Int) := of_decide_eq_true zb3; have XdZ : a1 < (XM.length : Int) := of_decide_eq_true zb3; obtain ⟨XlI, Xs5, Xs6, Xs7, Ga, Gb, DK, hl231_2, hi231_2⟩ := Zl Pf.out a1 XdY XdZ; have hw231_2 := DK; have hw231_1 := Gb; have hw231_0 := Ga
      obtain rfl : Jg = XlI := (by injection Xs7)
      replace Ga := cb HB Ga; replace Gb := cb HB Gb; replace DK := cb HB DK; have QZ := az hi231_2; have XnL := az hl231_2; clear hi231_2 hl231_2; replace XdY := eq_true XdY; replace XdZ := eq_true XdZ; have ea_ := Option.some.inj (JV.symm.trans DK)
      injection ea_ with ea_ en_ ec_
      subst ea_; subst ec_; clear en_; have Xea : 0 ≤ (a1 : Int) := of_decide_eq_true zb3; have Xeb : a1 < (Yc.length : Int) := of_decide_eq_true zb3; obtain ⟨DL, Cs, Ct, Xs8, Gc, Gd, Fh, hl232_2, hi232_2⟩ := Zl OG.out a1 Xea Xeb; have hw232_2 := Fh; have hw232_1 := Gd; have hw232_0 := Gc
      cases Xs8
      replace Gc := cb HB Gc; replace Gd := cb HB Gd; replace Fh := cb HB Fh; have Xaa := az hi232_2; have XnM := az hl232_2; clear hi232_2 hl232_2; replace Xea := eq_true Xea; replace Xeb := eq_true Xeb; refine Yw (n := 40) (S := fun w' => w'.cell? ⟨Dq, 0, none⟩ = some (.slice (some DL) Yc.length Ja) ∧ w'.cell? ⟨Dq, 1, none⟩ = some (.slice (some Jg) XM.length Jy) ∧ w'.cell? ⟨Dq, 2, none⟩ = some (.slice Yg Xm.length Yh) ∧ w'.cell? ⟨Dq, 3, none⟩ = some (.int .i64 Yu) ∧ w'.cell? ⟨Dq, 4, none⟩ = some (.bool Yt) ∧ w'.cell? (Jg.add ((a1).toNat * 3)) = some (.int .i64 ((Xb XM a1).f0)) ∧ w'.cell? ⟨(Jg.add ((a1).toNat * 3)).block, (Jg.add ((a1).toNat * 3)).off + 1, none⟩ = some (.int .i64 ((Xb XM a1).f1)) ∧ w'.cell? ⟨(Jg.add ((a1).toNat * 3)).block, (Jg.add ((a1).toNat * 3)).off + 2, none⟩ = some (.slice Ms ((Xb XM a1).f2).length Mt) ∧ w'.cell? (Jg.add ((a1).toNat * 3)) = some (.int .i64 ((Xb XM a1).f0)) ∧ w'.cell? ⟨(Jg.add ((a1).toNat * 3)).block, (Jg.add ((a1).toNat * 3)).off + 1, none⟩ = some (.int .i64 ((Xb XM a1).f1)) ∧ w'.cell? ⟨(Jg.add ((a1).toNat * 3)).block, (Jg.add ((a1).toNat * 3)).off + 2, none⟩ = some (.slice Ms ((Xb XM a1).f2).length Mt) ∧ w'.cell? (DL.add ((a1).toNat * 3)) = some (.int .i64 ((Xb Yc a1).f0)) ∧ w'.cell? ⟨(DL.add ((a1).toNat * 3)).block, (DL.add ((a1).toNat * 3)).off + 1, none⟩ = some (.int .i64 ((Xb Yc a1).f1)) ∧ w'.cell? ⟨(DL.add ((a1).toNat * 3)).block, (DL.add ((a1).toNat * 3)).off + 2, none⟩ = some (.slice Cs ((Xb Yc a1).f2).length Ct)) (ds := []) KM zb6 rfl rfl ⟨bt Z6 rfl, bt Z6 rfl, bt Z6 rfl, bt Z6 rfl, bt Z6 rfl, (cb HB hw229_0 :), (cb HB hw229_1 :), (cb HB hw229_2 :), (cb HB hw231_0 :), (cb HB hw231_1 :), (cb HB hw231_2 :), (cb HB hw232_0 :), (cb HB hw232_1 :), (cb HB hw232_2 :)⟩ (fun hHeld => ?_); refine XH YJ.TH YJ.MQ (fun HT_ HW_ => ?_)
      generalize w9.drew = w10 at Z6 HB Pj QZ Xaa VG VH JV Ga Gb DK Gc Gd Fh hHeld ⊢; refine pu 0 5 KN HT_ ?_; refine pu 2 7 KO HT_ ?_; refine pu 6 11 KP HT_ ?_; refine pu 8 13 KQ HT_ ?_; refine tk 1 6 KR HT_ HW_ hHeld ?_; refine pu 3 8 KS HT_ ?_; refine pu 4 9 KT HT_ ?_; refine tk 5 10 KU HT_ HW_ hHeld ?_; refine tk 7 12 KV HT_ HW_ hHeld ?_; refine Zj (i := 9) (N := some 14) WI rfl rfl (Yl HT_.out zb6) (by decide) (fun K hK => ?_); refine YI Tryz.func76 zb6 rfl #[.slice Yg Xm.length Yh, .int .i64 a1] (by rfl) rfl rfl zb2 ?_
      with_reducible refine (YK.calls k _ _ Xm a1 Kn _ ?side1 ?side2 A5.out).mono ?_
      (case side1 => exact zb8)
      (case side2 => exact JI.out)
      rintro e w' ⟨rfl, ⟨nd, rfl⟩⟩; refine ⟨_, rfl, ?_⟩; refine hK.out _ _ ⟨bt Z6 rfl, bt Z6 rfl, bt Z6 rfl, bt Z6 rfl, bt Z6 rfl, (cb HB hw229_0 :), (cb HB hw229_1 :), (cb HB hw229_2 :), (cb HB hw231_0 :), (cb HB hw231_1 :), (cb HB hw231_2 :), (cb HB hw232_0 :), (cb HB hw232_1 :), (cb HB hw232_2 :)⟩ (fun hHeld => ?_); clear hK K; refine XQ (a' := ?_) ?_ ?_; rotate_left
      ·show Act.put _ (some 14) _ = _
       simp only [Act.put, List.setIfInBounds_toArray, List.set_cons_zero, List.set_cons_succ, Xz, XF]
       rfl
      refine pu 10 15 WJ HT_ ?_; refine pu 11 16 WK HT_ ?_; refine pu 12 17 WL HT_ ?_; refine pu 14 19 EL HT_ ?_; refine pu 18 23 EN HT_ ?_; refine pu 20 25 EO HT_ ?_; refine tk 13 18 EP HT_ HW_ hHeld ?_; refine pu 15 20 ER HT_ ?_; refine pu 16 21 ES HT_ ?_; refine tk 17 22 ET HT_ HW_ hHeld ?_; refine tk 19 24 WM HT_ HW_ hHeld ?_; refine pu 21 26 WN HT_ ?_; refine pu 22 27 WO HT_ ?_; refine tk 23 28 WQ HT_ HW_ hHeld ?_; refine pu 24 29 WR HT_ ?_; refine pu 25 30 WS HT_ ?_; refine pn 26 31 WT HT_ ?_; refine pn 27 32 EU HT_ ?_; refine pn 28 33 EW HT_ ?_; refine pn 29 34 EX HT_ ?_; refine pn 30 35 EY HT_ ?_; refine pn 31 36 EZ HT_ ?_; refine pn 32 37 Oa HT_ ?_; refine pn 33 38 WU HT_ ?_; refine pn 34 39 WV HT_ ?_; refine pn 35 40 WW HT_ ?_; refine pn 36 41 WX HT_ ?_; refine pu 37 42 WY HT_ ?_; refine pu 38 43 WZ HT_ ?_; refine pu 39 4 Pb HT_ ?_; refine YX (YA HT_.out zb6) ?_
      try go_wp2
      go_ret
      exact ⟨zb4, zb1⟩
     ·rw [if_neg c8] at H
      have c8b0 : decide (((Xb Yc a1).f0) < ((Xb XM a1).f0)) = false := decide_eq_false c8; clear c8; replace H := Option.bind_eq_some_iff.mp H; obtain ⟨XbP, XlJ, H⟩ := H; replace H : (some XbP) = some r := H; have A11 := az XlJ; clear XlJ; obtain rfl := Option.some.inj H
      go_enter Tryz.func48, Tryz.ntmps48
      try go_wp2_with (first | ((with_reducible refine Xp (N := 2) rfl ?_); refine Xn ?hg (N := 2) ?hd (cs := #[.slice Je Yc.length Ja, .slice J9 XM.length Jy, .slice Yg Xm.length Yh, .int .i64 Yu, .bool Yt]) (t := 31) ?hr ?_; (case hd => rfl); (case hg => rfl); (case hr => exact zb7); intro Dq hg w12 hbox hb; have Z6 := az (hbox); have XbQ := az ((zb95 : w.heap.size ≤ Dq)); have XrW := XbQ; replace HB := az (Xc zb0 hb); clear hb hbox hg))
      replace Z6 := az (XB Z6.out); replace HB := az (wd HB.out); have Cq : 0 ≤ (a1 : Int) := of_decide_eq_true zb3; have Cr : a1 < (XM.length : Int) := of_decide_eq_true zb3; obtain ⟨Jg, Ms, Mt, XlH, VG, VH, JV, hl229_2, hi229_2⟩ := Zl Pf.out a1 Cq Cr; have hw229_2 := JV; have hw229_1 := VH; have hw229_0 := VG
      cases XlH
      replace VG := cb HB VG; replace VH := cb HB VH; replace JV := cb HB JV; have Pj := az hi229_2; have Xg2 := az hl229_2; clear hi229_2 hl229_2; replace Cq := eq_true Cq; replace Cr := eq_true Cr; have XdY : 0 ≤ (a1 : Int) := of_decide_eq_true zb3; have XdZ : a1 < (XM.length : Int) := of_decide_eq_true zb3; obtain ⟨XlI, Xs5, Xs6, Xs7, Ga, Gb, DK, hl231_2, hi231_2⟩ := Zl Pf.out a1 XdY XdZ; have hw231_2 := DK; have hw231_1 := Gb; have hw231_0 := Ga
      obtain rfl : Jg = XlI := (by injection Xs7)
      replace Ga := cb HB Ga; replace Gb := cb HB Gb; replace DK := cb HB DK; have QZ := az hi231_2; have XnL := az hl231_2; clear hi231_2 hl231_2; replace XdY := eq_true XdY; replace XdZ := eq_true XdZ; have ea_ := Option.some.inj (JV.symm.trans DK)
      injection ea_ with ea_ en_ ec_
      subst ea_; subst ec_; clear en_; have Xea : 0 ≤ (a1 : Int) := of_decide_eq_true zb3; have Xeb : a1 < (Yc.length : Int) := of_decide_eq_true zb3; obtain ⟨DL, Cs, Ct, Xs8, Gc, Gd, Fh, hl232_2, hi232_2⟩ := Zl OG.out a1 Xea Xeb; have hw232_2 := Fh; have hw232_1 := Gd; have hw232_0 := Gc
      cases Xs8
      replace Gc := cb HB Gc; replace Gd := cb HB Gd; replace Fh := cb HB Fh; have Xaa := az hi232_2; have XnM := az hl232_2; clear hi232_2 hl232_2; replace Xea := eq_true Xea; replace Xeb := eq_true Xeb; have Xs9 : 0 ≤ (a1 : Int) := of_decide_eq_true zb3; have XsA : a1 < (XM.length : Int) := of_decide_eq_true zb3; obtain ⟨Xvh, A233_2, c233_2, e233, TW, TY, Pk, hl233_2, hi233_2⟩ := Zl Pf.out a1 Xs9 XsA; have hw233_2 := Pk; have hw233_1 := TY; have hw233_0 := TW
      obtain rfl : Jg = Xvh := (by injection e233)
      replace TW := cb HB TW; replace TY := cb HB TY; replace Pk := cb HB Pk; have Xg3 := az hi233_2; have XnN := az hl233_2; clear hi233_2 hl233_2; replace Xs9 := eq_true Xs9; replace XsA := eq_true XsA; have ea_ := Option.some.inj (JV.symm.trans Pk)
      injection ea_ with ea_ en_ ec_
      subst ea_; subst ec_; clear en_; have XsB : 0 ≤ (a1 : Int) := of_decide_eq_true zb3; have XsC : a1 < (Yc.length : Int) := of_decide_eq_true zb3; obtain ⟨Xvi, A234_2, c234_2, e234, TZ, Ra, Pm, hl234_2, hi234_2⟩ := Zl OG.out a1 XsB XsC; have hw234_2 := Pm; have hw234_1 := Ra; have hw234_0 := TZ
      obtain rfl : DL = Xvi := (by injection e234)
      replace TZ := cb HB TZ; replace Ra := cb HB Ra; replace Pm := cb HB Pm; have Xg4 := az hi234_2; have XnO := az hl234_2; clear hi234_2 hl234_2; replace XsB := eq_true XsB; replace XsC := eq_true XsC; have ea_ := Option.some.inj (Fh.symm.trans Pm)
      injection ea_ with ea_ en_ ec_
      subst ea_; subst ec_; clear en_; refine Yw (n := 40) (S := fun w' => w'.cell? ⟨Dq, 0, none⟩ = some (.slice (some DL) Yc.length Ja) ∧ w'.cell? ⟨Dq, 1, none⟩ = some (.slice (some Jg) XM.length Jy) ∧ w'.cell? ⟨Dq, 2, none⟩ = some (.slice Yg Xm.length Yh) ∧ w'.cell? ⟨Dq, 3, none⟩ = some (.int .i64 Yu) ∧ w'.cell? ⟨Dq, 4, none⟩ = some (.bool Yt) ∧ w'.cell? (Jg.add ((a1).toNat * 3)) = some (.int .i64 ((Xb XM a1).f0)) ∧ w'.cell? ⟨(Jg.add ((a1).toNat * 3)).block, (Jg.add ((a1).toNat * 3)).off + 1, none⟩ = some (.int .i64 ((Xb XM a1).f1)) ∧ w'.cell? ⟨(Jg.add ((a1).toNat * 3)).block, (Jg.add ((a1).toNat * 3)).off + 2, none⟩ = some (.slice Ms ((Xb XM a1).f2).length Mt) ∧ w'.cell? (Jg.add ((a1).toNat * 3)) = some (.int .i64 ((Xb XM a1).f0)) ∧ w'.cell? ⟨(Jg.add ((a1).toNat * 3)).block, (Jg.add ((a1).toNat * 3)).off + 1, none⟩ = some (.int .i64 ((Xb XM a1).f1)) ∧ w'.cell? ⟨(Jg.add ((a1).toNat * 3)).block, (Jg.add ((a1).toNat * 3)).off + 2, none⟩ = some (.slice Ms ((Xb XM a1).f2).length Mt) ∧ w'.cell? (DL.add ((a1).toNat * 3)) = some (.int .i64 ((Xb Yc a1).f0)) ∧ w'.cell? ⟨(DL.add ((a1).toNat * 3)).block, (DL.add ((a1).toNat * 3)).off + 1, none⟩ = some (.int .i64 ((Xb Yc a1).f1)) ∧ w'.cell? ⟨(DL.add ((a1).toNat * 3)).block, (DL.add ((a1).toNat * 3)).off + 2, none⟩ = some (.slice Cs ((Xb Yc a1).f2).length Ct) ∧ w'.cell? (Jg.add ((a1).toNat * 3)) = some (.int .i64 ((Xb XM a1).f0)) ∧ w'.cell? ⟨(Jg.add ((a1).toNat * 3)).block, (Jg.add ((a1).toNat * 3)).off + 1, none⟩ = some (.int .i64 ((Xb XM a1).f1)) ∧ w'.cell? ⟨(Jg.add ((a1).toNat * 3)).block, (Jg.add ((a1).toNat * 3)).off + 2, none⟩ = some (.slice Ms ((Xb XM a1).f2).length Mt) ∧ w'.cell? (DL.add ((a1).toNat * 3)) = some (.int .i64 ((Xb Yc a1).f0)) ∧ w'.cell? ⟨(DL.add ((a1).toNat * 3)).block, (DL.add ((a1).toNat * 3)).off + 1, none⟩ = some (.int .i64 ((Xb Yc a1).f1)) ∧ w'.cell? ⟨(DL.add ((a1).toNat * 3)).block, (DL.add ((a1).toNat * 3)).off + 2, none⟩ = some (.slice Cs ((Xb Yc a1).f2).length Ct)) (ds := []) KM zb6 rfl rfl ⟨bt Z6 rfl, bt Z6 rfl, bt Z6 rfl, bt Z6 rfl, bt Z6 rfl, (cb HB hw229_0 :), (cb HB hw229_1 :), (cb HB hw229_2 :), (cb HB hw231_0 :), (cb HB hw231_1 :), (cb HB hw231_2 :), (cb HB hw232_0 :), (cb HB hw232_1 :), (cb HB hw232_2 :), (cb HB hw233_0 :), (cb HB hw233_1 :), (cb HB hw233_2 :), (cb HB hw234_0 :), (cb HB hw234_1 :), (cb HB hw234_2 :)⟩ (fun hHeld => ?_); refine XH YJ.TH YJ.MQ (fun HT_ HW_ => ?_)
      generalize w12.drew = w13 at Z6 HB Pj QZ Xaa Xg3 Xg4 VG VH JV Ga Gb DK Gc Gd Fh TW TY Pk TZ Ra Pm hHeld ⊢; refine pu 0 5 KN HT_ ?_; refine pu 2 7 KO HT_ ?_; refine pu 6 11 KP HT_ ?_; refine pu 8 13 KQ HT_ ?_; refine tk 1 6 KR HT_ HW_ hHeld ?_; refine pu 3 8 KS HT_ ?_; refine pu 4 9 KT HT_ ?_; refine tk 5 10 KU HT_ HW_ hHeld ?_; refine tk 7 12 KV HT_ HW_ hHeld ?_; refine Zj (i := 9) (N := some 14) WI rfl rfl (Yl HT_.out zb6) (by decide) (fun K hK => ?_); refine YI Tryz.func76 zb6 rfl #[.slice Yg Xm.length Yh, .int .i64 a1] (by rfl) rfl rfl zb2 ?_
      with_reducible refine (YK.calls k _ _ Xm a1 Kn _ ?side1 ?side2 A5.out).mono ?_
      (case side1 => exact zb8)
      (case side2 => exact JI.out)
      rintro e w' ⟨rfl, ⟨nd, rfl⟩⟩; refine ⟨_, rfl, ?_⟩; refine hK.out _ _ ⟨bt Z6 rfl, bt Z6 rfl, bt Z6 rfl, bt Z6 rfl, bt Z6 rfl, (cb HB hw229_0 :), (cb HB hw229_1 :), (cb HB hw229_2 :), (cb HB hw231_0 :), (cb HB hw231_1 :), (cb HB hw231_2 :), (cb HB hw232_0 :), (cb HB hw232_1 :), (cb HB hw232_2 :), (cb HB hw233_0 :), (cb HB hw233_1 :), (cb HB hw233_2 :), (cb HB hw234_0 :), (cb HB hw234_1 :), (cb HB hw234_2 :)⟩ (fun hHeld => ?_); clear hK K; refine XQ (a' := ?_) ?_ ?_; rotate_left
      ·show Act.put _ (some 14) _ = _
       simp only [Act.put, List.setIfInBounds_toArray, List.set_cons_zero, List.set_cons_succ, Xz, XF]
       rfl
      refine pu 10 15 WJ HT_ ?_; refine pu 11 16 WK HT_ ?_; refine pu 12 17 WL HT_ ?_; refine pu 14 19 EL HT_ ?_; refine pu 18 23 EN HT_ ?_; refine pu 20 25 EO HT_ ?_; refine tk 13 18 EP HT_ HW_ hHeld ?_; refine pu 15 20 ER HT_ ?_; refine pu 16 21 ES HT_ ?_; refine tk 17 22 ET HT_ HW_ hHeld ?_; refine tk 19 24 WM HT_ HW_ hHeld ?_; refine pu 21 26 WN HT_ ?_; refine pu 22 27 WO HT_ ?_; refine tk 23 28 WQ HT_ HW_ hHeld ?_; refine pu 24 29 WR HT_ ?_; refine pu 25 30 WS HT_ ?_; refine pu 26 31 WT HT_ ?_; refine pu 28 33 XfD HT_ ?_; refine pu 31 36 XfE HT_ ?_; refine pu 33 38 XfF HT_ ?_; refine tk 27 32 XfG HT_ HW_ hHeld ?_; refine pu 29 34 XfH HT_ ?_; refine tk 30 35 XfI HT_ HW_ hHeld ?_; refine tk 32 37 WU HT_ HW_ hHeld ?_; refine pu 34 39 WV HT_ ?_; refine tk 35 40 WW HT_ HW_ hHeld ?_; refine Zj (i := 36) (N := some 41) WX rfl rfl (Yl HT_.out zb6) (by decide) (fun K hK => ?_); refine YI Tryz.func46 zb6 rfl #[.agg #[.int .i64 ((Xb XM a1).f0), .int .i64 ((Xb XM a1).f1), .slice Ms ((Xb XM a1).f2).length Mt], .agg #[.int .i64 ((Xb Yc a1).f0), .int .i64 ((Xb Yc a1).f1), .slice Cs ((Xb Yc a1).f2).length Ct]] (by rfl) rfl rfl zb2 ?_
      with_reducible refine (YG.calls k ((Xb XM a1).f0) ((Xb XM a1).f1) _ _ ((Xb XM a1).f2) ((Xb Yc a1).f0) ((Xb Yc a1).f1) _ _ ((Xb Yc a1).f2) XbP _ ?side1 ?side2 ?side3 ?side4 A11.out).mono ?_
      (case side1 => repeat (first | exact (Kd.Xg Xg3.out zb1) | (with_reducible refine Kd.Jo ?_ _) | (with_reducible refine Kd.Jp ?_ _) | (with_reducible refine Kd.JJ ?_)))
      (case side2 => exact XnN.out)
      (case side3 => repeat (first | exact (Kd.Xg Xg4.out zb1) | (with_reducible refine Kd.Jo ?_ _) | (with_reducible refine Kd.Jp ?_ _) | (with_reducible refine Kd.JJ ?_)))
      (case side4 => exact XnO.out)
      rintro e w14 ⟨rfl, hb⟩; refine ⟨_, rfl, ?_⟩; replace Z6 := bb Z6 (fun h => by (with_reducible repeat (first | apply bn | apply bd | apply ba)); exact h) hb; replace HB := az (Xc zb1 hb)
      (try clear hb);(try clear hb2);(try clear hk);(try clear hi)
      refine hK.out _ _ ⟨bt Z6 rfl, bt Z6 rfl, bt Z6 rfl, bt Z6 rfl, bt Z6 rfl, (cb HB hw229_0 :), (cb HB hw229_1 :), (cb HB hw229_2 :), (cb HB hw231_0 :), (cb HB hw231_1 :), (cb HB hw231_2 :), (cb HB hw232_0 :), (cb HB hw232_1 :), (cb HB hw232_2 :), (cb HB hw233_0 :), (cb HB hw233_1 :), (cb HB hw233_2 :), (cb HB hw234_0 :), (cb HB hw234_1 :), (cb HB hw234_2 :)⟩ (fun hHeld => ?_); clear hK K; refine XQ (a' := ?_) ?_ ?_; rotate_left
      ·show Act.put _ (some 41) _ = _
       simp only [Act.put, List.setIfInBounds_toArray, List.set_cons_zero, List.set_cons_succ, Xz, XF]
       rfl
      refine pu 37 42 WY HT_ ?_; refine pu 38 43 WZ HT_ ?_; refine pu 39 4 Pb HT_ ?_; refine YX (YA HT_.out zb6) ?_
      try go_wp2
      go_ret
      exact ⟨zb4, zb1⟩
    ·rw [if_neg c7] at H
     exact absurd H (by simp)
   ·rw [if_neg c6] at H
    have c6b0 : (((Xb XM a1).f0) == Kn) = false := beq_eq_false_iff_ne.mpr c6; have c6b1 : (((Xb XM a1).f0) != Kn) = true := bne_iff_ne.mpr c6; obtain rfl := Option.some.inj H
    go_enter Tryz.func48, Tryz.ntmps48
    try go_wp2_with (first | ((with_reducible refine Xp (N := 2) rfl ?_); refine Xn ?hg (N := 2) ?hd (cs := #[.slice Je Yc.length Ja, .slice J9 XM.length Jy, .slice Yg Xm.length Yh, .int .i64 Yu, .bool Yt]) (t := 31) ?hr ?_; (case hd => rfl); (case hg => rfl); (case hr => exact zb7); intro Dq hg w15 hbox hb; have Z6 := az (hbox); have XbQ := az ((zb95 : w.heap.size ≤ Dq)); have XrW := XbQ; replace HB := az (Xc zb0 hb); clear hb hbox hg))
    replace Z6 := az (XB Z6.out); replace HB := az (wd HB.out); have Cq : 0 ≤ (a1 : Int) := of_decide_eq_true zb3; have Cr : a1 < (XM.length : Int) := of_decide_eq_true zb3; obtain ⟨Jg, Ms, Mt, XlH, VG, VH, JV, hl229_2, hi229_2⟩ := Zl Pf.out a1 Cq Cr; have hw229_2 := JV; have hw229_1 := VH; have hw229_0 := VG
    cases XlH
    replace VG := cb HB VG; replace VH := cb HB VH; replace JV := cb HB JV; have Pj := az hi229_2; have Xg2 := az hl229_2; clear hi229_2 hl229_2; replace Cq := eq_true Cq; replace Cr := eq_true Cr; refine Yw (n := 40) (S := fun w' => w'.cell? ⟨Dq, 0, none⟩ = some (.slice Je Yc.length Ja) ∧ w'.cell? ⟨Dq, 1, none⟩ = some (.slice (some Jg) XM.length Jy) ∧ w'.cell? ⟨Dq, 2, none⟩ = some (.slice Yg Xm.length Yh) ∧ w'.cell? ⟨Dq, 3, none⟩ = some (.int .i64 Yu) ∧ w'.cell? ⟨Dq, 4, none⟩ = some (.bool Yt) ∧ w'.cell? (Jg.add ((a1).toNat * 3)) = some (.int .i64 ((Xb XM a1).f0)) ∧ w'.cell? ⟨(Jg.add ((a1).toNat * 3)).block, (Jg.add ((a1).toNat * 3)).off + 1, none⟩ = some (.int .i64 ((Xb XM a1).f1)) ∧ w'.cell? ⟨(Jg.add ((a1).toNat * 3)).block, (Jg.add ((a1).toNat * 3)).off + 2, none⟩ = some (.slice Ms ((Xb XM a1).f2).length Mt)) (ds := []) KM zb6 rfl rfl ⟨bt Z6 rfl, bt Z6 rfl, bt Z6 rfl, bt Z6 rfl, bt Z6 rfl, (cb HB hw229_0 :), (cb HB hw229_1 :), (cb HB hw229_2 :)⟩ (fun hHeld => ?_); refine XH YJ.TH YJ.MQ (fun HT_ HW_ => ?_); generalize w15.drew = w16 at Z6 HB Pj VG VH JV hHeld ⊢; refine pu 0 5 KN HT_ ?_; refine pu 2 7 KO HT_ ?_; refine pu 6 11 KP HT_ ?_; refine pu 8 13 KQ HT_ ?_; refine tk 1 6 KR HT_ HW_ hHeld ?_; refine pu 3 8 KS HT_ ?_; refine pu 4 9 KT HT_ ?_; refine tk 5 10 KU HT_ HW_ hHeld ?_; refine tk 7 12 KV HT_ HW_ hHeld ?_
    refine Zj (i := 9) (N := some 14) WI rfl rfl (Yl HT_.out zb6) (by decide) (fun K hK => ?_); refine YI Tryz.func76 zb6 rfl #[.slice Yg Xm.length Yh, .int .i64 a1] (by rfl) rfl rfl zb2 ?_
    with_reducible refine (YK.calls k _ _ Xm a1 Kn _ ?side1 ?side2 A5.out).mono ?_
    (case side1 => exact zb8)
    (case side2 => exact JI.out)
    rintro e w' ⟨rfl, ⟨nd, rfl⟩⟩; refine ⟨_, rfl, ?_⟩; refine hK.out _ _ ⟨bt Z6 rfl, bt Z6 rfl, bt Z6 rfl, bt Z6 rfl, bt Z6 rfl, (cb HB hw229_0 :), (cb HB hw229_1 :), (cb HB hw229_2 :)⟩ (fun hHeld => ?_); clear hK K; refine XQ (a' := ?_) ?_ ?_; rotate_left
    ·show Act.put _ (some 14) _ = _
     simp only [Act.put, List.setIfInBounds_toArray, List.set_cons_zero, List.set_cons_succ, Xz, XF]
     rfl
    refine pu 10 15 WJ HT_ ?_; refine pu 11 16 WK HT_ ?_; refine pn 12 17 WL HT_ ?_; refine pn 13 18 Xf6 HT_ ?_; refine pn 14 19 Xf7 HT_ ?_; refine pn 15 20 Xf8 HT_ ?_; refine pn 16 21 Xf9 HT_ ?_; refine pn 17 22 XfA HT_ ?_; refine pn 18 23 XfB HT_ ?_; refine pn 19 24 XfC HT_ ?_; refine pn 20 25 WM HT_ ?_; refine pn 21 26 WN HT_ ?_; refine pn 22 27 WO HT_ ?_; refine pn 23 28 WQ HT_ ?_; refine pn 24 29 WR HT_ ?_; refine pn 25 30 WS HT_ ?_; refine pn 26 31 WT HT_ ?_; refine pn 27 32 EU HT_ ?_; refine pn 28 33 EW HT_ ?_; refine pn 29 34 EX HT_ ?_; refine pn 30 35 EY HT_ ?_; refine pn 31 36 EZ HT_ ?_; refine pn 32 37 Oa HT_ ?_; refine pn 33 38 WU HT_ ?_; refine pn 34 39 WV HT_ ?_; refine pn 35 40 WW HT_ ?_; refine pn 36 41 WX HT_ ?_; refine pn 37 42 WY HT_ ?_; refine pu 38 43 WZ HT_ ?_; refine pu 39 4 Pb HT_ ?_; refine YX (YA HT_.out zb6) ?_
    try go_wp2
    go_ret
    exact ⟨zb4, zb1⟩
  ·rw [if_neg c4] at H
   exact absurd H (by simp)
 ·rw [if_neg c3] at H
  exact absurd H (by simp)
end Go.Proofs.YtphnphmbfogmlaaGreat.Pr
