-- Laid by a program (extract.py) out of this seat's translation: contracts of a few functions, a text a function; Lean checks them.
import Derived.Test.YtphoilaeeoacnaaProg
import Derived.Below
import Derived.Deep.Draws
import Derived.Deep.AppendLies
import Derived.Maps.AppendAt
import Derived.OwnWalk
import Derived.Laws.BytesArg
import Derived.Laws.MakeOwn
import Derived.Laws.OwnMore
import Derived.Deep.OwnRows
import Derived.Tactics
import Derived.Lib.ConvBytes
import Derived.Laws.Slices
import Derived.WalkKit
import Derived.KernelRfl
import Derived.RowKit3
import Derived.Deep.LoopGhost
import Derived.Deep.QuietTactic
import Derived.BigQuiet
import Derived.WideLaws
import Derived.Deep.DeepCutAuto
import Derived.Deep.CutBlock
import Derived.Deep.RegionHeld3
import Derived.Laws.Rows
import Derived.Lib.AppendStr
import Derived.ArgAppend
import Derived.Laws.IdiomCopy
import Derived.OrdersHeld
import Derived.Laws.BitsLemmas
import Derived.RowKit
import Derived.Test.YtphoilaeeoacnaaWWords
import Derived.Test.YtphoilaeeoacnaaWLast
import Derived.Test.YtphoilaeeoacnaaWTab
import Derived.Test.YtphoilaeeoacnaaWFour
import Derived.Test.YtphoilaeeoacnaaWQPut
import Derived.Test.YtphoilaeeoacnaaWApart
import Derived.Test.YtphoilaeeoacnaaWArr
import Derived.Test.YtphoilaeeoacnaaWZeros
import Derived.Test.YtphoilaeeoacnaaWFoot
import Derived.Test.YtphoilaeeoacnaaWKept
import Derived.Test.YtphoilaeeoacnaaWShare
import Derived.Test.YtphoilaeeoacnaaWN
import Derived.Test.YtphoilaeeoacnaaWFootNe
import Derived.Test.YtphoilaeeoacnaaWAt
import Derived.Test.YtphoilaeeoacnaaWEqStruct
import Derived.Test.YtphoilaeeoacnaaWRepsOne
import Derived.Test.YtphoilaeeoacnaaWInv
import Derived.Test.YtphoilaeeoacnaaWInvWords
import Derived.Test.YtphoilaeeoacnaaWGuard
import Derived.Test.YtphoilaeeoacnaaWNEv
import Derived.Test.YtphoilaeeoacnaaWMore
namespace Go.Proofs.Ytphoilaeeoacnaa.Pr
open Go.RowKit Go.Proofs.YtphoilaeeoacnaaW.PrintWords Go.Proofs.YtphoilaeeoacnaaW.PrintLast Go.Proofs.YtphoilaeeoacnaaW.PrintMore
attribute [local go_sem] max2_int min2_int max_two min_two max_three min_three max_four min_four
set_option linter.unusedVariables false
set_option linter.unusedSimpArgs false
def errW : Option Int → Value
  | none => .nilIface
  | some c => .iface 0 (.int .i64 c)
theorem errW_none : errW none = .nilIface := rfl
theorem errW_some (c : Int) : errW (some c) = .iface 0 (.int .i64 c) := rfl

theorem info3 : (Try.prog.info? 3).map (fun i => (i.zero, i.size, i.bytes)) = some (some (.int .i64 0), 1, 8) := by kernel_rfl
theorem info5 : (Try.prog.info? 5).map (fun i => (i.zero, i.size, i.bytes)) = some (some (.int .u8 0), 1, 1) := by kernel_rfl
-- the values' own types

end Go.Proofs.Ytphoilaeeoacnaa.Pr
