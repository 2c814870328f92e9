import Derived.Test.YtcefiblpnegepaaQPrK
import Derived.Test.YtcefiblpnegepaaQPrRedo
namespace Go.Proofs.Ytcefiblpnegepaa.Pr
open Go.RowKit Go.Proofs.YtcefiblpnegepaaW.PrintWords Go.Proofs.YtcefiblpnegepaaW.PrintLast Go.Proofs.YtcefiblpnegepaaW.PrintMore
attribute [local go_sem] max2_int min2_int max_two min_two max_three min_three max_four min_four
set_option linter.unusedVariables false
set_option linter.unusedSimpArgs false
def spec_l21Fall.f (k : Nat) (l0_0 : List (S25)) (l0_1 : List (S25)) (l0_2 : List (S41)) (a0_3 : Int) (a0_4 : Bool) (a1 : Int) : Option ((List (S25)) × (List (S25)) × (List (S41)) × Int × Bool) := (some (([] : List (S41)) : List (S41))).bind fun y1337 => (if 0 ≤ (mx a0_3 (mn a1 (l0_2.length : Int))) then (if (mx a0_3 (mn a1 (l0_2.length : Int))) ≤ (l0_2.length : Int) then ((some (l0_2.take ((mx a0_3 (mn a1 (l0_2.length : Int))) : Int).toNat : List (S41))).bind fun y1340 => (if y1337.length + y1340.length < 2199023255552 then ((spec_l11CopyPages.f k l0_0).bind fun t1347 => (some (l0_0, t1347, (y1337 ++ y1340), a0_3, true))) else (none))) else (none)) else (none))
end Go.Proofs.Ytcefiblpnegepaa.Pr
