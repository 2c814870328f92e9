import Derived.Test.YtphnphmbfogmlaaGreatQFByq
import Derived.Test.YtphnphmbfogmlaaGreatQFSx
import Derived.Test.YtphnphmbfogmlaaGreatQFPrWith
import Derived.Test.YtphnphmbfogmlaaGreatQFPrCps
import Derived.Test.YtphnphmbfogmlaaGreatQFPrFresh
import Derived.Test.YtphnphmbfogmlaaGreatQFL11R
import Derived.Test.YtphnphmbfogmlaaGreatQFUndS
import Derived.Test.YtphnphmbfogmlaaGreatQFEnK2
namespace Go.Proofs.YtphnphmbfogmlaaGreat.Pr
open Go.RowKit Go.PW Go.PL Go.PM Go.Proofs.YtphnphmbfogmlaaGreat.T
attribute [local go_sem] Y3 Y4 YN YO Ya Yb Y5 Y6
set_option linter.unusedVariables false
set_option linter.unusedSimpArgs false
abbrev mES0 : Array Bool := #[nn,nn,nn,nn,nn,nn,nn,nn]
abbrev mES1 : Array Bool := #[yy,nn,nn,nn,nn,nn,nn,nn]
abbrev mES2 : Array Bool := #[yy,yy,nn,nn,nn,nn,nn,nn]
abbrev mES3 : Array Bool := #[yy,yy,yy,nn,nn,nn,nn,nn]
abbrev mES4 : Array Bool := #[yy,yy,yy,yy,nn,nn,nn,nn]
abbrev mES5 : Array Bool := #[yy,yy,yy,yy,yy,nn,nn,nn]
abbrev mES6 : Array Bool := #[yy,yy,yy,yy,yy,yy,nn,nn]
abbrev mES7 : Array Bool := #[yy,yy,yy,yy,yy,yy,yy,nn]
abbrev mES8 : Array Bool := #[yy,yy,yy,yy,yy,yy,yy,yy]
abbrev XkK : Array Bool := #[nn,nn,nn,nn,nn,nn,nn,nn,nn,nn,nn,nn,nn,nn,nn,nn,nn,nn,nn,nn,nn,nn,nn,nn,nn,nn,nn,nn,nn,nn,nn,nn,nn,nn,nn,nn,nn,nn,nn,nn,nn,nn,nn,nn,nn,nn,nn,nn,nn,nn,nn,nn]
abbrev Ii : Array Bool := #[yy,nn,nn,nn,nn,nn,nn,nn,nn,nn,nn,nn,nn,nn,nn,nn,nn,nn,nn,nn,nn,nn,nn,nn,nn,nn,nn,nn,nn,nn,nn,nn,nn,nn,nn,nn,nn,nn,nn,nn,nn,nn,nn,nn,nn,nn,nn,nn,nn,nn,nn,nn]
abbrev Ij : Array Bool := #[yy,yy,nn,nn,nn,nn,nn,nn,nn,nn,nn,nn,nn,nn,nn,nn,nn,nn,nn,nn,nn,nn,nn,nn,nn,nn,nn,nn,nn,nn,nn,nn,nn,nn,nn,nn,nn,nn,nn,nn,nn,nn,nn,nn,nn,nn,nn,nn,nn,nn,nn,nn]
abbrev Ik : Array Bool := #[yy,yy,yy,nn,nn,nn,nn,nn,nn,nn,nn,nn,nn,nn,nn,nn,nn,nn,nn,nn,nn,nn,nn,nn,nn,nn,nn,nn,nn,nn,nn,nn,nn,nn,nn,nn,nn,nn,nn,nn,nn,nn,nn,nn,nn,nn,nn,nn,nn,nn,nn,nn]
abbrev Il : Array Bool := #[yy,yy,yy,yy,nn,nn,nn,nn,nn,nn,nn,nn,nn,nn,nn,nn,nn,nn,nn,nn,nn,nn,nn,nn,nn,nn,nn,nn,nn,nn,nn,nn,nn,nn,nn,nn,nn,nn,nn,nn,nn,nn,nn,nn,nn,nn,nn,nn,nn,nn,nn,nn]
abbrev Im : Array Bool := #[yy,yy,yy,yy,yy,nn,nn,nn,nn,nn,nn,nn,nn,nn,nn,nn,nn,nn,nn,nn,nn,nn,nn,nn,nn,nn,nn,nn,nn,nn,nn,nn,nn,nn,nn,nn,nn,nn,nn,nn,nn,nn,nn,nn,nn,nn,nn,nn,nn,nn,nn,nn]
abbrev Io : Array Bool := #[yy,yy,yy,yy,yy,yy,nn,nn,nn,nn,nn,nn,nn,nn,nn,nn,nn,nn,nn,nn,nn,nn,nn,nn,nn,nn,nn,nn,nn,nn,nn,nn,nn,nn,nn,nn,nn,nn,nn,nn,nn,nn,nn,nn,nn,nn,nn,nn,nn,nn,nn,nn]
abbrev Ip : Array Bool := #[yy,yy,yy,yy,yy,yy,yy,nn,nn,nn,nn,nn,nn,nn,nn,nn,nn,nn,nn,nn,nn,nn,nn,nn,nn,nn,nn,nn,nn,nn,nn,nn,nn,nn,nn,nn,nn,nn,nn,nn,nn,nn,nn,nn,nn,nn,nn,nn,nn,nn,nn,nn]
abbrev Iq : Array Bool := #[yy,yy,yy,yy,yy,yy,yy,yy,nn,nn,nn,nn,nn,nn,nn,nn,nn,nn,nn,nn,nn,nn,nn,nn,nn,nn,nn,nn,nn,nn,nn,nn,nn,nn,nn,nn,nn,nn,nn,nn,nn,nn,nn,nn,nn,nn,nn,nn,nn,nn,nn,nn]
abbrev Ir : Array Bool := #[yy,yy,yy,yy,yy,yy,yy,yy,yy,nn,nn,nn,nn,nn,nn,nn,nn,nn,nn,nn,nn,nn,nn,nn,nn,nn,nn,nn,nn,nn,nn,nn,nn,nn,nn,nn,nn,nn,nn,nn,nn,nn,nn,nn,nn,nn,nn,nn,nn,nn,nn,nn]
abbrev Iu : Array Bool := #[yy,yy,yy,yy,yy,yy,yy,yy,yy,yy,nn,nn,nn,nn,nn,nn,nn,nn,nn,nn,nn,nn,nn,nn,nn,nn,nn,nn,nn,nn,nn,nn,nn,nn,nn,nn,nn,nn,nn,nn,nn,nn,nn,nn,nn,nn,nn,nn,nn,nn,nn,nn]
abbrev Iw : Array Bool := #[yy,yy,yy,yy,yy,yy,yy,yy,yy,yy,yy,nn,nn,nn,nn,nn,nn,nn,nn,nn,nn,nn,nn,nn,nn,nn,nn,nn,nn,nn,nn,nn,nn,nn,nn,nn,nn,nn,nn,nn,nn,nn,nn,nn,nn,nn,nn,nn,nn,nn,nn,nn]
abbrev Iy : Array Bool := #[yy,yy,yy,yy,yy,yy,yy,yy,yy,yy,yy,yy,nn,nn,nn,nn,nn,nn,nn,nn,nn,nn,nn,nn,nn,nn,nn,nn,nn,nn,nn,nn,nn,nn,nn,nn,nn,nn,nn,nn,nn,nn,nn,nn,nn,nn,nn,nn,nn,nn,nn,nn]
abbrev Iz : Array Bool := #[yy,yy,yy,yy,yy,yy,yy,yy,yy,yy,yy,yy,yy,nn,nn,nn,nn,nn,nn,nn,nn,nn,nn,nn,nn,nn,nn,nn,nn,nn,nn,nn,nn,nn,nn,nn,nn,nn,nn,nn,nn,nn,nn,nn,nn,nn,nn,nn,nn,nn,nn,nn]
abbrev I1 : Array Bool := #[yy,yy,yy,yy,yy,yy,yy,yy,yy,yy,yy,yy,yy,yy,nn,nn,nn,nn,nn,nn,nn,nn,nn,nn,nn,nn,nn,nn,nn,nn,nn,nn,nn,nn,nn,nn,nn,nn,nn,nn,nn,nn,nn,nn,nn,nn,nn,nn,nn,nn,nn,nn]
abbrev I4 : Array Bool := #[yy,yy,yy,yy,yy,yy,yy,yy,yy,yy,yy,yy,yy,yy,yy,nn,nn,nn,nn,nn,nn,nn,nn,nn,nn,nn,nn,nn,nn,nn,nn,nn,nn,nn,nn,nn,nn,nn,nn,nn,nn,nn,nn,nn,nn,nn,nn,nn,nn,nn,nn,nn]
abbrev I5 : Array Bool := #[yy,yy,yy,yy,yy,yy,yy,yy,yy,yy,yy,yy,yy,yy,yy,yy,nn,nn,nn,nn,nn,nn,nn,nn,nn,nn,nn,nn,nn,nn,nn,nn,nn,nn,nn,nn,nn,nn,nn,nn,nn,nn,nn,nn,nn,nn,nn,nn,nn,nn,nn,nn]
abbrev I6 : Array Bool := #[yy,yy,yy,yy,yy,yy,yy,yy,yy,yy,yy,yy,yy,yy,yy,yy,yy,nn,nn,nn,nn,nn,nn,nn,nn,nn,nn,nn,nn,nn,nn,nn,nn,nn,nn,nn,nn,nn,nn,nn,nn,nn,nn,nn,nn,nn,nn,nn,nn,nn,nn,nn]
abbrev I7 : Array Bool := #[yy,yy,yy,yy,yy,yy,yy,yy,yy,yy,yy,yy,yy,yy,yy,yy,yy,yy,nn,nn,nn,nn,nn,nn,nn,nn,nn,nn,nn,nn,nn,nn,nn,nn,nn,nn,nn,nn,nn,nn,nn,nn,nn,nn,nn,nn,nn,nn,nn,nn,nn,nn]
abbrev I8 : Array Bool := #[yy,yy,yy,yy,yy,yy,yy,yy,yy,yy,yy,yy,yy,yy,yy,yy,yy,yy,yy,nn,nn,nn,nn,nn,nn,nn,nn,nn,nn,nn,nn,nn,nn,nn,nn,nn,nn,nn,nn,nn,nn,nn,nn,nn,nn,nn,nn,nn,nn,nn,nn,nn]
abbrev I9 : Array Bool := #[yy,yy,yy,yy,yy,yy,yy,yy,yy,yy,yy,yy,yy,yy,yy,yy,yy,yy,yy,yy,nn,nn,nn,nn,nn,nn,nn,nn,nn,nn,nn,nn,nn,nn,nn,nn,nn,nn,nn,nn,nn,nn,nn,nn,nn,nn,nn,nn,nn,nn,nn,nn]
abbrev IA : Array Bool := #[yy,yy,yy,yy,yy,yy,yy,yy,yy,yy,yy,yy,yy,yy,yy,yy,yy,yy,yy,yy,yy,nn,nn,nn,nn,nn,nn,nn,nn,nn,nn,nn,nn,nn,nn,nn,nn,nn,nn,nn,nn,nn,nn,nn,nn,nn,nn,nn,nn,nn,nn,nn]
abbrev IB : Array Bool := #[yy,yy,yy,yy,yy,yy,yy,yy,yy,yy,yy,yy,yy,yy,yy,yy,yy,yy,yy,yy,yy,yy,nn,nn,nn,nn,nn,nn,nn,nn,nn,nn,nn,nn,nn,nn,nn,nn,nn,nn,nn,nn,nn,nn,nn,nn,nn,nn,nn,nn,nn,nn]
abbrev IC : Array Bool := #[yy,yy,yy,yy,yy,yy,yy,yy,yy,yy,yy,yy,yy,yy,yy,yy,yy,yy,yy,yy,yy,yy,yy,nn,nn,nn,nn,nn,nn,nn,nn,nn,nn,nn,nn,nn,nn,nn,nn,nn,nn,nn,nn,nn,nn,nn,nn,nn,nn,nn,nn,nn]
abbrev IE : Array Bool := #[yy,yy,yy,yy,yy,yy,yy,yy,yy,yy,yy,yy,yy,yy,yy,yy,yy,yy,yy,yy,yy,yy,yy,yy,nn,nn,nn,nn,nn,nn,nn,nn,nn,nn,nn,nn,nn,nn,nn,nn,nn,nn,nn,nn,nn,nn,nn,nn,nn,nn,nn,nn]
abbrev IG : Array Bool := #[yy,yy,yy,yy,yy,yy,yy,yy,yy,yy,yy,yy,yy,yy,yy,yy,yy,yy,yy,yy,yy,yy,yy,yy,yy,nn,nn,nn,nn,nn,nn,nn,nn,nn,nn,nn,nn,nn,nn,nn,nn,nn,nn,nn,nn,nn,nn,nn,nn,nn,nn,nn]
abbrev II : Array Bool := #[yy,yy,yy,yy,yy,yy,yy,yy,yy,yy,yy,yy,yy,yy,yy,yy,yy,yy,yy,yy,yy,yy,yy,yy,yy,yy,nn,nn,nn,nn,nn,nn,nn,nn,nn,nn,nn,nn,nn,nn,nn,nn,nn,nn,nn,nn,nn,nn,nn,nn,nn,nn]
abbrev IJ : Array Bool := #[yy,yy,yy,yy,yy,yy,yy,yy,yy,yy,yy,yy,yy,yy,yy,yy,yy,yy,yy,yy,yy,yy,yy,yy,yy,yy,yy,nn,nn,nn,nn,nn,nn,nn,nn,nn,nn,nn,nn,nn,nn,nn,nn,nn,nn,nn,nn,nn,nn,nn,nn,nn]
abbrev IK : Array Bool := #[yy,yy,yy,yy,yy,yy,yy,yy,yy,yy,yy,yy,yy,yy,yy,yy,yy,yy,yy,yy,yy,yy,yy,yy,yy,yy,yy,yy,nn,nn,nn,nn,nn,nn,nn,nn,nn,nn,nn,nn,nn,nn,nn,nn,nn,nn,nn,nn,nn,nn,nn,nn]
abbrev IL : Array Bool := #[yy,yy,yy,yy,yy,yy,yy,yy,yy,yy,yy,yy,yy,yy,yy,yy,yy,yy,yy,yy,yy,yy,yy,yy,yy,yy,yy,yy,yy,nn,nn,nn,nn,nn,nn,nn,nn,nn,nn,nn,nn,nn,nn,nn,nn,nn,nn,nn,nn,nn,nn,nn]
abbrev IP : Array Bool := #[yy,yy,yy,yy,yy,yy,yy,yy,yy,yy,yy,yy,yy,yy,yy,yy,yy,yy,yy,yy,yy,yy,yy,yy,yy,yy,yy,yy,yy,yy,nn,nn,nn,nn,nn,nn,nn,nn,nn,nn,nn,nn,nn,nn,nn,nn,nn,nn,nn,nn,nn,nn]
abbrev IQ : Array Bool := #[yy,yy,yy,yy,yy,yy,yy,yy,yy,yy,yy,yy,yy,yy,yy,yy,yy,yy,yy,yy,yy,yy,yy,yy,yy,yy,yy,yy,yy,yy,yy,nn,nn,nn,nn,nn,nn,nn,nn,nn,nn,nn,nn,nn,nn,nn,nn,nn,nn,nn,nn,nn]
abbrev IU : Array Bool := #[yy,yy,yy,yy,yy,yy,yy,yy,yy,yy,yy,yy,yy,yy,yy,yy,yy,yy,yy,yy,yy,yy,yy,yy,yy,yy,yy,yy,yy,yy,yy,yy,nn,nn,nn,nn,nn,nn,nn,nn,nn,nn,nn,nn,nn,nn,nn,nn,nn,nn,nn,nn]
abbrev IV : Array Bool := #[yy,yy,yy,yy,yy,yy,yy,yy,yy,yy,yy,yy,yy,yy,yy,yy,yy,yy,yy,yy,yy,yy,yy,yy,yy,yy,yy,yy,yy,yy,yy,yy,yy,nn,nn,nn,nn,nn,nn,nn,nn,nn,nn,nn,nn,nn,nn,nn,nn,nn,nn,nn]
abbrev IW : Array Bool := #[yy,yy,yy,yy,yy,yy,yy,yy,yy,yy,yy,yy,yy,yy,yy,yy,yy,yy,yy,yy,yy,yy,yy,yy,yy,yy,yy,yy,yy,yy,yy,yy,yy,yy,nn,nn,nn,nn,nn,nn,nn,nn,nn,nn,nn,nn,nn,nn,nn,nn,nn,nn]
abbrev IX : Array Bool := #[yy,yy,yy,yy,yy,yy,yy,yy,yy,yy,yy,yy,yy,yy,yy,yy,yy,yy,yy,yy,yy,yy,yy,yy,yy,yy,yy,yy,yy,yy,yy,yy,yy,yy,yy,nn,nn,nn,nn,nn,nn,nn,nn,nn,nn,nn,nn,nn,nn,nn,nn,nn]
abbrev IY : Array Bool := #[yy,yy,yy,yy,yy,yy,yy,yy,yy,yy,yy,yy,yy,yy,yy,yy,yy,yy,yy,yy,yy,yy,yy,yy,yy,yy,yy,yy,yy,yy,yy,yy,yy,yy,yy,yy,nn,nn,nn,nn,nn,nn,nn,nn,nn,nn,nn,nn,nn,nn,nn,nn]
abbrev IZ : Array Bool := #[yy,yy,yy,yy,yy,yy,yy,yy,yy,yy,yy,yy,yy,yy,yy,yy,yy,yy,yy,yy,yy,yy,yy,yy,yy,yy,yy,yy,yy,yy,yy,yy,yy,yy,yy,yy,yy,nn,nn,nn,nn,nn,nn,nn,nn,nn,nn,nn,nn,nn,nn,nn]
abbrev Qa : Array Bool := #[yy,yy,yy,yy,yy,yy,yy,yy,yy,yy,yy,yy,yy,yy,yy,yy,yy,yy,yy,yy,yy,yy,yy,yy,yy,yy,yy,yy,yy,yy,yy,yy,yy,yy,yy,yy,yy,yy,nn,nn,nn,nn,nn,nn,nn,nn,nn,nn,nn,nn,nn,nn]
abbrev Qb : Array Bool := #[yy,yy,yy,yy,yy,yy,yy,yy,yy,yy,yy,yy,yy,yy,yy,yy,yy,yy,yy,yy,yy,yy,yy,yy,yy,yy,yy,yy,yy,yy,yy,yy,yy,yy,yy,yy,yy,yy,yy,nn,nn,nn,nn,nn,nn,nn,nn,nn,nn,nn,nn,nn]
abbrev Qc : Array Bool := #[yy,yy,yy,yy,yy,yy,yy,yy,yy,yy,yy,yy,yy,yy,yy,yy,yy,yy,yy,yy,yy,yy,yy,yy,yy,yy,yy,yy,yy,yy,yy,yy,yy,yy,yy,yy,yy,yy,yy,yy,nn,nn,nn,nn,nn,nn,nn,nn,nn,nn,nn,nn]
abbrev Qd : Array Bool := #[yy,yy,yy,yy,yy,yy,yy,yy,yy,yy,yy,yy,yy,yy,yy,yy,yy,yy,yy,yy,yy,yy,yy,yy,yy,yy,yy,yy,yy,yy,yy,yy,yy,yy,yy,yy,yy,yy,yy,yy,yy,nn,nn,nn,nn,nn,nn,nn,nn,nn,nn,nn]
abbrev Qe : Array Bool := #[yy,yy,yy,yy,yy,yy,yy,yy,yy,yy,yy,yy,yy,yy,yy,yy,yy,yy,yy,yy,yy,yy,yy,yy,yy,yy,yy,yy,yy,yy,yy,yy,yy,yy,yy,yy,yy,yy,yy,yy,yy,yy,nn,nn,nn,nn,nn,nn,nn,nn,nn,nn]
abbrev Qf : Array Bool := #[yy,yy,yy,yy,yy,yy,yy,yy,yy,yy,yy,yy,yy,yy,yy,yy,yy,yy,yy,yy,yy,yy,yy,yy,yy,yy,yy,yy,yy,yy,yy,yy,yy,yy,yy,yy,yy,yy,yy,yy,yy,yy,yy,nn,nn,nn,nn,nn,nn,nn,nn,nn]
abbrev Qg : Array Bool := #[yy,yy,yy,yy,yy,yy,yy,yy,yy,yy,yy,yy,yy,yy,yy,yy,yy,yy,yy,yy,yy,yy,yy,yy,yy,yy,yy,yy,yy,yy,yy,yy,yy,yy,yy,yy,yy,yy,yy,yy,yy,yy,yy,yy,nn,nn,nn,nn,nn,nn,nn,nn]
abbrev Qh : Array Bool := #[yy,yy,yy,yy,yy,yy,yy,yy,yy,yy,yy,yy,yy,yy,yy,yy,yy,yy,yy,yy,yy,yy,yy,yy,yy,yy,yy,yy,yy,yy,yy,yy,yy,yy,yy,yy,yy,yy,yy,yy,yy,yy,yy,yy,yy,nn,nn,nn,nn,nn,nn,nn]
abbrev Qi : Array Bool := #[yy,yy,yy,yy,yy,yy,yy,yy,yy,yy,yy,yy,yy,yy,yy,yy,yy,yy,yy,yy,yy,yy,yy,yy,yy,yy,yy,yy,yy,yy,yy,yy,yy,yy,yy,yy,yy,yy,yy,yy,yy,yy,yy,yy,yy,yy,nn,nn,nn,nn,nn,nn]
abbrev Qj : Array Bool := #[yy,yy,yy,yy,yy,yy,yy,yy,yy,yy,yy,yy,yy,yy,yy,yy,yy,yy,yy,yy,yy,yy,yy,yy,yy,yy,yy,yy,yy,yy,yy,yy,yy,yy,yy,yy,yy,yy,yy,yy,yy,yy,yy,yy,yy,yy,yy,nn,nn,nn,nn,nn]
abbrev Qk : Array Bool := #[yy,yy,yy,yy,yy,yy,yy,yy,yy,yy,yy,yy,yy,yy,yy,yy,yy,yy,yy,yy,yy,yy,yy,yy,yy,yy,yy,yy,yy,yy,yy,yy,yy,yy,yy,yy,yy,yy,yy,yy,yy,yy,yy,yy,yy,yy,yy,yy,nn,nn,nn,nn]
abbrev Ql : Array Bool := #[yy,yy,yy,yy,yy,yy,yy,yy,yy,yy,yy,yy,yy,yy,yy,yy,yy,yy,yy,yy,yy,yy,yy,yy,yy,yy,yy,yy,yy,yy,yy,yy,yy,yy,yy,yy,yy,yy,yy,yy,yy,yy,yy,yy,yy,yy,yy,yy,yy,nn,nn,nn]
abbrev Qm : Array Bool := #[yy,yy,yy,yy,yy,yy,yy,yy,yy,yy,yy,yy,yy,yy,yy,yy,yy,yy,yy,yy,yy,yy,yy,yy,yy,yy,yy,yy,yy,yy,yy,yy,yy,yy,yy,yy,yy,yy,yy,yy,yy,yy,yy,yy,yy,yy,yy,yy,yy,yy,nn,nn]
abbrev Qn : Array Bool := #[yy,yy,yy,yy,yy,yy,yy,yy,yy,yy,yy,yy,yy,yy,yy,yy,yy,yy,yy,yy,yy,yy,yy,yy,yy,yy,yy,yy,yy,yy,yy,yy,yy,yy,yy,yy,yy,yy,yy,yy,yy,yy,yy,yy,yy,yy,yy,yy,yy,yy,yy,nn]
abbrev Qo : Array Bool := #[yy,yy,yy,yy,yy,yy,yy,yy,yy,yy,yy,yy,yy,yy,yy,yy,yy,yy,yy,yy,yy,yy,yy,yy,yy,yy,yy,yy,yy,yy,yy,yy,yy,yy,yy,yy,yy,yy,yy,yy,yy,yy,yy,yy,yy,yy,yy,yy,yy,yy,yy,yy]
abbrev Xc6 : Array Bool := #[nn,nn,nn,nn,nn,nn,nn,nn,nn,nn,nn,nn,nn,nn,nn,nn,nn,nn,nn,nn,nn,nn,nn,nn,nn,nn,nn,nn,nn,nn,nn,nn,nn,nn,nn,nn,nn,nn,nn,nn,nn,nn,nn,nn,nn,nn,nn,nn,nn,nn,nn]
abbrev Xc7 : Array Bool := #[yy,nn,nn,nn,nn,nn,nn,nn,nn,nn,nn,nn,nn,nn,nn,nn,nn,nn,nn,nn,nn,nn,nn,nn,nn,nn,nn,nn,nn,nn,nn,nn,nn,nn,nn,nn,nn,nn,nn,nn,nn,nn,nn,nn,nn,nn,nn,nn,nn,nn,nn]
abbrev Xc8 : Array Bool := #[yy,yy,nn,nn,nn,nn,nn,nn,nn,nn,nn,nn,nn,nn,nn,nn,nn,nn,nn,nn,nn,nn,nn,nn,nn,nn,nn,nn,nn,nn,nn,nn,nn,nn,nn,nn,nn,nn,nn,nn,nn,nn,nn,nn,nn,nn,nn,nn,nn,nn,nn]
abbrev Xc9 : Array Bool := #[yy,yy,yy,nn,nn,nn,nn,nn,nn,nn,nn,nn,nn,nn,nn,nn,nn,nn,nn,nn,nn,nn,nn,nn,nn,nn,nn,nn,nn,nn,nn,nn,nn,nn,nn,nn,nn,nn,nn,nn,nn,nn,nn,nn,nn,nn,nn,nn,nn,nn,nn]
abbrev XcA : Array Bool := #[yy,yy,yy,yy,nn,nn,nn,nn,nn,nn,nn,nn,nn,nn,nn,nn,nn,nn,nn,nn,nn,nn,nn,nn,nn,nn,nn,nn,nn,nn,nn,nn,nn,nn,nn,nn,nn,nn,nn,nn,nn,nn,nn,nn,nn,nn,nn,nn,nn,nn,nn]
abbrev XcB : Array Bool := #[yy,yy,yy,yy,yy,nn,nn,nn,nn,nn,nn,nn,nn,nn,nn,nn,nn,nn,nn,nn,nn,nn,nn,nn,nn,nn,nn,nn,nn,nn,nn,nn,nn,nn,nn,nn,nn,nn,nn,nn,nn,nn,nn,nn,nn,nn,nn,nn,nn,nn,nn]
abbrev XcC : Array Bool := #[yy,yy,yy,yy,yy,yy,nn,nn,nn,nn,nn,nn,nn,nn,nn,nn,nn,nn,nn,nn,nn,nn,nn,nn,nn,nn,nn,nn,nn,nn,nn,nn,nn,nn,nn,nn,nn,nn,nn,nn,nn,nn,nn,nn,nn,nn,nn,nn,nn,nn,nn]
abbrev XcD : Array Bool := #[yy,yy,yy,yy,yy,yy,yy,nn,nn,nn,nn,nn,nn,nn,nn,nn,nn,nn,nn,nn,nn,nn,nn,nn,nn,nn,nn,nn,nn,nn,nn,nn,nn,nn,nn,nn,nn,nn,nn,nn,nn,nn,nn,nn,nn,nn,nn,nn,nn,nn,nn]
abbrev XcE : Array Bool := #[yy,yy,yy,yy,yy,yy,yy,yy,nn,nn,nn,nn,nn,nn,nn,nn,nn,nn,nn,nn,nn,nn,nn,nn,nn,nn,nn,nn,nn,nn,nn,nn,nn,nn,nn,nn,nn,nn,nn,nn,nn,nn,nn,nn,nn,nn,nn,nn,nn,nn,nn]
abbrev XcF : Array Bool := #[yy,yy,yy,yy,yy,yy,yy,yy,yy,nn,nn,nn,nn,nn,nn,nn,nn,nn,nn,nn,nn,nn,nn,nn,nn,nn,nn,nn,nn,nn,nn,nn,nn,nn,nn,nn,nn,nn,nn,nn,nn,nn,nn,nn,nn,nn,nn,nn,nn,nn,nn]
abbrev XcG : Array Bool := #[yy,yy,yy,yy,yy,yy,yy,yy,yy,yy,nn,nn,nn,nn,nn,nn,nn,nn,nn,nn,nn,nn,nn,nn,nn,nn,nn,nn,nn,nn,nn,nn,nn,nn,nn,nn,nn,nn,nn,nn,nn,nn,nn,nn,nn,nn,nn,nn,nn,nn,nn]
abbrev XcH : Array Bool := #[yy,yy,yy,yy,yy,yy,yy,yy,yy,yy,yy,nn,nn,nn,nn,nn,nn,nn,nn,nn,nn,nn,nn,nn,nn,nn,nn,nn,nn,nn,nn,nn,nn,nn,nn,nn,nn,nn,nn,nn,nn,nn,nn,nn,nn,nn,nn,nn,nn,nn,nn]
abbrev XcI : Array Bool := #[yy,yy,yy,yy,yy,yy,yy,yy,yy,yy,yy,yy,nn,nn,nn,nn,nn,nn,nn,nn,nn,nn,nn,nn,nn,nn,nn,nn,nn,nn,nn,nn,nn,nn,nn,nn,nn,nn,nn,nn,nn,nn,nn,nn,nn,nn,nn,nn,nn,nn,nn]
abbrev XcJ : Array Bool := #[yy,yy,yy,yy,yy,yy,yy,yy,yy,yy,yy,yy,yy,nn,nn,nn,nn,nn,nn,nn,nn,nn,nn,nn,nn,nn,nn,nn,nn,nn,nn,nn,nn,nn,nn,nn,nn,nn,nn,nn,nn,nn,nn,nn,nn,nn,nn,nn,nn,nn,nn]
abbrev XcK : Array Bool := #[yy,yy,yy,yy,yy,yy,yy,yy,yy,yy,yy,yy,yy,yy,nn,nn,nn,nn,nn,nn,nn,nn,nn,nn,nn,nn,nn,nn,nn,nn,nn,nn,nn,nn,nn,nn,nn,nn,nn,nn,nn,nn,nn,nn,nn,nn,nn,nn,nn,nn,nn]
abbrev XcL : Array Bool := #[yy,yy,yy,yy,yy,yy,yy,yy,yy,yy,yy,yy,yy,yy,yy,nn,nn,nn,nn,nn,nn,nn,nn,nn,nn,nn,nn,nn,nn,nn,nn,nn,nn,nn,nn,nn,nn,nn,nn,nn,nn,nn,nn,nn,nn,nn,nn,nn,nn,nn,nn]
abbrev XcM : Array Bool := #[yy,yy,yy,yy,yy,yy,yy,yy,yy,yy,yy,yy,yy,yy,yy,yy,nn,nn,nn,nn,nn,nn,nn,nn,nn,nn,nn,nn,nn,nn,nn,nn,nn,nn,nn,nn,nn,nn,nn,nn,nn,nn,nn,nn,nn,nn,nn,nn,nn,nn,nn]
abbrev XcN : Array Bool := #[yy,yy,yy,yy,yy,yy,yy,yy,yy,yy,yy,yy,yy,yy,yy,yy,yy,nn,nn,nn,nn,nn,nn,nn,nn,nn,nn,nn,nn,nn,nn,nn,nn,nn,nn,nn,nn,nn,nn,nn,nn,nn,nn,nn,nn,nn,nn,nn,nn,nn,nn]
abbrev XcO : Array Bool := #[yy,yy,yy,yy,yy,yy,yy,yy,yy,yy,yy,yy,yy,yy,yy,yy,yy,yy,nn,nn,nn,nn,nn,nn,nn,nn,nn,nn,nn,nn,nn,nn,nn,nn,nn,nn,nn,nn,nn,nn,nn,nn,nn,nn,nn,nn,nn,nn,nn,nn,nn]
abbrev XcP : Array Bool := #[yy,yy,yy,yy,yy,yy,yy,yy,yy,yy,yy,yy,yy,yy,yy,yy,yy,yy,yy,nn,nn,nn,nn,nn,nn,nn,nn,nn,nn,nn,nn,nn,nn,nn,nn,nn,nn,nn,nn,nn,nn,nn,nn,nn,nn,nn,nn,nn,nn,nn,nn]
abbrev XcQ : Array Bool := #[yy,yy,yy,yy,yy,yy,yy,yy,yy,yy,yy,yy,yy,yy,yy,yy,yy,yy,yy,yy,nn,nn,nn,nn,nn,nn,nn,nn,nn,nn,nn,nn,nn,nn,nn,nn,nn,nn,nn,nn,nn,nn,nn,nn,nn,nn,nn,nn,nn,nn,nn]
abbrev XcR : Array Bool := #[yy,yy,yy,yy,yy,yy,yy,yy,yy,yy,yy,yy,yy,yy,yy,yy,yy,yy,yy,yy,yy,nn,nn,nn,nn,nn,nn,nn,nn,nn,nn,nn,nn,nn,nn,nn,nn,nn,nn,nn,nn,nn,nn,nn,nn,nn,nn,nn,nn,nn,nn]
abbrev XcS : Array Bool := #[yy,yy,yy,yy,yy,yy,yy,yy,yy,yy,yy,yy,yy,yy,yy,yy,yy,yy,yy,yy,yy,yy,nn,nn,nn,nn,nn,nn,nn,nn,nn,nn,nn,nn,nn,nn,nn,nn,nn,nn,nn,nn,nn,nn,nn,nn,nn,nn,nn,nn,nn]
abbrev XcT : Array Bool := #[yy,yy,yy,yy,yy,yy,yy,yy,yy,yy,yy,yy,yy,yy,yy,yy,yy,yy,yy,yy,yy,yy,yy,nn,nn,nn,nn,nn,nn,nn,nn,nn,nn,nn,nn,nn,nn,nn,nn,nn,nn,nn,nn,nn,nn,nn,nn,nn,nn,nn,nn]
abbrev XcU : Array Bool := #[yy,yy,yy,yy,yy,yy,yy,yy,yy,yy,yy,yy,yy,yy,yy,yy,yy,yy,yy,yy,yy,yy,yy,yy,nn,nn,nn,nn,nn,nn,nn,nn,nn,nn,nn,nn,nn,nn,nn,nn,nn,nn,nn,nn,nn,nn,nn,nn,nn,nn,nn]
abbrev XcV : Array Bool := #[yy,yy,yy,yy,yy,yy,yy,yy,yy,yy,yy,yy,yy,yy,yy,yy,yy,yy,yy,yy,yy,yy,yy,yy,yy,nn,nn,nn,nn,nn,nn,nn,nn,nn,nn,nn,nn,nn,nn,nn,nn,nn,nn,nn,nn,nn,nn,nn,nn,nn,nn]
abbrev XcW : Array Bool := #[yy,yy,yy,yy,yy,yy,yy,yy,yy,yy,yy,yy,yy,yy,yy,yy,yy,yy,yy,yy,yy,yy,yy,yy,yy,yy,nn,nn,nn,nn,nn,nn,nn,nn,nn,nn,nn,nn,nn,nn,nn,nn,nn,nn,nn,nn,nn,nn,nn,nn,nn]
abbrev XcX : Array Bool := #[yy,yy,yy,yy,yy,yy,yy,yy,yy,yy,yy,yy,yy,yy,yy,yy,yy,yy,yy,yy,yy,yy,yy,yy,yy,yy,yy,nn,nn,nn,nn,nn,nn,nn,nn,nn,nn,nn,nn,nn,nn,nn,nn,nn,nn,nn,nn,nn,nn,nn,nn]
abbrev XcY : Array Bool := #[yy,yy,yy,yy,yy,yy,yy,yy,yy,yy,yy,yy,yy,yy,yy,yy,yy,yy,yy,yy,yy,yy,yy,yy,yy,yy,yy,yy,nn,nn,nn,nn,nn,nn,nn,nn,nn,nn,nn,nn,nn,nn,nn,nn,nn,nn,nn,nn,nn,nn,nn]
abbrev XcZ : Array Bool := #[yy,yy,yy,yy,yy,yy,yy,yy,yy,yy,yy,yy,yy,yy,yy,yy,yy,yy,yy,yy,yy,yy,yy,yy,yy,yy,yy,yy,yy,nn,nn,nn,nn,nn,nn,nn,nn,nn,nn,nn,nn,nn,nn,nn,nn,nn,nn,nn,nn,nn,nn]
abbrev Xda : Array Bool := #[yy,yy,yy,yy,yy,yy,yy,yy,yy,yy,yy,yy,yy,yy,yy,yy,yy,yy,yy,yy,yy,yy,yy,yy,yy,yy,yy,yy,yy,yy,nn,nn,nn,nn,nn,nn,nn,nn,nn,nn,nn,nn,nn,nn,nn,nn,nn,nn,nn,nn,nn]
abbrev Xdb : Array Bool := #[yy,yy,yy,yy,yy,yy,yy,yy,yy,yy,yy,yy,yy,yy,yy,yy,yy,yy,yy,yy,yy,yy,yy,yy,yy,yy,yy,yy,yy,yy,yy,nn,nn,nn,nn,nn,nn,nn,nn,nn,nn,nn,nn,nn,nn,nn,nn,nn,nn,nn,nn]
abbrev Xdc : Array Bool := #[yy,yy,yy,yy,yy,yy,yy,yy,yy,yy,yy,yy,yy,yy,yy,yy,yy,yy,yy,yy,yy,yy,yy,yy,yy,yy,yy,yy,yy,yy,yy,yy,nn,nn,nn,nn,nn,nn,nn,nn,nn,nn,nn,nn,nn,nn,nn,nn,nn,nn,nn]
abbrev Xdd : Array Bool := #[yy,yy,yy,yy,yy,yy,yy,yy,yy,yy,yy,yy,yy,yy,yy,yy,yy,yy,yy,yy,yy,yy,yy,yy,yy,yy,yy,yy,yy,yy,yy,yy,yy,nn,nn,nn,nn,nn,nn,nn,nn,nn,nn,nn,nn,nn,nn,nn,nn,nn,nn]
abbrev Xde : Array Bool := #[yy,yy,yy,yy,yy,yy,yy,yy,yy,yy,yy,yy,yy,yy,yy,yy,yy,yy,yy,yy,yy,yy,yy,yy,yy,yy,yy,yy,yy,yy,yy,yy,yy,yy,nn,nn,nn,nn,nn,nn,nn,nn,nn,nn,nn,nn,nn,nn,nn,nn,nn]
abbrev Xdf : Array Bool := #[yy,yy,yy,yy,yy,yy,yy,yy,yy,yy,yy,yy,yy,yy,yy,yy,yy,yy,yy,yy,yy,yy,yy,yy,yy,yy,yy,yy,yy,yy,yy,yy,yy,yy,yy,nn,nn,nn,nn,nn,nn,nn,nn,nn,nn,nn,nn,nn,nn,nn,nn]
abbrev Xdg : Array Bool := #[yy,yy,yy,yy,yy,yy,yy,yy,yy,yy,yy,yy,yy,yy,yy,yy,yy,yy,yy,yy,yy,yy,yy,yy,yy,yy,yy,yy,yy,yy,yy,yy,yy,yy,yy,yy,nn,nn,nn,nn,nn,nn,nn,nn,nn,nn,nn,nn,nn,nn,nn]
abbrev Xdh : Array Bool := #[yy,yy,yy,yy,yy,yy,yy,yy,yy,yy,yy,yy,yy,yy,yy,yy,yy,yy,yy,yy,yy,yy,yy,yy,yy,yy,yy,yy,yy,yy,yy,yy,yy,yy,yy,yy,yy,nn,nn,nn,nn,nn,nn,nn,nn,nn,nn,nn,nn,nn,nn]
abbrev BU : Array Bool := #[yy,yy,yy,yy,yy,yy,yy,yy,yy,yy,yy,yy,yy,yy,yy,yy,yy,yy,yy,yy,yy,yy,yy,yy,yy,yy,yy,yy,yy,yy,yy,yy,yy,yy,yy,yy,yy,yy,nn,nn,nn,nn,nn,nn,nn,nn,nn,nn,nn,nn,nn]
abbrev BV : Array Bool := #[yy,yy,yy,yy,yy,yy,yy,yy,yy,yy,yy,yy,yy,yy,yy,yy,yy,yy,yy,yy,yy,yy,yy,yy,yy,yy,yy,yy,yy,yy,yy,yy,yy,yy,yy,yy,yy,yy,yy,nn,nn,nn,nn,nn,nn,nn,nn,nn,nn,nn,nn]
abbrev BX : Array Bool := #[yy,yy,yy,yy,yy,yy,yy,yy,yy,yy,yy,yy,yy,yy,yy,yy,yy,yy,yy,yy,yy,yy,yy,yy,yy,yy,yy,yy,yy,yy,yy,yy,yy,yy,yy,yy,yy,yy,yy,yy,nn,nn,nn,nn,nn,nn,nn,nn,nn,nn,nn]
abbrev BZ : Array Bool := #[yy,yy,yy,yy,yy,yy,yy,yy,yy,yy,yy,yy,yy,yy,yy,yy,yy,yy,yy,yy,yy,yy,yy,yy,yy,yy,yy,yy,yy,yy,yy,yy,yy,yy,yy,yy,yy,yy,yy,yy,yy,nn,nn,nn,nn,nn,nn,nn,nn,nn,nn]
abbrev Ea : Array Bool := #[yy,yy,yy,yy,yy,yy,yy,yy,yy,yy,yy,yy,yy,yy,yy,yy,yy,yy,yy,yy,yy,yy,yy,yy,yy,yy,yy,yy,yy,yy,yy,yy,yy,yy,yy,yy,yy,yy,yy,yy,yy,yy,nn,nn,nn,nn,nn,nn,nn,nn,nn]
abbrev Eb : Array Bool := #[yy,yy,yy,yy,yy,yy,yy,yy,yy,yy,yy,yy,yy,yy,yy,yy,yy,yy,yy,yy,yy,yy,yy,yy,yy,yy,yy,yy,yy,yy,yy,yy,yy,yy,yy,yy,yy,yy,yy,yy,yy,yy,yy,nn,nn,nn,nn,nn,nn,nn,nn]
abbrev Ec : Array Bool := #[yy,yy,yy,yy,yy,yy,yy,yy,yy,yy,yy,yy,yy,yy,yy,yy,yy,yy,yy,yy,yy,yy,yy,yy,yy,yy,yy,yy,yy,yy,yy,yy,yy,yy,yy,yy,yy,yy,yy,yy,yy,yy,yy,yy,nn,nn,nn,nn,nn,nn,nn]
abbrev Ed : Array Bool := #[yy,yy,yy,yy,yy,yy,yy,yy,yy,yy,yy,yy,yy,yy,yy,yy,yy,yy,yy,yy,yy,yy,yy,yy,yy,yy,yy,yy,yy,yy,yy,yy,yy,yy,yy,yy,yy,yy,yy,yy,yy,yy,yy,yy,yy,nn,nn,nn,nn,nn,nn]
abbrev Ee : Array Bool := #[yy,yy,yy,yy,yy,yy,yy,yy,yy,yy,yy,yy,yy,yy,yy,yy,yy,yy,yy,yy,yy,yy,yy,yy,yy,yy,yy,yy,yy,yy,yy,yy,yy,yy,yy,yy,yy,yy,yy,yy,yy,yy,yy,yy,yy,yy,nn,nn,nn,nn,nn]
abbrev Ef : Array Bool := #[yy,yy,yy,yy,yy,yy,yy,yy,yy,yy,yy,yy,yy,yy,yy,yy,yy,yy,yy,yy,yy,yy,yy,yy,yy,yy,yy,yy,yy,yy,yy,yy,yy,yy,yy,yy,yy,yy,yy,yy,yy,yy,yy,yy,yy,yy,yy,nn,nn,nn,nn]
abbrev Eg : Array Bool := #[yy,yy,yy,yy,yy,yy,yy,yy,yy,yy,yy,yy,yy,yy,yy,yy,yy,yy,yy,yy,yy,yy,yy,yy,yy,yy,yy,yy,yy,yy,yy,yy,yy,yy,yy,yy,yy,yy,yy,yy,yy,yy,yy,yy,yy,yy,yy,yy,nn,nn,nn]
abbrev Eh : Array Bool := #[yy,yy,yy,yy,yy,yy,yy,yy,yy,yy,yy,yy,yy,yy,yy,yy,yy,yy,yy,yy,yy,yy,yy,yy,yy,yy,yy,yy,yy,yy,yy,yy,yy,yy,yy,yy,yy,yy,yy,yy,yy,yy,yy,yy,yy,yy,yy,yy,yy,nn,nn]
abbrev Ei : Array Bool := #[yy,yy,yy,yy,yy,yy,yy,yy,yy,yy,yy,yy,yy,yy,yy,yy,yy,yy,yy,yy,yy,yy,yy,yy,yy,yy,yy,yy,yy,yy,yy,yy,yy,yy,yy,yy,yy,yy,yy,yy,yy,yy,yy,yy,yy,yy,yy,yy,yy,yy,nn]
abbrev Ej : Array Bool := #[yy,yy,yy,yy,yy,yy,yy,yy,yy,yy,yy,yy,yy,yy,yy,yy,yy,yy,yy,yy,yy,yy,yy,yy,yy,yy,yy,yy,yy,yy,yy,yy,yy,yy,yy,yy,yy,yy,yy,yy,yy,yy,yy,yy,yy,yy,yy,yy,yy,yy,yy]
def Xi.T4 : Bool × List (List Nat × List Nat) := (true, [([], []), ([0], [0]), ([1], [1]), ([], []), ([3], [3]), ([4], [4]), ([2, 5], [2, 5]), ([6], [6])])
def Xi.B4 : List Nat := [0, 1, 3, 0, 8, 24, 63, 127]
theorem Xi.TE : JH .any (opsOf Tryz.f26 4) = Xi.T4 := by kernel_rfl
theorem Xi.MN : Z4 Xi.T4.2 Xi.B4 = true := by kernel_rfl
def Xi.T9 : Bool × List (List Nat × List Nat) := (true, [([], []), ([0], [0]), ([], []), ([2], [2]), ([], []), ([3, 4], [3, 4]), ([1, 5], [1, 5]), ([6, 6, 0, 1, 2, 3, 4, 5, 6], [6])])
def Xi.B9 : List Nat := [0, 1, 0, 4, 0, 28, 63, 127]
theorem Xi.tab9 : JH .any (opsOf Tryz.f26 9) = Xi.T9 := by kernel_rfl
theorem Xi.Xwe : Z4 Xi.T9.2 Xi.B9 = true := by kernel_rfl
def Xi.T15 : Bool × List (List Nat × List Nat) := (true, [([], []), ([0], [0]), ([], []), ([1, 2], [1, 2]), ([3], [3]), ([4], [4]), ([], []), ([6], [6]), ([5, 7], [5, 7]), ([8], [8]), ([9], [9]), ([10, 9], [9, 10]), ([11, 9, 9], [9, 11]), ([12], [12]), ([13, 12], [12, 13]), ([12], [12]), ([14, 15, 12], [12, 14, 15]), ([16, 12], [12, 16]), ([12], [12]), ([18, 12], [12, 18]), ([12], [12]), ([19, 20, 12], [12, 19, 20]), ([21, 12], [12, 21]), ([17, 22, 12, 12], [12, 17, 22]), ([23, 12], [12, 23]), ([12, 24, 9], [9, 12, 24]), ([9, 25], [9, 25]), ([26, 23], [26]), ([27], [27]), ([28, 27], [27, 28]), ([29, 27], [27, 29]), ([30, 27, 27], [27, 30]), ([31], [31]), ([32, 31], [31, 32]), ([31], [31]), ([33, 34, 31, 31], [31, 33, 34]), ([35, 31], [31, 35]), ([31, 36, 27], [27, 31, 36]), ([37, 35, 27], [27, 37]), ([38], [38]), ([39, 38], [38, 39]), ([38], [38]), ([40, 41, 38], [38, 40, 41]), ([42, 38], [38, 42]), ([38], [38]), ([38], [38]), ([44, 45, 38], [38, 44, 45]), ([46, 38], [38, 46]), ([43, 47, 38, 38], [38, 43, 47]), ([48, 38], [38, 48]), ([38, 49, 27], [27, 38, 49]), ([27, 50], [27, 50])])
def Xi.B15 : List Nat := [0, 1, 0, 7, 15, 31, 0, 64, 255, 511, 1023, 2047, 4095, 8191, 16383, 8191, 65535, 131071, 8191, 270335, 8191, 1843199, 3940351, 8388607, 16777215, 33554431, 67108863, 134217727, 268435455, 536870911, 1073741823, 2147483647, 4294967295, 8589934591, 4294967295, 34359738367, 68719476735, 137438953471, 274877906943, 549755813887, 1099511627775, 549755813887, 4398046511103, 8796093022207, 549755813887, 549755813887, 53326313947135, 123695058124799, 281474976710655, 562949953421311, 1125899906842623, 2251799813685247]
theorem Xi.Qp : JH .any (opsOf Tryz.f26 15) = Xi.T15 := by kernel_rfl
theorem Xi.KE : Z4 Xi.T15.2 Xi.B15 = true := by kernel_rfl
def Xi.T17 : Bool × List (List Nat × List Nat) := (true, [([], []), ([0], [0]), ([1], [1]), ([2], [2]), ([3], [3]), ([4, 3], [3, 4]), ([3], [3]), ([5, 6, 3, 3], [3, 5, 6]), ([7, 3], [3, 7]), ([8, 7, 3], [3, 8]), ([9], [9]), ([10, 9], [9, 10]), ([9], [9]), ([11, 12, 9], [9, 11, 12]), ([13, 9], [9, 13]), ([14, 9], [9, 14]), ([9], [9]), ([16, 9], [9, 16]), ([9], [9]), ([17, 18, 9], [9, 17, 18]), ([19, 9], [9, 19]), ([20, 9], [9, 20]), ([15, 21, 9], [9, 15, 21]), ([9, 22, 3], [3, 9, 22]), ([23, 9, 3], [3, 23]), ([24], [24]), ([25, 24], [24, 25]), ([24], [24]), ([26, 27, 24, 24], [24, 26, 27]), ([28, 28, 24], [24, 28]), ([29], [29]), ([29], [29]), ([30, 31, 29, 29], [29, 30, 31]), ([32, 29], [29, 32]), ([29, 33, 24], [24, 29, 33]), ([24, 34, 3], [3, 24, 34]), ([35, 32, 3], [3, 35]), ([36], [36]), ([37, 36], [36, 37]), ([36], [36]), ([38, 39, 36], [36, 38, 39]), ([40, 36], [36, 40]), ([41, 36], [36, 41]), ([36], [36]), ([36], [36]), ([43, 44, 36], [36, 43, 44]), ([45, 36], [36, 45]), ([46, 36], [36, 46]), ([42, 47, 36], [36, 42, 47]), ([36, 48, 3], [3, 36, 48]), ([3, 49], [3, 49])])
def Xi.B17 : List Nat := [0, 1, 3, 7, 15, 31, 15, 127, 255, 511, 1023, 2047, 1023, 8191, 16383, 32767, 1023, 66559, 1023, 459775, 984063, 2032639, 4194303, 8388607, 16777215, 33554431, 67108863, 33554431, 268435455, 536870911, 1073741823, 1073741823, 4294967295, 8589934591, 17179869183, 34359738367, 68719476735, 137438953471, 274877906943, 137438953471, 1099511627775, 2199023255551, 4398046511103, 137438953471, 137438953471, 26525718020095, 61710090108927, 132078834286591, 281474976710655, 562949953421311, 1125899906842623]
theorem Xi.Xdi : JH .any (opsOf Tryz.f26 17) = Xi.T17 := by kernel_rfl
theorem Xi.El : Z4 Xi.T17.2 Xi.B17 = true := by kernel_rfl
set_option maxHeartbeats 8000000 in
set_option maxRecDepth 100000 in
theorem Xi.to (A0 : Option Addr) (c0 : Nat) (D : List S56) (A1 : Option Addr) (c1 : Nat) (M : List S56) (A2 : Option Addr) (c2 : Nat) (L : List S76) (s : Int) (d : Bool) (w : World) (hD : Kd.C k56 w A0 D.length D) (hc0 : D.length ≤ c0) (hM : Kd.C k56 w A1 M.length M) (hc1 : M.length ≤ c1) (hL : Kd.C k76 w A2 L.length L) (hc2 : L.length ≤ c2) (hgd : ∃ k, Yj.f k D = some (Ji D)) (hgm : ∃ k, Yj.f k M = some (Ji M)) (hlo : ∃ k, Xt.f k L = some (YP L)) :
 Calls Tryz.prog 26 #[.agg #[.slice A0 D.length c0, .slice A1 M.length c1, .slice A2 L.length c2, .int .i64 s, .bool d]] w fun e w' => e = .returned (.bool (Jm D M L s d)) ∧ Below w.heap.size w w' := by
 have hu31 := Tryz.underlying31; have hu41 := Tryz.underlying76; have hu25 := Tryz.underlying56; have HD := zz hD; have HM := zz hM; have HL := zz hL; have HCD := zz hc0; have HCM := zz hc1; have HCL := zz hc2; obtain ⟨kd, hgd⟩ := hgd; obtain ⟨km, hgm⟩ := hgm; obtain ⟨kl, hlo⟩ := hlo; have GD := zz hgd; have GM := zz hgm; have GL := zz hlo; have hlm : L.length ≤ 9223372036854775807 := hL.2.1; clear hD hM hL hc0 hc1 hc2 hgd hgm hlo
 go_enter Tryz.func26, Tryz.ntmps26
 go_wp2_with fail
 have BE0 : Aside0 (U5 (w.alloc (.cells #[.slice A0 D.length c0, .slice A1 M.length c1, .slice A2 L.length c2, .int .i64 s, .bool d] 31)) w.heap.size (.slice A0 D.length c0) (.slice A1 M.length c1) (.slice A2 L.length c2) s d) := ⟨U5.new _ _ _ _ _ _⟩
 have LB0 := zz (Xj (Below.refl w.heap.size w) (.cells #[.slice A0 D.length c0, .slice A1 M.length c1, .slice A2 L.length c2, .int .i64 s, .bool d] 31)); refine (Yj.calls kd A0 c0 D (Ji D) _ (Kd.Xg HD.out LB0.out) HCD.out GD.out).mono ?_; rintro e w1 ⟨rfl, hb⟩; have BE1 := zz (BE0.out.below hb); have LB1 := zz (Xc LB0.out hb); clear hb BE0 LB0; obtain ⟨x0, x1, x2, x3, x4⟩ := BE1.out.cells
 cases hg0 : Ji D with
 | false =>
  go_wp2
  go_ret
  exact ⟨by rw [JY (by unfold Vr; rw [hg0]; rfl)]; first | done | rfl, LB1.out⟩
 | true =>
  go_wp2_with fail
  refine (Yj.calls km A1 c1 M (Ji M) _ (Kd.Xg HM.out LB1.out) HCM.out GM.out).mono ?_; rintro e w2 ⟨rfl, hb⟩; have BE2 := zz (BE1.out.below hb); have LB2 := zz (Xc LB1.out hb); clear hb BE1 LB1 x0 x1 x2 x3 x4; obtain ⟨x0, x1, x2, x3, x4⟩ := BE2.out.cells
  cases hg1 : Ji M with
  | false =>
   go_wp2
   go_ret
   exact ⟨by rw [JY (by unfold Vr; rw [hg0, hg1]; rfl)]; first | done | rfl, LB2.out⟩
  | true =>
   go_wp2_with fail
   refine (Xt.calls kl A2 c2 L (YP L) _ (Kd.Xg HL.out LB2.out) HCL.out GL.out).mono ?_; rintro e w3 ⟨rfl, hb⟩; have BE3 := zz (BE2.out.below hb); have LB3 := zz (Xc LB2.out hb); clear hb BE2 LB2 x0 x1 x2 x3 x4; obtain ⟨x0, x1, x2, x3, x4⟩ := BE3.out.cells
   cases hg2 : YP L with
   | false =>
    go_wp2
    go_ret
    exact ⟨by rw [JY (by unfold Vr; rw [hg0, hg1, hg2]; rfl)]; first | done | rfl, LB3.out⟩
   | true =>
    go_wp2_with fail
    refine (Zu.calls s 0 (L.length : Int) (inB s 0 (L.length : Int)) _ (MG _ _ _)).mono ?_; rintro e w4 ⟨rfl, nd, hw⟩
    have hb : Below w3.heap.size w3 w4 := by rw [hw]; exact XN (Below.refl _ _) nd
    have BE4 := zz (BE3.out.below hb); have LB4 := zz (Xc LB3.out hb); clear hb hw nd BE3 LB3 x0 x1 x2 x3 x4; obtain ⟨x0, x1, x2, x3, x4⟩ := BE4.out.cells
    cases hg3 : inB s 0 (L.length : Int) with
    | false =>
     go_wp2
     go_ret
     exact ⟨by rw [JY (by unfold Vr; rw [hg0, hg1, hg2, hg3]; rfl)]; first | done | rfl, LB4.out⟩
    | true =>
     have hV := zz (Uv hg0); have hVM := zz (Uv hg1); have hlen := ZK hg2; have hG := zz (JB hg2); obtain ⟨hs0, hs1⟩ := Db.mp hg3
     go_wp2_with fail
     refine (XL.to 400 A0 c0 D A2 c2 L (XE D L) _ (Kd.Xg HD.out LB4.out) HCD.out (Kd.Xg HL.out LB4.out) HCL.out (Wz hV.out hg2 400 (by omega))).mono ?_; rintro e w5 ⟨v3, rfl, hr, hb⟩; obtain ⟨A3, c3, e3⟩ := Kd.Y2 hr; subst e3; have HR := zz (Kd.X6 hr).2.2; have HCR := zz (Kd.X6 hr).2.1; have BE5 := zz (BE4.out.below hb); have LB5 := zz (Xc LB4.out hb); have CD := zz (Kd.Xg HD.out LB5.out); have CM := zz (Kd.Xg HM.out LB5.out); have CL := zz (Kd.Xg HL.out LB5.out); clear hb hr BE4 LB4 x0 x1 x2 x3 x4 HD HM HL GD GM GL; obtain ⟨x0, x1, x2, x3, x4⟩ := BE5.out.cells
     go_wp2_with fail
     obtain ⟨nd, hnd⟩ : ∃ nd, Uu L = nd := ⟨_, rfl⟩
     have hndb : nd ≤ 483 := by rw [← hnd]; exact Xcs (by omega)
     have hw1 : wrap64 ((L.length : Int) + (nd : Int)) = (L.length : Int) + (nd : Int) := T.wrap_small (by omega) (by omega); refine Yw (n := 8) (S := fun w' => w'.cell? ⟨w.heap.size, 0, none⟩ = some (.slice A0 D.length c0) ∧ w'.cell? ⟨w.heap.size, 1, none⟩ = some (.slice A1 M.length c1) ∧ w'.cell? ⟨w.heap.size, 2, none⟩ = some (.slice A2 L.length c2) ∧ w'.cell? ⟨w.heap.size, 3, none⟩ = some (.int .i64 s) ∧ w'.cell? ⟨w.heap.size, 4, none⟩ = some (.bool d)) (ds := []) mES0 zb6 rfl rfl ⟨x0, x1, x2, x3, x4⟩ (fun hHeld => ?_); refine XH Xi.TE Xi.MN (fun HT_ HW_ => ?_); have LW := zz (Xx (Below.refl w5.heap.size w5)); generalize w5.drew = w6 at LW hHeld ⊢; refine pu 0 39 mES1 HT_ ?_; refine tk 1 40 mES2 HT_ HW_ hHeld ?_; refine pu 2 41 mES3 HT_ ?_; refine pu 3 42 mES4 HT_ ?_; refine tk 4 43 mES5 HT_ HW_ hHeld ?_; refine Zj (i := 5) (N := some 44) mES6 rfl rfl (Yl HT_.out zb6) (by decide) (fun K hK => ?_); refine YI Tryz.func44 zb6 rfl #[.slice A2 L.length c2] (by rfl) rfl rfl zb2 ?_
     with_reducible refine (X9.calls 4000 A2 c2 L (Uu L : Int) _ (Kd.Xg CL.out LW.out) HCL.out (XtS hG.out (by omega) 4000 (by omega))).mono ?_
     rintro e w7 ⟨rfl, hb⟩; refine ⟨_, rfl, ?_⟩; have LW7 := zz (Xc LW.out hb); clear hb LW; refine hK.out _ _ ⟨cc LW7.out x0, cc LW7.out x1, cc LW7.out x2, cc LW7.out x3, cc LW7.out x4⟩ (fun hHeld => ?_); clear hK K; refine XQ (a' := ?_) ?_ ?_; rotate_left
     ·show Act.put _ (some 44) _ = _
      simp only [Act.put, List.setIfInBounds_toArray, List.set_cons_zero, List.set_cons_succ, Xz, XF]
      rfl
     refine pu 6 45 mES7 HT_ ?_; refine pu 7 46 mES8 HT_ ?_; refine YX (YA HT_.out zb6) ?_; clear hHeld; simp only [hnd, Xz, hw1]
     by_cases hq : 150 < (L.length : Int) + (nd : Int)
     ·have hqb : decide (150 < (L.length : Int) + (nd : Int)) = true := decide_eq_true hq
      simp only [hqb]
      go_wp2
      go_ret
      exact ⟨by rw [JY (by unfold Vr; rw [hg0, hg1, hg2, hg3, hnd, decide_eq_false (by omega)]; rfl)]; first | done | rfl, Xc LB5.out LW7.out⟩
     have hqb : decide (150 < (L.length : Int) + (nd : Int)) = false := decide_eq_false hq; simp only [hqb]
     have hH : Vr D M L s = true := by unfold Vr; rw [hg0, hg1, hg2, hg3, hnd, decide_eq_true (by omega)]; rfl
     have z0 := cc LW7.out x0; have z1 := cc LW7.out x1; have z2 := cc LW7.out x2; have z3 := cc LW7.out x3; have z4 := cc LW7.out x4
     go_wp2
     go_loopg [4] (L.length + 1 - s.toNat) (fun kq v4 w' => ∃ x : Int, v4 = .int .i64 x ∧ Aside0 (s ≤ x ∧ x.toNat + kq = L.length + 1) ∧ Aside0 (∀ n : Nat, n ≤ L.length → s ≤ (n : Int) → (n : Int) < x → preB D (L.take n) = true) ∧ Aside0 (Below w5.heap.size w5 w'))
     case atStart => exact ⟨s, rfl, ⟨by omega, by omega⟩, ⟨fun n h1 h2 h3 => by omega⟩, LW7⟩
     case round =>
      clear LW7 z0 z1 z2 z3 z4; obtain ⟨x, rfl, hx, hA, LW⟩ := hrel; have z0 := cc LW.out x0; have z1 := cc LW.out x1; have z2 := cc LW.out x2; have z3 := cc LW.out x3; have z4 := cc LW.out x4; have hx0 : s ≤ x := hx.out.1
      cases gk with
      | succ k1 =>
       have hxl : x ≤ (L.length : Int) := by have := hx.out; omega
       have qb : decide (x ≤ (L.length : Int)) = true := decide_eq_true hxl
       obtain ⟨y, hy⟩ : ∃ y, L.take x.toNat = y := ⟨_, rfl⟩
       have hyl : y.length = x.toNat := by rw [← hy, List.length_take]; omega
       obtain ⟨i0, hi0, _, hsz, _⟩ := info_parts Em; have hcut := Xb7 (P := Tryz.prog) 29 76 .i64 Tryz.underlying29 hi0 A2 L.length c2 x (by omega) hxl HCL.out
       have hCy : Kd.C k76 w5 A2 y.length y := by
        have h_ := Kd.Xb8 (m := x.toNat) CL.out (by omega); rw [hy] at h_; exact h_
       rw [← hyl] at hcut; have HYL := zz hyl; have CY := zz hCy; have HCY := zz (show y.length ≤ c2 by have := HCL.out; omega); have hGy := zz (hy ▸ hG.out.take x.toNat)
       have hLy : Aside0 (YP y = true) := ⟨hy ▸ BG hg2 x.toNat⟩
       have hyl2 : y.length ≤ 150 := by omega
       have HY := zz hy; clear hCy hi0 hsz hyl hy
       go_wp2_with fail
       refine Yw (n := 8) (S := fun w' => w'.cell? ⟨w.heap.size, 0, none⟩ = some (.slice A0 D.length c0) ∧ w'.cell? ⟨w.heap.size, 1, none⟩ = some (.slice A1 M.length c1) ∧ w'.cell? ⟨w.heap.size, 2, none⟩ = some (.slice A2 L.length c2) ∧ w'.cell? ⟨w.heap.size, 3, none⟩ = some (.int .i64 s) ∧ w'.cell? ⟨w.heap.size, 4, none⟩ = some (.bool d)) (ds := []) mES0 zb6 rfl rfl ⟨z0, z1, z2, z3, z4⟩ (fun hHeld => ?_); refine XH Xi.tab9 Xi.Xwe (fun HT_ HW_ => ?_); have LW2 := zz (Xx (w := w5) LW.out); generalize wr.drew = w8 at LW2 hHeld ⊢; clear z0 z1 z2 z3 z4 LW; refine pu 0 56 mES1 HT_ ?_; refine tk 1 57 mES2 HT_ HW_ hHeld ?_; refine pu 2 58 mES3 HT_ ?_; refine tk 3 59 mES4 HT_ HW_ hHeld ?_; refine pu 4 60 mES5 HT_ ?_; refine pu 5 61 mES6 HT_ ?_; refine Zj (i := 6) (N := some 62) mES7 rfl rfl (Yl HT_.out zb6) (by decide) (fun K hK => ?_); refine YI Tryz.func39 zb6 rfl #[.slice A0 D.length c0, .slice A2 y.length c2] (by rfl) rfl rfl zb2 ?_
       with_reducible refine (XL.to 400 A0 c0 D A2 c2 y (XE D y) _ (Kd.Xg CD.out LW2.out) HCD.out (Kd.Xg CY.out LW2.out) HCY.out (Wz hV.out hLy.out 400 (by omega))).mono ?_
       rintro e w9 ⟨v5, rfl, hr, hb⟩; refine ⟨_, rfl, ?_⟩; have LW9 := zz (Xc LW2.out hb); have hsz8 := zz LW2.out.size; obtain ⟨A5, c5, e5⟩ := Kd.Y2 hr; subst e5; have R9 := zz (Kd.XZ (Kd.YY (Kd.ZQ hr) hsz8.out) (ok' := fun j => w8.heap.size ≤ j ∧ j < w9.heap.size) (fun j hj => ⟨hj.2.1, hj.2.2.1⟩)); clear hb hr LW2; refine hK.out _ _ ⟨cc LW9.out x0, cc LW9.out x1, cc LW9.out x2, cc LW9.out x3, cc LW9.out x4⟩ (fun hHeld => ?_); clear hK K; refine XQ (a' := ?_) ?_ ?_; rotate_left
       ·show Act.put _ (some 62) _ = _
        simp only [Act.put, List.setIfInBounds_toArray, List.set_cons_zero, List.set_cons_succ, Xz, XF]
        rfl
       refine pu 7 5 mES8 HT_ ?_; refine YX (YA HT_.out zb6) ?_; clear hHeld; have z0 := cc LW9.out x0; have z1 := cc LW9.out x1; have z2 := cc LW9.out x2; have z3 := cc LW9.out x3; have z4 := cc LW9.out x4; have hXV := zz (Uw hV.out hLy.out)
       go_wp2_with fail
       refine (Yj.calls 100 A5 c5 (XE D y) (Ji (XE D y)) _ (Kd.X6 R9.out).2.2 (Kd.X6 R9.out).2.1 (XtT hXV.out 100 (by omega))).mono ?_; rintro e w10 ⟨rfl, hb⟩; have R10 := zz (Kd.Xr R9.out hb); have LW10 := zz (Xc LW9.out hb); have hsz9 := zz hb.size; clear hb R9 LW9 z0 z1 z2 z3 z4; have z0 := cc LW10.out x0; have z1 := cc LW10.out x1; have z2 := cc LW10.out x2; have z3 := cc LW10.out x3; have z4 := cc LW10.out x4
       cases hp0 : Ji (XE D y) with
       | false =>
        go_wp2
        go_ret
        exact ⟨by rw [XiG x.toNat zb45 zb45 (by rw [HY.out]; unfold preB; rw [hp0]; rfl)]; first | done | rfl, Xc LB5.out LW10.out⟩
       | true =>
        go_wp2_with fail
        refine (X5.to 2000 (fun j => w8.heap.size ≤ j ∧ j < w9.heap.size) A5 c5 (XE D y) A2 c2 y (MV y (XE D y) (SQ y)) w5 w10 LW10.out R10.out CY.out HCY.out (Xb5 hXV.out hLy.out 2000 (by omega))).mono ?_; rintro e w11 ⟨rfl, hlw, hkp⟩; have LW11 := zz hlw; clear hlw hkp R10 LW10 z0 z1 z2 z3 z4; have z0 := cc LW11.out x0; have z1 := cc LW11.out x1; have z2 := cc LW11.out x2; have z3 := cc LW11.out x3; have z4 := cc LW11.out x4
        cases hp1 : MV y (XE D y) (SQ y) with
        | false =>
         go_wp2
         go_ret
         exact ⟨by rw [XiG x.toNat zb45 zb45 (by rw [HY.out]; unfold preB; rw [hp0, hp1]; rfl)]; first | done | rfl, Xc LB5.out LW11.out⟩
        | true =>
         have hwx : wrap64 (x + 1) = x + 1 := T.wrap_small (by omega) (by omega); have hwx2 : IntKind.i64.wrap (x + 1) = x + 1 := (Xz _).trans hwx
         go_wp2
         go_roundg k1
         case measure => omega
         case rel => exact ⟨x + 1, rfl, ⟨zb45, zb45⟩, ⟨fun n h1 h2 h3 => by
          by_cases e : (n : Int) = x
          ·have en : n = x.toNat := by omega
           rw [en, HY.out]; unfold preB; rw [hp0, hp1]; rfl
          ·exact hA.out n h1 h2 (by omega)⟩, LW11⟩
      | zero =>
       have qb : decide (x ≤ (L.length : Int)) = false := decide_eq_false zb45
       have hPre : Aside0 (∀ n : Nat, n ≤ L.length → s ≤ (n : Int) → preB D (L.take n) = true) := ⟨fun n h1 h2 => hA.out n h1 h2 zb45⟩
       clear hA
       go_wp2
       go_loopg [6] 5 (fun kq v6 w' => ∃ p : Int, v6 = .int .i64 p ∧ Aside0 (0 ≤ p ∧ p.toNat + kq = 5) ∧ Aside0 (∀ n : Nat, n < 5 → (n : Int) < p → Vq D M L s d (n : Int) = true) ∧ Aside0 (Below w5.heap.size w5 w'))
       case atStart => exact ⟨0, rfl, ⟨by omega, by omega⟩, ⟨fun n h1 h2 => by omega⟩, LW⟩
       case round =>
        clear LW z0 z1 z2 z3 z4 hx0 hx qb; obtain ⟨p, rfl, hp, hB, LW⟩ := hrel; have z0 := cc LW.out x0; have z1 := cc LW.out x1; have z2 := cc LW.out x2; have z3 := cc LW.out x3; have z4 := cc LW.out x4; have hp0 : 0 ≤ p := hp.out.1
        cases gk with
        | zero =>
         have qb : decide (p < 5) = false := decide_eq_false (by have := hp.out; omega)
         go_wp2
         go_ret
         exact ⟨by rw [Xrj hH (fun n h1 h2 => hPre.out n h1 h2) (fun n h1 => hB.out n h1 (by have := hp.out; omega))]; first | done | rfl, Xc LB5.out LW.out⟩
        | succ k1 =>
         have hp5 : p < 5 := by have := hp.out; omega
         have qb : decide (p < 5) = true := decide_eq_true hp5; have hnp := zz (show ((p.toNat : Nat) : Int) = p by omega)
         have hlD : p < (D.length : Int) := by have := hV.out.1; omega
         have hlM : p < (M.length : Int) := by have := hVM.out.1; omega
         have hlR : p < ((XE D L).length : Int) := by have := (Uw hV.out hg2).1; omega
         have q0 := eq_true hp0; have qD := eq_true hlD; have qM := eq_true hlM; have qR := eq_true hlR; obtain ⟨aD, BD, bD, eD, d0, d1, d2, hdl, hdc⟩ := Zl CD.out p hp0 hlD; obtain ⟨aM, BM, bM, eM, m0, m1, m2, hml, hmc⟩ := Zl CM.out p hp0 hlM; obtain ⟨aR, BR, bR, eR, r0, r1, r2, hrl, hrc⟩ := Zl HR.out p hp0 hlR; subst eD eM eR; have ID := zz hdc; have JD := zz hdl; have IM := zz hmc; have JM := zz hml; have IR := zz hrc; have JR := zz hrl; clear hdl hdc hml hmc hrl hrc hlD hlM hlR; have okD := zz (PR hg0 p hp0 hp5); have okM := zz (PR hg1 p hp0 hp5); have okR := zz (PR (Xcv (hPre.out L.length (Nat.le_refl _) hs1)) p hp0 hp5); have YD := zz (show w5.cell? (aD.add (p.toNat * 3)) = _ ∧ w5.cell? ⟨(aD.add (p.toNat * 3)).block, (aD.add (p.toNat * 3)).off + 1, none⟩ = _ ∧ w5.cell? ⟨(aD.add (p.toNat * 3)).block, (aD.add (p.toNat * 3)).off + 2, none⟩ = _ from ⟨d0, d1, d2⟩); have YM := zz (show w5.cell? (aM.add (p.toNat * 3)) = _ ∧ w5.cell? ⟨(aM.add (p.toNat * 3)).block, (aM.add (p.toNat * 3)).off + 1, none⟩ = _ ∧ w5.cell? ⟨(aM.add (p.toNat * 3)).block, (aM.add (p.toNat * 3)).off + 2, none⟩ = _ from ⟨m0, m1, m2⟩); have YR := zz (show w5.cell? (aR.add (p.toNat * 3)) = _ ∧ w5.cell? ⟨(aR.add (p.toNat * 3)).block, (aR.add (p.toNat * 3)).off + 1, none⟩ = _ ∧ w5.cell? ⟨(aR.add (p.toNat * 3)).block, (aR.add (p.toNat * 3)).off + 2, none⟩ = _ from ⟨r0, r1, r2⟩); clear d0 d1 d2 m0 m1 m2 r0 r1 r2
         go_upto_region 15 with (fail)
         go_cut [130] (fun v130 wc => ∃ b : Bool, v130 = .bool b ∧ Aside0 (b = true → Vq D M L s d p = false) ∧ Aside0 (b = false → (pg D p).f0 ≤ s ∧ (d = true → VC (pg M p) (pg D p) = true) ∧ (d = false → JL L p = false → VC (pg M p) (pg (XE D L) p) = true)) ∧ Aside0 (Below w5.heap.size w5 wc))
         case first =>
          by_cases cs1 : (Xb D p).f0 > s
          ·have c1b : decide (s < (Xb D p).f0) = true := decide_eq_true cs1
           as_aux_lemma =>
            have LW2 : Aside0 (Below w5.heap.size w5 wr.drew) := ⟨Xx LW.out⟩
            refine Yw (n := 52) (S := fun w' => w'.cell? ⟨w.heap.size, 0, none⟩ = some (.slice (some aD) D.length c0) ∧ w'.cell? ⟨w.heap.size, 1, none⟩ = some (.slice (some aM) M.length c1) ∧ w'.cell? ⟨w.heap.size, 2, none⟩ = some (.slice A2 L.length c2) ∧ w'.cell? ⟨w.heap.size, 3, none⟩ = some (.int .i64 s) ∧ w'.cell? ⟨w.heap.size, 4, none⟩ = some (.bool d) ∧ w'.cell? (aD.add (p.toNat * 3)) = some (.int .i64 (Xb D p).f0) ∧ w'.cell? ⟨(aD.add (p.toNat * 3)).block, (aD.add (p.toNat * 3)).off + 1, none⟩ = some (.int .i64 (Xb D p).f1) ∧ w'.cell? ⟨(aD.add (p.toNat * 3)).block, (aD.add (p.toNat * 3)).off + 2, none⟩ = some (.slice BD (Xb D p).f2.length bD) ∧ w'.cell? (aM.add (p.toNat * 3)) = some (.int .i64 (Xb M p).f0) ∧ w'.cell? ⟨(aM.add (p.toNat * 3)).block, (aM.add (p.toNat * 3)).off + 1, none⟩ = some (.int .i64 (Xb M p).f1) ∧ w'.cell? ⟨(aM.add (p.toNat * 3)).block, (aM.add (p.toNat * 3)).off + 2, none⟩ = some (.slice BM (Xb M p).f2.length bM) ∧ w'.cell? (aR.add (p.toNat * 3)) = some (.int .i64 (Xb (XE D L) p).f0) ∧ w'.cell? ⟨(aR.add (p.toNat * 3)).block, (aR.add (p.toNat * 3)).off + 1, none⟩ = some (.int .i64 (Xb (XE D L) p).f1) ∧ w'.cell? ⟨(aR.add (p.toNat * 3)).block, (aR.add (p.toNat * 3)).off + 2, none⟩ = some (.slice BR (Xb (XE D L) p).f2.length bR)) (ds := []) XkK zb6 rfl rfl ⟨cc LW2.out x0, cc LW2.out x1, cc LW2.out x2, cc LW2.out x3, cc LW2.out x4, cc LW2.out YD.out.1, cc LW2.out YD.out.2.1, cc LW2.out YD.out.2.2, cc LW2.out YM.out.1, cc LW2.out YM.out.2.1, cc LW2.out YM.out.2.2, cc LW2.out YR.out.1, cc LW2.out YR.out.2.1, cc LW2.out YR.out.2.2⟩ (fun hHeld => ?_); refine XH Xi.Qp Xi.KE (fun HT_ HW_ => ?_)
            generalize wr.drew = w20 at LW2 hHeld ⊢; clear z0 z1 z2 z3 z4 LW; refine pu 0 79 Ii HT_ ?_; refine tk 1 80 Ij HT_ HW_ hHeld ?_; refine pu 2 81 Ik HT_ ?_; refine pu 3 82 Il HT_ ?_; refine pu 4 83 Im HT_ ?_; refine tk 5 84 Io HT_ HW_ hHeld ?_; refine pu 6 85 Ip HT_ ?_; refine tk 7 86 Iq HT_ HW_ hHeld ?_; refine pu 8 87 Ir HT_ ?_; refine pu 9 88 Iu HT_ ?_; refine pn 10 89 Iw HT_ ?_; refine pn 11 90 Iy HT_ ?_; refine pn 12 91 Iz HT_ ?_; refine pn 13 92 I1 HT_ ?_; refine pn 14 93 I4 HT_ ?_; refine pn 15 94 I5 HT_ ?_; refine pn 16 95 I6 HT_ ?_; refine pn 17 96 I7 HT_ ?_; refine pn 18 97 I8 HT_ ?_; refine pn 19 98 I9 HT_ ?_; refine pn 20 99 IA HT_ ?_; refine pn 21 100 IB HT_ ?_; refine pn 22 101 IC HT_ ?_; refine pn 23 102 IE HT_ ?_; refine pn 24 103 IG HT_ ?_; refine pn 25 104 II HT_ ?_; refine pu 26 105 IJ HT_ ?_; refine pu 27 106 IK HT_ ?_; refine pn 28 107 IL HT_ ?_; refine pn 29 108 IP HT_ ?_; refine pn 30 109 IQ HT_ ?_; refine pn 31 110 IU HT_ ?_; refine pn 32 111 IV HT_ ?_; refine pn 33 112 IW HT_ ?_; refine pn 34 113 IX HT_ ?_; refine pn 35 114 IY HT_ ?_; refine pn 36 115 IZ HT_ ?_; refine pn 37 116 Qa HT_ ?_; refine pn 38 117 Qb HT_ ?_; refine pn 39 118 Qc HT_ ?_; refine pn 40 119 Qd HT_ ?_; refine pn 41 120 Qe HT_ ?_; refine pn 42 121 Qf HT_ ?_; refine pn 43 122 Qg HT_ ?_; refine pn 44 123 Qh HT_ ?_; refine pn 45 124 Qi HT_ ?_; refine pn 46 125 Qj HT_ ?_; refine pn 47 126 Qk HT_ ?_; refine pn 48 127 Ql HT_ ?_
            refine pn 49 128 Qm HT_ ?_; refine pn 50 129 Qn HT_ ?_; refine pu 51 130 Qo HT_ ?_; refine YX (YA HT_.out zb6) ?_; clear hHeld
            go_wp2
            go_meet
            case rel => exact ⟨true, rfl, ⟨fun _ => by unfold Vq; rw [decide_eq_false (show ¬ (pg D p).f0 ≤ s from by show ¬ (Xb D p).f0 ≤ s; omega)]; rfl⟩, ⟨(fun h => absurd h (by simp))⟩, LW2⟩
          have c1b : decide (s < (Xb D p).f0) = false := decide_eq_false cs1
          have c1c : (pg D p).f0 ≤ s := by show (Xb D p).f0 ≤ s; omega
          have c1d : decide ((pg D p).f0 ≤ s) = true := decide_eq_true c1c
          cases d with
          | true =>
           cases hSm : VC (pg M p) (pg D p) with
           | false =>
            as_aux_lemma =>
             have LW2 : Aside0 (Below w5.heap.size w5 wr.drew) := ⟨Xx LW.out⟩
             refine Yw (n := 52) (S := fun w' => w'.cell? ⟨w.heap.size, 0, none⟩ = some (.slice (some aD) D.length c0) ∧ w'.cell? ⟨w.heap.size, 1, none⟩ = some (.slice (some aM) M.length c1) ∧ w'.cell? ⟨w.heap.size, 2, none⟩ = some (.slice A2 L.length c2) ∧ w'.cell? ⟨w.heap.size, 3, none⟩ = some (.int .i64 s) ∧ w'.cell? ⟨w.heap.size, 4, none⟩ = some (.bool true) ∧ w'.cell? (aD.add (p.toNat * 3)) = some (.int .i64 (Xb D p).f0) ∧ w'.cell? ⟨(aD.add (p.toNat * 3)).block, (aD.add (p.toNat * 3)).off + 1, none⟩ = some (.int .i64 (Xb D p).f1) ∧ w'.cell? ⟨(aD.add (p.toNat * 3)).block, (aD.add (p.toNat * 3)).off + 2, none⟩ = some (.slice BD (Xb D p).f2.length bD) ∧ w'.cell? (aM.add (p.toNat * 3)) = some (.int .i64 (Xb M p).f0) ∧ w'.cell? ⟨(aM.add (p.toNat * 3)).block, (aM.add (p.toNat * 3)).off + 1, none⟩ = some (.int .i64 (Xb M p).f1) ∧ w'.cell? ⟨(aM.add (p.toNat * 3)).block, (aM.add (p.toNat * 3)).off + 2, none⟩ = some (.slice BM (Xb M p).f2.length bM) ∧ w'.cell? (aR.add (p.toNat * 3)) = some (.int .i64 (Xb (XE D L) p).f0) ∧ w'.cell? ⟨(aR.add (p.toNat * 3)).block, (aR.add (p.toNat * 3)).off + 1, none⟩ = some (.int .i64 (Xb (XE D L) p).f1) ∧ w'.cell? ⟨(aR.add (p.toNat * 3)).block, (aR.add (p.toNat * 3)).off + 2, none⟩ = some (.slice BR (Xb (XE D L) p).f2.length bR)) (ds := []) XkK zb6 rfl rfl ⟨cc LW2.out x0, cc LW2.out x1, cc LW2.out x2, cc LW2.out x3, cc LW2.out x4, cc LW2.out YD.out.1, cc LW2.out YD.out.2.1, cc LW2.out YD.out.2.2, cc LW2.out YM.out.1, cc LW2.out YM.out.2.1, cc LW2.out YM.out.2.2, cc LW2.out YR.out.1, cc LW2.out YR.out.2.1, cc LW2.out YR.out.2.2⟩ (fun hHeld => ?_); refine XH Xi.Qp Xi.KE (fun HT_ HW_ => ?_)
             generalize wr.drew = w20 at LW2 hHeld ⊢; clear z0 z1 z2 z3 z4 LW; refine pu 0 79 Ii HT_ ?_; refine tk 1 80 Ij HT_ HW_ hHeld ?_; refine pu 2 81 Ik HT_ ?_; refine pu 3 82 Il HT_ ?_; refine pu 4 83 Im HT_ ?_; refine tk 5 84 Io HT_ HW_ hHeld ?_; refine pu 6 85 Ip HT_ ?_; refine tk 7 86 Iq HT_ HW_ hHeld ?_; refine pu 8 87 Ir HT_ ?_; refine pu 9 88 Iu HT_ ?_; refine pu 10 89 Iw HT_ ?_; refine tk 11 90 Iy HT_ HW_ hHeld ?_; refine pu 12 91 Iz HT_ ?_; refine pu 13 92 I1 HT_ ?_; refine tk 14 93 I4 HT_ HW_ hHeld ?_; refine pu 15 94 I5 HT_ ?_; refine pu 16 95 I6 HT_ ?_; refine tk 17 96 I7 HT_ HW_ hHeld ?_; refine pu 18 97 I8 HT_ ?_; refine tk 19 98 I9 HT_ HW_ hHeld ?_; refine pu 20 99 IA HT_ ?_; refine pu 21 100 IB HT_ ?_; refine tk 22 101 IC HT_ HW_ hHeld ?_; refine Zj (i := 23) (N := some 102) IE rfl rfl (Yl HT_.out zb6) (by decide) (fun K hK => ?_); refine YI Tryz.func46 zb6 rfl #[.agg #[.int .i64 (Xb M p).f0, .int .i64 (Xb M p).f1, .slice BM (Xb M p).f2.length bM], .agg #[.int .i64 (Xb D p).f0, .int .i64 (Xb D p).f1, .slice BD (Xb D p).f2.length bD]] (by rfl) rfl rfl zb2 ?_
             with_reducible refine (YG.calls 40 (Xb M p).f0 (Xb M p).f1 BM bM (Xb M p).f2 (Xb D p).f0 (Xb D p).f1 BD bD (Xb D p).f2 false _ (Kd.Xg IM.out LW2.out) JM.out (Kd.Xg ID.out LW2.out) JD.out (hSm ▸ BL okM.out okD.out 40 (by omega))).mono ?_
             rintro e w30 ⟨rfl, hb⟩; refine ⟨_, rfl, ?_⟩; have LW3 := zz (Xc LW2.out hb); clear hb LW2; refine hK.out _ _ ⟨cc LW3.out x0, cc LW3.out x1, cc LW3.out x2, cc LW3.out x3, cc LW3.out x4, cc LW3.out YD.out.1, cc LW3.out YD.out.2.1, cc LW3.out YD.out.2.2, cc LW3.out YM.out.1, cc LW3.out YM.out.2.1, cc LW3.out YM.out.2.2, cc LW3.out YR.out.1, cc LW3.out YR.out.2.1, cc LW3.out YR.out.2.2⟩ (fun hHeld => ?_); clear hK K; refine XQ (a' := ?_) ?_ ?_; rotate_left
             ·show Act.put _ (some 102) _ = _
              simp only [Act.put, List.setIfInBounds_toArray, List.set_cons_zero, List.set_cons_succ, Xz, XF]
              rfl
             refine pu 24 103 IG HT_ ?_; refine pu 25 104 II HT_ ?_; refine pu 26 105 IJ HT_ ?_; refine pu 27 106 IK HT_ ?_; refine pn 28 107 IL HT_ ?_; refine pn 29 108 IP HT_ ?_; refine pn 30 109 IQ HT_ ?_; refine pn 31 110 IU HT_ ?_; refine pn 32 111 IV HT_ ?_; refine pn 33 112 IW HT_ ?_; refine pn 34 113 IX HT_ ?_; refine pn 35 114 IY HT_ ?_; refine pn 36 115 IZ HT_ ?_; refine pn 37 116 Qa HT_ ?_; refine pn 38 117 Qb HT_ ?_; refine pn 39 118 Qc HT_ ?_; refine pn 40 119 Qd HT_ ?_; refine pn 41 120 Qe HT_ ?_; refine pn 42 121 Qf HT_ ?_; refine pn 43 122 Qg HT_ ?_; refine pn 44 123 Qh HT_ ?_; refine pn 45 124 Qi HT_ ?_; refine pn 46 125 Qj HT_ ?_; refine pn 47 126 Qk HT_ ?_; refine pn 48 127 Ql HT_ ?_; refine pn 49 128 Qm HT_ ?_; refine pn 50 129 Qn HT_ ?_; refine pu 51 130 Qo HT_ ?_; refine YX (YA HT_.out zb6) ?_; clear hHeld
             go_wp2
             go_meet
             case rel => exact ⟨true, rfl, ⟨fun _ => by unfold Vq; rw [if_pos rfl, hSm]; simp⟩, ⟨(fun h => absurd h (by simp))⟩, LW3⟩
           | true =>
            as_aux_lemma =>
             have LW2 : Aside0 (Below w5.heap.size w5 wr.drew) := ⟨Xx LW.out⟩
             refine Yw (n := 52) (S := fun w' => w'.cell? ⟨w.heap.size, 0, none⟩ = some (.slice (some aD) D.length c0) ∧ w'.cell? ⟨w.heap.size, 1, none⟩ = some (.slice (some aM) M.length c1) ∧ w'.cell? ⟨w.heap.size, 2, none⟩ = some (.slice A2 L.length c2) ∧ w'.cell? ⟨w.heap.size, 3, none⟩ = some (.int .i64 s) ∧ w'.cell? ⟨w.heap.size, 4, none⟩ = some (.bool true) ∧ w'.cell? (aD.add (p.toNat * 3)) = some (.int .i64 (Xb D p).f0) ∧ w'.cell? ⟨(aD.add (p.toNat * 3)).block, (aD.add (p.toNat * 3)).off + 1, none⟩ = some (.int .i64 (Xb D p).f1) ∧ w'.cell? ⟨(aD.add (p.toNat * 3)).block, (aD.add (p.toNat * 3)).off + 2, none⟩ = some (.slice BD (Xb D p).f2.length bD) ∧ w'.cell? (aM.add (p.toNat * 3)) = some (.int .i64 (Xb M p).f0) ∧ w'.cell? ⟨(aM.add (p.toNat * 3)).block, (aM.add (p.toNat * 3)).off + 1, none⟩ = some (.int .i64 (Xb M p).f1) ∧ w'.cell? ⟨(aM.add (p.toNat * 3)).block, (aM.add (p.toNat * 3)).off + 2, none⟩ = some (.slice BM (Xb M p).f2.length bM) ∧ w'.cell? (aR.add (p.toNat * 3)) = some (.int .i64 (Xb (XE D L) p).f0) ∧ w'.cell? ⟨(aR.add (p.toNat * 3)).block, (aR.add (p.toNat * 3)).off + 1, none⟩ = some (.int .i64 (Xb (XE D L) p).f1) ∧ w'.cell? ⟨(aR.add (p.toNat * 3)).block, (aR.add (p.toNat * 3)).off + 2, none⟩ = some (.slice BR (Xb (XE D L) p).f2.length bR)) (ds := []) XkK zb6 rfl rfl ⟨cc LW2.out x0, cc LW2.out x1, cc LW2.out x2, cc LW2.out x3, cc LW2.out x4, cc LW2.out YD.out.1, cc LW2.out YD.out.2.1, cc LW2.out YD.out.2.2, cc LW2.out YM.out.1, cc LW2.out YM.out.2.1, cc LW2.out YM.out.2.2, cc LW2.out YR.out.1, cc LW2.out YR.out.2.1, cc LW2.out YR.out.2.2⟩ (fun hHeld => ?_); refine XH Xi.Qp Xi.KE (fun HT_ HW_ => ?_)
             generalize wr.drew = w20 at LW2 hHeld ⊢; clear z0 z1 z2 z3 z4 LW; refine pu 0 79 Ii HT_ ?_; refine tk 1 80 Ij HT_ HW_ hHeld ?_; refine pu 2 81 Ik HT_ ?_; refine pu 3 82 Il HT_ ?_; refine pu 4 83 Im HT_ ?_; refine tk 5 84 Io HT_ HW_ hHeld ?_; refine pu 6 85 Ip HT_ ?_; refine tk 7 86 Iq HT_ HW_ hHeld ?_; refine pu 8 87 Ir HT_ ?_; refine pu 9 88 Iu HT_ ?_; refine pu 10 89 Iw HT_ ?_; refine tk 11 90 Iy HT_ HW_ hHeld ?_; refine pu 12 91 Iz HT_ ?_; refine pu 13 92 I1 HT_ ?_; refine tk 14 93 I4 HT_ HW_ hHeld ?_; refine pu 15 94 I5 HT_ ?_; refine pu 16 95 I6 HT_ ?_; refine tk 17 96 I7 HT_ HW_ hHeld ?_; refine pu 18 97 I8 HT_ ?_; refine tk 19 98 I9 HT_ HW_ hHeld ?_; refine pu 20 99 IA HT_ ?_; refine pu 21 100 IB HT_ ?_; refine tk 22 101 IC HT_ HW_ hHeld ?_; refine Zj (i := 23) (N := some 102) IE rfl rfl (Yl HT_.out zb6) (by decide) (fun K hK => ?_); refine YI Tryz.func46 zb6 rfl #[.agg #[.int .i64 (Xb M p).f0, .int .i64 (Xb M p).f1, .slice BM (Xb M p).f2.length bM], .agg #[.int .i64 (Xb D p).f0, .int .i64 (Xb D p).f1, .slice BD (Xb D p).f2.length bD]] (by rfl) rfl rfl zb2 ?_
             with_reducible refine (YG.calls 40 (Xb M p).f0 (Xb M p).f1 BM bM (Xb M p).f2 (Xb D p).f0 (Xb D p).f1 BD bD (Xb D p).f2 true _ (Kd.Xg IM.out LW2.out) JM.out (Kd.Xg ID.out LW2.out) JD.out (hSm ▸ BL okM.out okD.out 40 (by omega))).mono ?_
             rintro e w30 ⟨rfl, hb⟩; refine ⟨_, rfl, ?_⟩; have LW3 := zz (Xc LW2.out hb); clear hb LW2; refine hK.out _ _ ⟨cc LW3.out x0, cc LW3.out x1, cc LW3.out x2, cc LW3.out x3, cc LW3.out x4, cc LW3.out YD.out.1, cc LW3.out YD.out.2.1, cc LW3.out YD.out.2.2, cc LW3.out YM.out.1, cc LW3.out YM.out.2.1, cc LW3.out YM.out.2.2, cc LW3.out YR.out.1, cc LW3.out YR.out.2.1, cc LW3.out YR.out.2.2⟩ (fun hHeld => ?_); clear hK K; refine XQ (a' := ?_) ?_ ?_; rotate_left
             ·show Act.put _ (some 102) _ = _
              simp only [Act.put, List.setIfInBounds_toArray, List.set_cons_zero, List.set_cons_succ, Xz, XF]
              rfl
             refine pu 24 103 IG HT_ ?_; refine pu 25 104 II HT_ ?_; refine pu 26 105 IJ HT_ ?_; refine pu 27 106 IK HT_ ?_; refine pu 28 107 IL HT_ ?_; refine tk 29 108 IP HT_ HW_ hHeld ?_; refine pu 30 109 IQ HT_ ?_; refine pu 31 110 IU HT_ ?_; refine pn 32 111 IV HT_ ?_; refine pn 33 112 IW HT_ ?_; refine pn 34 113 IX HT_ ?_; refine pn 35 114 IY HT_ ?_; refine pn 36 115 IZ HT_ ?_; refine pu 37 116 Qa HT_ ?_; refine pu 38 117 Qb HT_ ?_; refine pn 39 118 Qc HT_ ?_; refine pn 40 119 Qd HT_ ?_; refine pn 41 120 Qe HT_ ?_; refine pn 42 121 Qf HT_ ?_; refine pn 43 122 Qg HT_ ?_; refine pn 44 123 Qh HT_ ?_; refine pn 45 124 Qi HT_ ?_; refine pn 46 125 Qj HT_ ?_; refine pn 47 126 Qk HT_ ?_; refine pn 48 127 Ql HT_ ?_; refine pn 49 128 Qm HT_ ?_; refine pu 50 129 Qn HT_ ?_; refine pu 51 130 Qo HT_ ?_; refine YX (YA HT_.out zb6) ?_; clear hHeld
             go_wp2
             go_meet
             case rel => exact ⟨false, rfl, ⟨(fun h => absurd h (by simp))⟩, ⟨fun _ => ⟨c1c, fun _ => hSm, fun h => absurd h (by simp)⟩⟩, LW3⟩
          | false =>
           cases hLd : JL L p with
           | true =>
            as_aux_lemma =>
             have LW2 : Aside0 (Below w5.heap.size w5 wr.drew) := ⟨Xx LW.out⟩
             refine Yw (n := 52) (S := fun w' => w'.cell? ⟨w.heap.size, 0, none⟩ = some (.slice (some aD) D.length c0) ∧ w'.cell? ⟨w.heap.size, 1, none⟩ = some (.slice (some aM) M.length c1) ∧ w'.cell? ⟨w.heap.size, 2, none⟩ = some (.slice A2 L.length c2) ∧ w'.cell? ⟨w.heap.size, 3, none⟩ = some (.int .i64 s) ∧ w'.cell? ⟨w.heap.size, 4, none⟩ = some (.bool false) ∧ w'.cell? (aD.add (p.toNat * 3)) = some (.int .i64 (Xb D p).f0) ∧ w'.cell? ⟨(aD.add (p.toNat * 3)).block, (aD.add (p.toNat * 3)).off + 1, none⟩ = some (.int .i64 (Xb D p).f1) ∧ w'.cell? ⟨(aD.add (p.toNat * 3)).block, (aD.add (p.toNat * 3)).off + 2, none⟩ = some (.slice BD (Xb D p).f2.length bD) ∧ w'.cell? (aM.add (p.toNat * 3)) = some (.int .i64 (Xb M p).f0) ∧ w'.cell? ⟨(aM.add (p.toNat * 3)).block, (aM.add (p.toNat * 3)).off + 1, none⟩ = some (.int .i64 (Xb M p).f1) ∧ w'.cell? ⟨(aM.add (p.toNat * 3)).block, (aM.add (p.toNat * 3)).off + 2, none⟩ = some (.slice BM (Xb M p).f2.length bM) ∧ w'.cell? (aR.add (p.toNat * 3)) = some (.int .i64 (Xb (XE D L) p).f0) ∧ w'.cell? ⟨(aR.add (p.toNat * 3)).block, (aR.add (p.toNat * 3)).off + 1, none⟩ = some (.int .i64 (Xb (XE D L) p).f1) ∧ w'.cell? ⟨(aR.add (p.toNat * 3)).block, (aR.add (p.toNat * 3)).off + 2, none⟩ = some (.slice BR (Xb (XE D L) p).f2.length bR)) (ds := []) XkK zb6 rfl rfl ⟨cc LW2.out x0, cc LW2.out x1, cc LW2.out x2, cc LW2.out x3, cc LW2.out x4, cc LW2.out YD.out.1, cc LW2.out YD.out.2.1, cc LW2.out YD.out.2.2, cc LW2.out YM.out.1, cc LW2.out YM.out.2.1, cc LW2.out YM.out.2.2, cc LW2.out YR.out.1, cc LW2.out YR.out.2.1, cc LW2.out YR.out.2.2⟩ (fun hHeld => ?_); refine XH Xi.Qp Xi.KE (fun HT_ HW_ => ?_)
             generalize wr.drew = w20 at LW2 hHeld ⊢; clear z0 z1 z2 z3 z4 LW; refine pu 0 79 Ii HT_ ?_; refine tk 1 80 Ij HT_ HW_ hHeld ?_; refine pu 2 81 Ik HT_ ?_; refine pu 3 82 Il HT_ ?_; refine pu 4 83 Im HT_ ?_; refine tk 5 84 Io HT_ HW_ hHeld ?_; refine pu 6 85 Ip HT_ ?_; refine tk 7 86 Iq HT_ HW_ hHeld ?_; refine pu 8 87 Ir HT_ ?_; refine pu 9 88 Iu HT_ ?_; refine pu 10 89 Iw HT_ ?_; refine tk 11 90 Iy HT_ HW_ hHeld ?_; refine pu 12 91 Iz HT_ ?_; refine pn 13 92 I1 HT_ ?_; refine pn 14 93 I4 HT_ ?_; refine pn 15 94 I5 HT_ ?_; refine pn 16 95 I6 HT_ ?_; refine pn 17 96 I7 HT_ ?_; refine pn 18 97 I8 HT_ ?_; refine pn 19 98 I9 HT_ ?_; refine pn 20 99 IA HT_ ?_; refine pn 21 100 IB HT_ ?_; refine pn 22 101 IC HT_ ?_; refine pn 23 102 IE HT_ ?_; refine pn 24 103 IG HT_ ?_; refine pu 25 104 II HT_ ?_; refine pu 26 105 IJ HT_ ?_; refine pu 27 106 IK HT_ ?_; refine pu 28 107 IL HT_ ?_; refine tk 29 108 IP HT_ HW_ hHeld ?_; refine pu 30 109 IQ HT_ ?_; refine pu 31 110 IU HT_ ?_; refine pu 32 111 IV HT_ ?_; refine tk 33 112 IW HT_ HW_ hHeld ?_; refine pu 34 113 IX HT_ ?_; refine Zj (i := 35) (N := some 114) IY rfl rfl (Yl HT_.out zb6) (by decide) (fun K hK => ?_); refine YI Tryz.func47 zb6 rfl #[.slice A2 L.length c2, .int .i64 p] (by rfl) rfl rfl zb2 ?_
             with_reducible refine (Xv.calls 1000 A2 c2 L p true _ (Kd.Xg CL.out LW2.out) HCL.out (hLd ▸ Jb hg2 p 1000 (by omega))).mono ?_
             rintro e w30 ⟨rfl, nd, hw⟩; refine ⟨_, rfl, ?_⟩
             have LW3 : Aside0 (Below w5.heap.size w5 w30) := ⟨zb64⟩
             clear hw nd LW2; refine hK.out _ _ ⟨cc LW3.out x0, cc LW3.out x1, cc LW3.out x2, cc LW3.out x3, cc LW3.out x4, cc LW3.out YD.out.1, cc LW3.out YD.out.2.1, cc LW3.out YD.out.2.2, cc LW3.out YM.out.1, cc LW3.out YM.out.2.1, cc LW3.out YM.out.2.2, cc LW3.out YR.out.1, cc LW3.out YR.out.2.1, cc LW3.out YR.out.2.2⟩ (fun hHeld => ?_); clear hK K; refine XQ (a' := ?_) ?_ ?_; rotate_left
             ·show Act.put _ (some 114) _ = _
              simp only [Act.put, List.setIfInBounds_toArray, List.set_cons_zero, List.set_cons_succ, Xz, XF]
              rfl
             refine pu 36 115 IZ HT_ ?_; refine pu 37 116 Qa HT_ ?_; refine pu 38 117 Qb HT_ ?_; refine pn 39 118 Qc HT_ ?_; refine pn 40 119 Qd HT_ ?_; refine pn 41 120 Qe HT_ ?_; refine pn 42 121 Qf HT_ ?_; refine pn 43 122 Qg HT_ ?_; refine pn 44 123 Qh HT_ ?_; refine pn 45 124 Qi HT_ ?_; refine pn 46 125 Qj HT_ ?_; refine pn 47 126 Qk HT_ ?_; refine pn 48 127 Ql HT_ ?_; refine pn 49 128 Qm HT_ ?_; refine pu 50 129 Qn HT_ ?_; refine pu 51 130 Qo HT_ ?_; refine YX (YA HT_.out zb6) ?_; clear hHeld
             go_wp2
             go_meet
             case rel => exact ⟨false, rfl, ⟨(fun h => absurd h (by simp))⟩, ⟨fun _ => ⟨c1c, fun h => absurd h (by simp), fun _ h => absurd (hLd.symm.trans h) (by simp)⟩⟩, LW3⟩
           | false =>
            cases hSm : VC (pg M p) (pg (XE D L) p) with
            | false =>
             as_aux_lemma =>
              have LW2 : Aside0 (Below w5.heap.size w5 wr.drew) := ⟨Xx LW.out⟩
              refine Yw (n := 52) (S := fun w' => w'.cell? ⟨w.heap.size, 0, none⟩ = some (.slice (some aD) D.length c0) ∧ w'.cell? ⟨w.heap.size, 1, none⟩ = some (.slice (some aM) M.length c1) ∧ w'.cell? ⟨w.heap.size, 2, none⟩ = some (.slice A2 L.length c2) ∧ w'.cell? ⟨w.heap.size, 3, none⟩ = some (.int .i64 s) ∧ w'.cell? ⟨w.heap.size, 4, none⟩ = some (.bool false) ∧ w'.cell? (aD.add (p.toNat * 3)) = some (.int .i64 (Xb D p).f0) ∧ w'.cell? ⟨(aD.add (p.toNat * 3)).block, (aD.add (p.toNat * 3)).off + 1, none⟩ = some (.int .i64 (Xb D p).f1) ∧ w'.cell? ⟨(aD.add (p.toNat * 3)).block, (aD.add (p.toNat * 3)).off + 2, none⟩ = some (.slice BD (Xb D p).f2.length bD) ∧ w'.cell? (aM.add (p.toNat * 3)) = some (.int .i64 (Xb M p).f0) ∧ w'.cell? ⟨(aM.add (p.toNat * 3)).block, (aM.add (p.toNat * 3)).off + 1, none⟩ = some (.int .i64 (Xb M p).f1) ∧ w'.cell? ⟨(aM.add (p.toNat * 3)).block, (aM.add (p.toNat * 3)).off + 2, none⟩ = some (.slice BM (Xb M p).f2.length bM) ∧ w'.cell? (aR.add (p.toNat * 3)) = some (.int .i64 (Xb (XE D L) p).f0) ∧ w'.cell? ⟨(aR.add (p.toNat * 3)).block, (aR.add (p.toNat * 3)).off + 1, none⟩ = some (.int .i64 (Xb (XE D L) p).f1) ∧ w'.cell? ⟨(aR.add (p.toNat * 3)).block, (aR.add (p.toNat * 3)).off + 2, none⟩ = some (.slice BR (Xb (XE D L) p).f2.length bR)) (ds := []) XkK zb6 rfl rfl ⟨cc LW2.out x0, cc LW2.out x1, cc LW2.out x2, cc LW2.out x3, cc LW2.out x4, cc LW2.out YD.out.1, cc LW2.out YD.out.2.1, cc LW2.out YD.out.2.2, cc LW2.out YM.out.1, cc LW2.out YM.out.2.1, cc LW2.out YM.out.2.2, cc LW2.out YR.out.1, cc LW2.out YR.out.2.1, cc LW2.out YR.out.2.2⟩ (fun hHeld => ?_); refine XH Xi.Qp Xi.KE (fun HT_ HW_ => ?_)
              generalize wr.drew = w20 at LW2 hHeld ⊢; clear z0 z1 z2 z3 z4 LW; refine pu 0 79 Ii HT_ ?_; refine tk 1 80 Ij HT_ HW_ hHeld ?_; refine pu 2 81 Ik HT_ ?_; refine pu 3 82 Il HT_ ?_; refine pu 4 83 Im HT_ ?_; refine tk 5 84 Io HT_ HW_ hHeld ?_; refine pu 6 85 Ip HT_ ?_; refine tk 7 86 Iq HT_ HW_ hHeld ?_; refine pu 8 87 Ir HT_ ?_; refine pu 9 88 Iu HT_ ?_; refine pu 10 89 Iw HT_ ?_; refine tk 11 90 Iy HT_ HW_ hHeld ?_; refine pu 12 91 Iz HT_ ?_; refine pn 13 92 I1 HT_ ?_; refine pn 14 93 I4 HT_ ?_; refine pn 15 94 I5 HT_ ?_; refine pn 16 95 I6 HT_ ?_; refine pn 17 96 I7 HT_ ?_; refine pn 18 97 I8 HT_ ?_; refine pn 19 98 I9 HT_ ?_; refine pn 20 99 IA HT_ ?_; refine pn 21 100 IB HT_ ?_; refine pn 22 101 IC HT_ ?_; refine pn 23 102 IE HT_ ?_; refine pn 24 103 IG HT_ ?_; refine pu 25 104 II HT_ ?_; refine pu 26 105 IJ HT_ ?_; refine pu 27 106 IK HT_ ?_; refine pu 28 107 IL HT_ ?_; refine tk 29 108 IP HT_ HW_ hHeld ?_; refine pu 30 109 IQ HT_ ?_; refine pu 31 110 IU HT_ ?_; refine pu 32 111 IV HT_ ?_; refine tk 33 112 IW HT_ HW_ hHeld ?_; refine pu 34 113 IX HT_ ?_; refine Zj (i := 35) (N := some 114) IY rfl rfl (Yl HT_.out zb6) (by decide) (fun K hK => ?_); refine YI Tryz.func47 zb6 rfl #[.slice A2 L.length c2, .int .i64 p] (by rfl) rfl rfl zb2 ?_
              with_reducible refine (Xv.calls 1000 A2 c2 L p false _ (Kd.Xg CL.out LW2.out) HCL.out (hLd ▸ Jb hg2 p 1000 (by omega))).mono ?_
              rintro e w30 ⟨rfl, nd, hw⟩; refine ⟨_, rfl, ?_⟩
              have LW3 : Aside0 (Below w5.heap.size w5 w30) := ⟨zb64⟩
              clear hw nd LW2; refine hK.out _ _ ⟨cc LW3.out x0, cc LW3.out x1, cc LW3.out x2, cc LW3.out x3, cc LW3.out x4, cc LW3.out YD.out.1, cc LW3.out YD.out.2.1, cc LW3.out YD.out.2.2, cc LW3.out YM.out.1, cc LW3.out YM.out.2.1, cc LW3.out YM.out.2.2, cc LW3.out YR.out.1, cc LW3.out YR.out.2.1, cc LW3.out YR.out.2.2⟩ (fun hHeld => ?_); clear hK K; refine XQ (a' := ?_) ?_ ?_; rotate_left
              ·show Act.put _ (some 114) _ = _
               simp only [Act.put, List.setIfInBounds_toArray, List.set_cons_zero, List.set_cons_succ, Xz, XF]
               rfl
              refine pu 36 115 IZ HT_ ?_; refine pu 37 116 Qa HT_ ?_; refine pu 38 117 Qb HT_ ?_; refine pu 39 118 Qc HT_ ?_; refine tk 40 119 Qd HT_ HW_ hHeld ?_; refine pu 41 120 Qe HT_ ?_; refine pu 42 121 Qf HT_ ?_; refine tk 43 122 Qg HT_ HW_ hHeld ?_; refine pu 44 123 Qh HT_ ?_; refine pu 45 124 Qi HT_ ?_; refine pu 46 125 Qj HT_ ?_; refine tk 47 126 Qk HT_ HW_ hHeld ?_; refine Zj (i := 48) (N := some 127) Ql rfl rfl (Yl HT_.out zb6) (by decide) (fun K hK => ?_); refine YI Tryz.func46 zb6 rfl #[.agg #[.int .i64 (Xb M p).f0, .int .i64 (Xb M p).f1, .slice BM (Xb M p).f2.length bM], .agg #[.int .i64 (Xb (XE D L) p).f0, .int .i64 (Xb (XE D L) p).f1, .slice BR (Xb (XE D L) p).f2.length bR]] (by rfl) rfl rfl zb2 ?_
              with_reducible refine (YG.calls 40 (Xb M p).f0 (Xb M p).f1 BM bM (Xb M p).f2 (Xb (XE D L) p).f0 (Xb (XE D L) p).f1 BR bR (Xb (XE D L) p).f2 false _ (Kd.Xg IM.out LW3.out) JM.out (Kd.Xg IR.out LW3.out) JR.out (hSm ▸ BL okM.out okR.out 40 (by omega))).mono ?_
              rintro e w40 ⟨rfl, hb⟩; refine ⟨_, rfl, ?_⟩; have LW4 := zz (Xc LW3.out hb); clear hb LW3; refine hK.out _ _ ⟨cc LW4.out x0, cc LW4.out x1, cc LW4.out x2, cc LW4.out x3, cc LW4.out x4, cc LW4.out YD.out.1, cc LW4.out YD.out.2.1, cc LW4.out YD.out.2.2, cc LW4.out YM.out.1, cc LW4.out YM.out.2.1, cc LW4.out YM.out.2.2, cc LW4.out YR.out.1, cc LW4.out YR.out.2.1, cc LW4.out YR.out.2.2⟩ (fun hHeld => ?_); clear hK K; refine XQ (a' := ?_) ?_ ?_; rotate_left
              ·show Act.put _ (some 127) _ = _
               simp only [Act.put, List.setIfInBounds_toArray, List.set_cons_zero, List.set_cons_succ, Xz, XF]
               rfl
              refine pu 49 128 Qm HT_ ?_; refine pu 50 129 Qn HT_ ?_; refine pu 51 130 Qo HT_ ?_; refine YX (YA HT_.out zb6) ?_; clear hHeld
              go_wp2
              go_meet
              case rel => exact ⟨true, rfl, ⟨fun _ => by unfold Vq; rw [if_neg (by simp), hLd, if_neg (by simp), hSm]; simp⟩, ⟨(fun h => absurd h (by simp))⟩, LW4⟩
            | true =>
             as_aux_lemma =>
              have LW2 : Aside0 (Below w5.heap.size w5 wr.drew) := ⟨Xx LW.out⟩
              refine Yw (n := 52) (S := fun w' => w'.cell? ⟨w.heap.size, 0, none⟩ = some (.slice (some aD) D.length c0) ∧ w'.cell? ⟨w.heap.size, 1, none⟩ = some (.slice (some aM) M.length c1) ∧ w'.cell? ⟨w.heap.size, 2, none⟩ = some (.slice A2 L.length c2) ∧ w'.cell? ⟨w.heap.size, 3, none⟩ = some (.int .i64 s) ∧ w'.cell? ⟨w.heap.size, 4, none⟩ = some (.bool false) ∧ w'.cell? (aD.add (p.toNat * 3)) = some (.int .i64 (Xb D p).f0) ∧ w'.cell? ⟨(aD.add (p.toNat * 3)).block, (aD.add (p.toNat * 3)).off + 1, none⟩ = some (.int .i64 (Xb D p).f1) ∧ w'.cell? ⟨(aD.add (p.toNat * 3)).block, (aD.add (p.toNat * 3)).off + 2, none⟩ = some (.slice BD (Xb D p).f2.length bD) ∧ w'.cell? (aM.add (p.toNat * 3)) = some (.int .i64 (Xb M p).f0) ∧ w'.cell? ⟨(aM.add (p.toNat * 3)).block, (aM.add (p.toNat * 3)).off + 1, none⟩ = some (.int .i64 (Xb M p).f1) ∧ w'.cell? ⟨(aM.add (p.toNat * 3)).block, (aM.add (p.toNat * 3)).off + 2, none⟩ = some (.slice BM (Xb M p).f2.length bM) ∧ w'.cell? (aR.add (p.toNat * 3)) = some (.int .i64 (Xb (XE D L) p).f0) ∧ w'.cell? ⟨(aR.add (p.toNat * 3)).block, (aR.add (p.toNat * 3)).off + 1, none⟩ = some (.int .i64 (Xb (XE D L) p).f1) ∧ w'.cell? ⟨(aR.add (p.toNat * 3)).block, (aR.add (p.toNat * 3)).off + 2, none⟩ = some (.slice BR (Xb (XE D L) p).f2.length bR)) (ds := []) XkK zb6 rfl rfl ⟨cc LW2.out x0, cc LW2.out x1, cc LW2.out x2, cc LW2.out x3, cc LW2.out x4, cc LW2.out YD.out.1, cc LW2.out YD.out.2.1, cc LW2.out YD.out.2.2, cc LW2.out YM.out.1, cc LW2.out YM.out.2.1, cc LW2.out YM.out.2.2, cc LW2.out YR.out.1, cc LW2.out YR.out.2.1, cc LW2.out YR.out.2.2⟩ (fun hHeld => ?_); refine XH Xi.Qp Xi.KE (fun HT_ HW_ => ?_)
              generalize wr.drew = w20 at LW2 hHeld ⊢; clear z0 z1 z2 z3 z4 LW; refine pu 0 79 Ii HT_ ?_; refine tk 1 80 Ij HT_ HW_ hHeld ?_; refine pu 2 81 Ik HT_ ?_; refine pu 3 82 Il HT_ ?_; refine pu 4 83 Im HT_ ?_; refine tk 5 84 Io HT_ HW_ hHeld ?_; refine pu 6 85 Ip HT_ ?_; refine tk 7 86 Iq HT_ HW_ hHeld ?_; refine pu 8 87 Ir HT_ ?_; refine pu 9 88 Iu HT_ ?_; refine pu 10 89 Iw HT_ ?_; refine tk 11 90 Iy HT_ HW_ hHeld ?_; refine pu 12 91 Iz HT_ ?_; refine pn 13 92 I1 HT_ ?_; refine pn 14 93 I4 HT_ ?_; refine pn 15 94 I5 HT_ ?_; refine pn 16 95 I6 HT_ ?_; refine pn 17 96 I7 HT_ ?_; refine pn 18 97 I8 HT_ ?_; refine pn 19 98 I9 HT_ ?_; refine pn 20 99 IA HT_ ?_; refine pn 21 100 IB HT_ ?_; refine pn 22 101 IC HT_ ?_; refine pn 23 102 IE HT_ ?_; refine pn 24 103 IG HT_ ?_; refine pu 25 104 II HT_ ?_; refine pu 26 105 IJ HT_ ?_; refine pu 27 106 IK HT_ ?_; refine pu 28 107 IL HT_ ?_; refine tk 29 108 IP HT_ HW_ hHeld ?_; refine pu 30 109 IQ HT_ ?_; refine pu 31 110 IU HT_ ?_; refine pu 32 111 IV HT_ ?_; refine tk 33 112 IW HT_ HW_ hHeld ?_; refine pu 34 113 IX HT_ ?_; refine Zj (i := 35) (N := some 114) IY rfl rfl (Yl HT_.out zb6) (by decide) (fun K hK => ?_); refine YI Tryz.func47 zb6 rfl #[.slice A2 L.length c2, .int .i64 p] (by rfl) rfl rfl zb2 ?_
              with_reducible refine (Xv.calls 1000 A2 c2 L p false _ (Kd.Xg CL.out LW2.out) HCL.out (hLd ▸ Jb hg2 p 1000 (by omega))).mono ?_
              rintro e w30 ⟨rfl, nd, hw⟩; refine ⟨_, rfl, ?_⟩
              have LW3 : Aside0 (Below w5.heap.size w5 w30) := ⟨zb64⟩
              clear hw nd LW2; refine hK.out _ _ ⟨cc LW3.out x0, cc LW3.out x1, cc LW3.out x2, cc LW3.out x3, cc LW3.out x4, cc LW3.out YD.out.1, cc LW3.out YD.out.2.1, cc LW3.out YD.out.2.2, cc LW3.out YM.out.1, cc LW3.out YM.out.2.1, cc LW3.out YM.out.2.2, cc LW3.out YR.out.1, cc LW3.out YR.out.2.1, cc LW3.out YR.out.2.2⟩ (fun hHeld => ?_); clear hK K; refine XQ (a' := ?_) ?_ ?_; rotate_left
              ·show Act.put _ (some 114) _ = _
               simp only [Act.put, List.setIfInBounds_toArray, List.set_cons_zero, List.set_cons_succ, Xz, XF]
               rfl
              refine pu 36 115 IZ HT_ ?_; refine pu 37 116 Qa HT_ ?_; refine pu 38 117 Qb HT_ ?_; refine pu 39 118 Qc HT_ ?_; refine tk 40 119 Qd HT_ HW_ hHeld ?_; refine pu 41 120 Qe HT_ ?_; refine pu 42 121 Qf HT_ ?_; refine tk 43 122 Qg HT_ HW_ hHeld ?_; refine pu 44 123 Qh HT_ ?_; refine pu 45 124 Qi HT_ ?_; refine pu 46 125 Qj HT_ ?_; refine tk 47 126 Qk HT_ HW_ hHeld ?_; refine Zj (i := 48) (N := some 127) Ql rfl rfl (Yl HT_.out zb6) (by decide) (fun K hK => ?_); refine YI Tryz.func46 zb6 rfl #[.agg #[.int .i64 (Xb M p).f0, .int .i64 (Xb M p).f1, .slice BM (Xb M p).f2.length bM], .agg #[.int .i64 (Xb (XE D L) p).f0, .int .i64 (Xb (XE D L) p).f1, .slice BR (Xb (XE D L) p).f2.length bR]] (by rfl) rfl rfl zb2 ?_
              with_reducible refine (YG.calls 40 (Xb M p).f0 (Xb M p).f1 BM bM (Xb M p).f2 (Xb (XE D L) p).f0 (Xb (XE D L) p).f1 BR bR (Xb (XE D L) p).f2 true _ (Kd.Xg IM.out LW3.out) JM.out (Kd.Xg IR.out LW3.out) JR.out (hSm ▸ BL okM.out okR.out 40 (by omega))).mono ?_
              rintro e w40 ⟨rfl, hb⟩; refine ⟨_, rfl, ?_⟩; have LW4 := zz (Xc LW3.out hb); clear hb LW3; refine hK.out _ _ ⟨cc LW4.out x0, cc LW4.out x1, cc LW4.out x2, cc LW4.out x3, cc LW4.out x4, cc LW4.out YD.out.1, cc LW4.out YD.out.2.1, cc LW4.out YD.out.2.2, cc LW4.out YM.out.1, cc LW4.out YM.out.2.1, cc LW4.out YM.out.2.2, cc LW4.out YR.out.1, cc LW4.out YR.out.2.1, cc LW4.out YR.out.2.2⟩ (fun hHeld => ?_); clear hK K; refine XQ (a' := ?_) ?_ ?_; rotate_left
              ·show Act.put _ (some 127) _ = _
               simp only [Act.put, List.setIfInBounds_toArray, List.set_cons_zero, List.set_cons_succ, Xz, XF]
               rfl
              refine pu 49 128 Qm HT_ ?_; refine pu 50 129 Qn HT_ ?_; refine pu 51 130 Qo HT_ ?_; refine YX (YA HT_.out zb6) ?_; clear hHeld
              go_wp2
              go_meet
              case rel => exact ⟨false, rfl, ⟨(fun h => absurd h (by simp))⟩, ⟨fun _ => ⟨c1c, fun h => absurd h (by simp), fun _ _ => hSm⟩⟩, LW4⟩
         case rest =>
          clear LW z0 z1 z2 z3 z4; obtain ⟨b, rfl, hb1, hb2, LW⟩ := hcut; have z0 := cc LW.out x0; have z1 := cc LW.out x1; have z2 := cc LW.out x2; have z3 := cc LW.out x3; have z4 := cc LW.out x4
          cases b with
          | true =>
           go_wp2
           go_ret
           exact ⟨by rw [Nz p.toNat (by omega) (by rw [hnp.out]; exact hb1.out (by simp))]; first | done | rfl, Xc LB5.out LW.out⟩
          | false =>
           obtain ⟨k1_, k2_, k3_⟩ := hb2.out (by simp); clear hb1 hb2
           go_upto_region 17 with (fail)
           go_cut [181] (fun v181 wc => ∃ b : Bool, v181 = .bool b ∧ Aside0 (b = true → Vq D M L s d p = false) ∧ Aside0 (b = false → d = false → JL L p = true → De D M L p = true ∧ ((pg M p).f1 == (pg (XE D L) p).f1) = true) ∧ Aside0 (Below w5.heap.size w5 wc))
           case first =>
            cases d with
            | true =>
             as_aux_lemma =>
              have LW2 : Aside0 (Below w5.heap.size w5 wc.drew) := ⟨Xx LW.out⟩
              refine Yw (n := 51) (S := fun w' => w'.cell? ⟨w.heap.size, 0, none⟩ = some (.slice (some aD) D.length c0) ∧ w'.cell? ⟨w.heap.size, 1, none⟩ = some (.slice (some aM) M.length c1) ∧ w'.cell? ⟨w.heap.size, 2, none⟩ = some (.slice A2 L.length c2) ∧ w'.cell? ⟨w.heap.size, 3, none⟩ = some (.int .i64 s) ∧ w'.cell? ⟨w.heap.size, 4, none⟩ = some (.bool true) ∧ w'.cell? (aD.add (p.toNat * 3)) = some (.int .i64 (Xb D p).f0) ∧ w'.cell? ⟨(aD.add (p.toNat * 3)).block, (aD.add (p.toNat * 3)).off + 1, none⟩ = some (.int .i64 (Xb D p).f1) ∧ w'.cell? ⟨(aD.add (p.toNat * 3)).block, (aD.add (p.toNat * 3)).off + 2, none⟩ = some (.slice BD (Xb D p).f2.length bD) ∧ w'.cell? (aM.add (p.toNat * 3)) = some (.int .i64 (Xb M p).f0) ∧ w'.cell? ⟨(aM.add (p.toNat * 3)).block, (aM.add (p.toNat * 3)).off + 1, none⟩ = some (.int .i64 (Xb M p).f1) ∧ w'.cell? ⟨(aM.add (p.toNat * 3)).block, (aM.add (p.toNat * 3)).off + 2, none⟩ = some (.slice BM (Xb M p).f2.length bM) ∧ w'.cell? (aR.add (p.toNat * 3)) = some (.int .i64 (Xb (XE D L) p).f0) ∧ w'.cell? ⟨(aR.add (p.toNat * 3)).block, (aR.add (p.toNat * 3)).off + 1, none⟩ = some (.int .i64 (Xb (XE D L) p).f1) ∧ w'.cell? ⟨(aR.add (p.toNat * 3)).block, (aR.add (p.toNat * 3)).off + 2, none⟩ = some (.slice BR (Xb (XE D L) p).f2.length bR)) (ds := []) Xc6 zb6 rfl rfl ⟨cc LW2.out x0, cc LW2.out x1, cc LW2.out x2, cc LW2.out x3, cc LW2.out x4, cc LW2.out YD.out.1, cc LW2.out YD.out.2.1, cc LW2.out YD.out.2.2, cc LW2.out YM.out.1, cc LW2.out YM.out.2.1, cc LW2.out YM.out.2.2, cc LW2.out YR.out.1, cc LW2.out YR.out.2.1, cc LW2.out YR.out.2.2⟩ (fun hHeld => ?_); refine XH Xi.Xdi Xi.El (fun HT_ HW_ => ?_)
              generalize wc.drew = w20 at LW2 hHeld ⊢; clear z0 z1 z2 z3 z4 LW; refine pu 0 131 Xc7 HT_ ?_; refine tk 1 132 Xc8 HT_ HW_ hHeld ?_; refine pu 2 133 Xc9 HT_ ?_; refine pu 3 134 XcA HT_ ?_; refine pn 4 135 XcB HT_ ?_; refine pn 5 136 XcC HT_ ?_; refine pn 6 137 XcD HT_ ?_; refine pn 7 138 XcE HT_ ?_; refine pn 8 139 XcF HT_ ?_; refine pn 9 140 XcG HT_ ?_; refine pn 10 141 XcH HT_ ?_; refine pn 11 142 XcI HT_ ?_; refine pn 12 143 XcJ HT_ ?_; refine pn 13 144 XcK HT_ ?_; refine pn 14 145 XcL HT_ ?_; refine pn 15 146 XcM HT_ ?_; refine pn 16 147 XcN HT_ ?_; refine pn 17 148 XcO HT_ ?_; refine pn 18 149 XcP HT_ ?_; refine pn 19 150 XcQ HT_ ?_; refine pn 20 151 XcR HT_ ?_; refine pn 21 152 XcS HT_ ?_; refine pn 22 153 XcT HT_ ?_; refine pn 23 154 XcU HT_ ?_; refine pn 24 155 XcV HT_ ?_; refine pn 25 156 XcW HT_ ?_; refine pn 26 157 XcX HT_ ?_; refine pn 27 158 XcY HT_ ?_; refine pn 28 159 XcZ HT_ ?_; refine pn 29 160 Xda HT_ ?_; refine pn 30 161 Xdb HT_ ?_; refine pn 31 162 Xdc HT_ ?_; refine pn 32 163 Xdd HT_ ?_; refine pn 33 164 Xde HT_ ?_; refine pn 34 165 Xdf HT_ ?_; refine pn 35 166 Xdg HT_ ?_; refine pn 36 167 Xdh HT_ ?_; refine pn 37 168 BU HT_ ?_; refine pn 38 169 BV HT_ ?_; refine pn 39 170 BX HT_ ?_; refine pn 40 171 BZ HT_ ?_; refine pn 41 172 Ea HT_ ?_; refine pn 42 173 Eb HT_ ?_; refine pn 43 174 Ec HT_ ?_; refine pn 44 175 Ed HT_ ?_; refine pn 45 176 Ee HT_ ?_; refine pn 46 177 Ef HT_ ?_; refine pn 47 178 Eg HT_ ?_; refine pn 48 179 Eh HT_ ?_
              refine pn 49 180 Ei HT_ ?_; refine pu 50 181 Ej HT_ ?_; refine YX (YA HT_.out zb6) ?_; clear hHeld
              go_wp2
              go_meet
              case rel => exact ⟨false, rfl, ⟨(fun h => absurd h (by simp))⟩, ⟨fun _ h => absurd h (by simp)⟩, LW2⟩
            | false =>
             cases hLd : JL L p with
             | false =>
              have hSm := k3_ rfl hLd; obtain ⟨e0, e1, e2⟩ := XkI.mp hSm; have c2b : decide ((Xb M p).f0 < (Xb D p).f0) = false := decide_eq_false (by have h_ := XkH hV.out hg2 p hp0 hp5; have h2_ : (Xb M p).f0 = (Xb (XE D L) p).f0 := e0; change (Xb D p).f0 ≤ (Xb (XE D L) p).f0 at h_; omega); have c3b : ((Xb M p).f1 != (Xb (XE D L) p).f1) = false := bne_eq_false_iff_eq.mpr e1; clear e0 e1 e2
              as_aux_lemma =>
               have LW2 : Aside0 (Below w5.heap.size w5 wc.drew) := ⟨Xx LW.out⟩
               refine Yw (n := 51) (S := fun w' => w'.cell? ⟨w.heap.size, 0, none⟩ = some (.slice (some aD) D.length c0) ∧ w'.cell? ⟨w.heap.size, 1, none⟩ = some (.slice (some aM) M.length c1) ∧ w'.cell? ⟨w.heap.size, 2, none⟩ = some (.slice A2 L.length c2) ∧ w'.cell? ⟨w.heap.size, 3, none⟩ = some (.int .i64 s) ∧ w'.cell? ⟨w.heap.size, 4, none⟩ = some (.bool false) ∧ w'.cell? (aD.add (p.toNat * 3)) = some (.int .i64 (Xb D p).f0) ∧ w'.cell? ⟨(aD.add (p.toNat * 3)).block, (aD.add (p.toNat * 3)).off + 1, none⟩ = some (.int .i64 (Xb D p).f1) ∧ w'.cell? ⟨(aD.add (p.toNat * 3)).block, (aD.add (p.toNat * 3)).off + 2, none⟩ = some (.slice BD (Xb D p).f2.length bD) ∧ w'.cell? (aM.add (p.toNat * 3)) = some (.int .i64 (Xb M p).f0) ∧ w'.cell? ⟨(aM.add (p.toNat * 3)).block, (aM.add (p.toNat * 3)).off + 1, none⟩ = some (.int .i64 (Xb M p).f1) ∧ w'.cell? ⟨(aM.add (p.toNat * 3)).block, (aM.add (p.toNat * 3)).off + 2, none⟩ = some (.slice BM (Xb M p).f2.length bM) ∧ w'.cell? (aR.add (p.toNat * 3)) = some (.int .i64 (Xb (XE D L) p).f0) ∧ w'.cell? ⟨(aR.add (p.toNat * 3)).block, (aR.add (p.toNat * 3)).off + 1, none⟩ = some (.int .i64 (Xb (XE D L) p).f1) ∧ w'.cell? ⟨(aR.add (p.toNat * 3)).block, (aR.add (p.toNat * 3)).off + 2, none⟩ = some (.slice BR (Xb (XE D L) p).f2.length bR)) (ds := []) Xc6 zb6 rfl rfl ⟨cc LW2.out x0, cc LW2.out x1, cc LW2.out x2, cc LW2.out x3, cc LW2.out x4, cc LW2.out YD.out.1, cc LW2.out YD.out.2.1, cc LW2.out YD.out.2.2, cc LW2.out YM.out.1, cc LW2.out YM.out.2.1, cc LW2.out YM.out.2.2, cc LW2.out YR.out.1, cc LW2.out YR.out.2.1, cc LW2.out YR.out.2.2⟩ (fun hHeld => ?_); refine XH Xi.Xdi Xi.El (fun HT_ HW_ => ?_)
               generalize wc.drew = w20 at LW2 hHeld ⊢; clear z0 z1 z2 z3 z4 LW; refine pu 0 131 Xc7 HT_ ?_; refine tk 1 132 Xc8 HT_ HW_ hHeld ?_; refine pu 2 133 Xc9 HT_ ?_; refine pu 3 134 XcA HT_ ?_; refine pu 4 135 XcB HT_ ?_; refine tk 5 136 XcC HT_ HW_ hHeld ?_; refine pu 6 137 XcD HT_ ?_; refine Zj (i := 7) (N := some 138) XcE rfl rfl (Yl HT_.out zb6) (by decide) (fun K hK => ?_); refine YI Tryz.func47 zb6 rfl #[.slice A2 L.length c2, .int .i64 p] (by rfl) rfl rfl zb2 ?_
               with_reducible refine (Xv.calls 1000 A2 c2 L p false _ (Kd.Xg CL.out LW2.out) HCL.out (hLd ▸ Jb hg2 p 1000 (by omega))).mono ?_
               rintro e w30 ⟨rfl, nd, hw⟩; refine ⟨_, rfl, ?_⟩
               have LW3 : Aside0 (Below w5.heap.size w5 w30) := ⟨zb64⟩
               clear hw nd LW2; refine hK.out _ _ ⟨cc LW3.out x0, cc LW3.out x1, cc LW3.out x2, cc LW3.out x3, cc LW3.out x4, cc LW3.out YD.out.1, cc LW3.out YD.out.2.1, cc LW3.out YD.out.2.2, cc LW3.out YM.out.1, cc LW3.out YM.out.2.1, cc LW3.out YM.out.2.2, cc LW3.out YR.out.1, cc LW3.out YR.out.2.1, cc LW3.out YR.out.2.2⟩ (fun hHeld => ?_); clear hK K; refine XQ (a' := ?_) ?_ ?_; rotate_left
               ·show Act.put _ (some 138) _ = _
                simp only [Act.put, List.setIfInBounds_toArray, List.set_cons_zero, List.set_cons_succ, Xz, XF]
                rfl
               refine pu 8 139 XcF HT_ ?_; refine pu 9 140 XcG HT_ ?_; refine pu 10 141 XcH HT_ ?_; refine tk 11 142 XcI HT_ HW_ hHeld ?_; refine pu 12 143 XcJ HT_ ?_; refine pu 13 144 XcK HT_ ?_; refine pu 14 145 XcL HT_ ?_; refine tk 15 146 XcM HT_ HW_ hHeld ?_; refine pu 16 147 XcN HT_ ?_; refine tk 17 148 XcO HT_ HW_ hHeld ?_; refine pu 18 149 XcP HT_ ?_; refine pu 19 150 XcQ HT_ ?_; refine pu 20 151 XcR HT_ ?_; refine tk 21 152 XcS HT_ HW_ hHeld ?_; refine pu 22 153 XcT HT_ ?_; refine pu 23 154 XcU HT_ ?_; refine pu 24 155 XcV HT_ ?_; refine pu 25 156 XcW HT_ ?_; refine tk 26 157 XcX HT_ HW_ hHeld ?_; refine pu 27 158 XcY HT_ ?_; refine Zj (i := 28) (N := some 159) XcZ rfl rfl (Yl HT_.out zb6) (by decide) (fun K hK => ?_); refine YI Tryz.func47 zb6 rfl #[.slice A2 L.length c2, .int .i64 p] (by rfl) rfl rfl zb2 ?_
               with_reducible refine (Xv.calls 1000 A2 c2 L p false _ (Kd.Xg CL.out LW3.out) HCL.out (hLd ▸ Jb hg2 p 1000 (by omega))).mono ?_
               rintro e w40 ⟨rfl, nd, hw⟩; refine ⟨_, rfl, ?_⟩
               have LW4 : Aside0 (Below w5.heap.size w5 w40) := ⟨zb92⟩
               clear hw nd LW3; refine hK.out _ _ ⟨cc LW4.out x0, cc LW4.out x1, cc LW4.out x2, cc LW4.out x3, cc LW4.out x4, cc LW4.out YD.out.1, cc LW4.out YD.out.2.1, cc LW4.out YD.out.2.2, cc LW4.out YM.out.1, cc LW4.out YM.out.2.1, cc LW4.out YM.out.2.2, cc LW4.out YR.out.1, cc LW4.out YR.out.2.1, cc LW4.out YR.out.2.2⟩ (fun hHeld => ?_); clear hK K; refine XQ (a' := ?_) ?_ ?_; rotate_left
               ·show Act.put _ (some 159) _ = _
                simp only [Act.put, List.setIfInBounds_toArray, List.set_cons_zero, List.set_cons_succ, Xz, XF]
                rfl
               refine pu 29 160 Xda HT_ ?_; refine pn 30 161 Xdb HT_ ?_; refine pn 31 162 Xdc HT_ ?_; refine pn 32 163 Xdd HT_ ?_; refine pn 33 164 Xde HT_ ?_; refine pu 34 165 Xdf HT_ ?_; refine pu 35 166 Xdg HT_ ?_; refine pu 36 167 Xdh HT_ ?_; refine pu 37 168 BU HT_ ?_; refine tk 38 169 BV HT_ HW_ hHeld ?_; refine pu 39 170 BX HT_ ?_; refine pu 40 171 BZ HT_ ?_; refine pu 41 172 Ea HT_ ?_; refine tk 42 173 Eb HT_ HW_ hHeld ?_; refine pu 43 174 Ec HT_ ?_; refine pu 44 175 Ed HT_ ?_; refine pu 45 176 Ee HT_ ?_; refine pu 46 177 Ef HT_ ?_; refine tk 47 178 Eg HT_ HW_ hHeld ?_; refine pu 48 179 Eh HT_ ?_; refine pu 49 180 Ei HT_ ?_; refine pu 50 181 Ej HT_ ?_; refine YX (YA HT_.out zb6) ?_; clear hHeld
               go_wp2
               go_meet
               case rel => exact ⟨false, rfl, ⟨(fun h => absurd h (by simp))⟩, ⟨fun _ _ h => absurd h (by rw [hLd]; simp)⟩, LW4⟩
             | true =>
              cases hFr : De D M L p with
              | false =>
               as_aux_lemma =>
                have LW2 : Aside0 (Below w5.heap.size w5 wc.drew) := ⟨Xx LW.out⟩
                refine Yw (n := 51) (S := fun w' => w'.cell? ⟨w.heap.size, 0, none⟩ = some (.slice (some aD) D.length c0) ∧ w'.cell? ⟨w.heap.size, 1, none⟩ = some (.slice (some aM) M.length c1) ∧ w'.cell? ⟨w.heap.size, 2, none⟩ = some (.slice A2 L.length c2) ∧ w'.cell? ⟨w.heap.size, 3, none⟩ = some (.int .i64 s) ∧ w'.cell? ⟨w.heap.size, 4, none⟩ = some (.bool false) ∧ w'.cell? (aD.add (p.toNat * 3)) = some (.int .i64 (Xb D p).f0) ∧ w'.cell? ⟨(aD.add (p.toNat * 3)).block, (aD.add (p.toNat * 3)).off + 1, none⟩ = some (.int .i64 (Xb D p).f1) ∧ w'.cell? ⟨(aD.add (p.toNat * 3)).block, (aD.add (p.toNat * 3)).off + 2, none⟩ = some (.slice BD (Xb D p).f2.length bD) ∧ w'.cell? (aM.add (p.toNat * 3)) = some (.int .i64 (Xb M p).f0) ∧ w'.cell? ⟨(aM.add (p.toNat * 3)).block, (aM.add (p.toNat * 3)).off + 1, none⟩ = some (.int .i64 (Xb M p).f1) ∧ w'.cell? ⟨(aM.add (p.toNat * 3)).block, (aM.add (p.toNat * 3)).off + 2, none⟩ = some (.slice BM (Xb M p).f2.length bM) ∧ w'.cell? (aR.add (p.toNat * 3)) = some (.int .i64 (Xb (XE D L) p).f0) ∧ w'.cell? ⟨(aR.add (p.toNat * 3)).block, (aR.add (p.toNat * 3)).off + 1, none⟩ = some (.int .i64 (Xb (XE D L) p).f1) ∧ w'.cell? ⟨(aR.add (p.toNat * 3)).block, (aR.add (p.toNat * 3)).off + 2, none⟩ = some (.slice BR (Xb (XE D L) p).f2.length bR)) (ds := []) Xc6 zb6 rfl rfl ⟨cc LW2.out x0, cc LW2.out x1, cc LW2.out x2, cc LW2.out x3, cc LW2.out x4, cc LW2.out YD.out.1, cc LW2.out YD.out.2.1, cc LW2.out YD.out.2.2, cc LW2.out YM.out.1, cc LW2.out YM.out.2.1, cc LW2.out YM.out.2.2, cc LW2.out YR.out.1, cc LW2.out YR.out.2.1, cc LW2.out YR.out.2.2⟩ (fun hHeld => ?_); refine XH Xi.Xdi Xi.El (fun HT_ HW_ => ?_)
                generalize wc.drew = w20 at LW2 hHeld ⊢; clear z0 z1 z2 z3 z4 LW; refine pu 0 131 Xc7 HT_ ?_; refine tk 1 132 Xc8 HT_ HW_ hHeld ?_; refine pu 2 133 Xc9 HT_ ?_; refine pu 3 134 XcA HT_ ?_; refine pu 4 135 XcB HT_ ?_; refine tk 5 136 XcC HT_ HW_ hHeld ?_; refine pu 6 137 XcD HT_ ?_; refine Zj (i := 7) (N := some 138) XcE rfl rfl (Yl HT_.out zb6) (by decide) (fun K hK => ?_); refine YI Tryz.func47 zb6 rfl #[.slice A2 L.length c2, .int .i64 p] (by rfl) rfl rfl zb2 ?_
                with_reducible refine (Xv.calls 1000 A2 c2 L p true _ (Kd.Xg CL.out LW2.out) HCL.out (hLd ▸ Jb hg2 p 1000 (by omega))).mono ?_
                rintro e w30 ⟨rfl, nd, hw⟩; refine ⟨_, rfl, ?_⟩
                have LW3 : Aside0 (Below w5.heap.size w5 w30) := ⟨zb64⟩
                clear hw nd LW2; refine hK.out _ _ ⟨cc LW3.out x0, cc LW3.out x1, cc LW3.out x2, cc LW3.out x3, cc LW3.out x4, cc LW3.out YD.out.1, cc LW3.out YD.out.2.1, cc LW3.out YD.out.2.2, cc LW3.out YM.out.1, cc LW3.out YM.out.2.1, cc LW3.out YM.out.2.2, cc LW3.out YR.out.1, cc LW3.out YR.out.2.1, cc LW3.out YR.out.2.2⟩ (fun hHeld => ?_); clear hK K; refine XQ (a' := ?_) ?_ ?_; rotate_left
                ·show Act.put _ (some 138) _ = _
                 simp only [Act.put, List.setIfInBounds_toArray, List.set_cons_zero, List.set_cons_succ, Xz, XF]
                 rfl
                refine pu 8 139 XcF HT_ ?_; refine pu 9 140 XcG HT_ ?_; refine pn 10 141 XcH HT_ ?_; refine pn 11 142 XcI HT_ ?_; refine pn 12 143 XcJ HT_ ?_; refine pn 13 144 XcK HT_ ?_; refine pn 14 145 XcL HT_ ?_; refine pn 15 146 XcM HT_ ?_; refine pn 16 147 XcN HT_ ?_; refine pn 17 148 XcO HT_ ?_; refine pn 18 149 XcP HT_ ?_; refine pn 19 150 XcQ HT_ ?_; refine pn 20 151 XcR HT_ ?_; refine pn 21 152 XcS HT_ ?_; refine pn 22 153 XcT HT_ ?_; refine pu 23 154 XcU HT_ ?_; refine pu 24 155 XcV HT_ ?_; refine pu 25 156 XcW HT_ ?_; refine tk 26 157 XcX HT_ HW_ hHeld ?_; refine pu 27 158 XcY HT_ ?_; refine Zj (i := 28) (N := some 159) XcZ rfl rfl (Yl HT_.out zb6) (by decide) (fun K hK => ?_); refine YI Tryz.func47 zb6 rfl #[.slice A2 L.length c2, .int .i64 p] (by rfl) rfl rfl zb2 ?_
                with_reducible refine (Xv.calls 1000 A2 c2 L p true _ (Kd.Xg CL.out LW3.out) HCL.out (hLd ▸ Jb hg2 p 1000 (by omega))).mono ?_
                rintro e w40 ⟨rfl, nd, hw⟩; refine ⟨_, rfl, ?_⟩
                have LW4 : Aside0 (Below w5.heap.size w5 w40) := ⟨zb92⟩
                clear hw nd LW3; refine hK.out _ _ ⟨cc LW4.out x0, cc LW4.out x1, cc LW4.out x2, cc LW4.out x3, cc LW4.out x4, cc LW4.out YD.out.1, cc LW4.out YD.out.2.1, cc LW4.out YD.out.2.2, cc LW4.out YM.out.1, cc LW4.out YM.out.2.1, cc LW4.out YM.out.2.2, cc LW4.out YR.out.1, cc LW4.out YR.out.2.1, cc LW4.out YR.out.2.2⟩ (fun hHeld => ?_); clear hK K; refine XQ (a' := ?_) ?_ ?_; rotate_left
                ·show Act.put _ (some 159) _ = _
                 simp only [Act.put, List.setIfInBounds_toArray, List.set_cons_zero, List.set_cons_succ, Xz, XF]
                 rfl
                refine pu 29 160 Xda HT_ ?_; refine tk 30 161 Xdb HT_ HW_ hHeld ?_; refine pu 31 162 Xdc HT_ ?_; refine Zj (i := 32) (N := some 163) Xdd rfl rfl (Yl HT_.out zb6) (by decide) (fun K hK => ?_); refine YI Tryz.func48 zb6 rfl #[.agg #[.slice (some aD) D.length c0, .slice (some aM) M.length c1, .slice A2 L.length c2, .int .i64 s, .bool false], .int .i64 p] (by rfl) rfl rfl zb2 ?_
                with_reducible refine (YJ.calls 1000 (some aD) c0 D (some aM) c1 M A2 c2 L s false p false _ (Kd.Xg CD.out LW4.out) HCD.out (Kd.Xg CM.out LW4.out) HCM.out (Kd.Xg CL.out LW4.out) HCL.out (hFr ▸ Ny hV.out hVM.out hg2 okD.out okM.out hp0 hp5 s false 1000 (by omega))).mono ?_
                rintro e w50 ⟨rfl, hb⟩; refine ⟨_, rfl, ?_⟩; have LW5 := zz (Xc LW4.out hb); clear hb LW4; refine hK.out _ _ ⟨cc LW5.out x0, cc LW5.out x1, cc LW5.out x2, cc LW5.out x3, cc LW5.out x4, cc LW5.out YD.out.1, cc LW5.out YD.out.2.1, cc LW5.out YD.out.2.2, cc LW5.out YM.out.1, cc LW5.out YM.out.2.1, cc LW5.out YM.out.2.2, cc LW5.out YR.out.1, cc LW5.out YR.out.2.1, cc LW5.out YR.out.2.2⟩ (fun hHeld => ?_); clear hK K; refine XQ (a' := ?_) ?_ ?_; rotate_left
                ·show Act.put _ (some 163) _ = _
                 simp only [Act.put, List.setIfInBounds_toArray, List.set_cons_zero, List.set_cons_succ, Xz, XF]
                 rfl
                refine pu 33 164 Xde HT_ ?_; refine pu 34 165 Xdf HT_ ?_; refine pu 35 166 Xdg HT_ ?_; refine pu 36 167 Xdh HT_ ?_; refine pn 37 168 BU HT_ ?_; refine pn 38 169 BV HT_ ?_; refine pn 39 170 BX HT_ ?_; refine pn 40 171 BZ HT_ ?_; refine pn 41 172 Ea HT_ ?_; refine pn 42 173 Eb HT_ ?_; refine pn 43 174 Ec HT_ ?_; refine pn 44 175 Ed HT_ ?_; refine pn 45 176 Ee HT_ ?_; refine pn 46 177 Ef HT_ ?_; refine pn 47 178 Eg HT_ ?_; refine pn 48 179 Eh HT_ ?_; refine pu 49 180 Ei HT_ ?_; refine pu 50 181 Ej HT_ ?_; refine YX (YA HT_.out zb6) ?_; clear hHeld
                go_wp2
                go_meet
                case rel => exact ⟨true, rfl, ⟨fun _ => by unfold Vq; rw [if_neg (by simp), hLd, if_pos rfl, hFr]; simp⟩, ⟨(fun h => absurd h (by simp))⟩, LW5⟩
              | true =>
               cases c3b : ((Xb M p).f1 != (Xb (XE D L) p).f1) with
               | true =>
                as_aux_lemma =>
                 have LW2 : Aside0 (Below w5.heap.size w5 wc.drew) := ⟨Xx LW.out⟩
                 refine Yw (n := 51) (S := fun w' => w'.cell? ⟨w.heap.size, 0, none⟩ = some (.slice (some aD) D.length c0) ∧ w'.cell? ⟨w.heap.size, 1, none⟩ = some (.slice (some aM) M.length c1) ∧ w'.cell? ⟨w.heap.size, 2, none⟩ = some (.slice A2 L.length c2) ∧ w'.cell? ⟨w.heap.size, 3, none⟩ = some (.int .i64 s) ∧ w'.cell? ⟨w.heap.size, 4, none⟩ = some (.bool false) ∧ w'.cell? (aD.add (p.toNat * 3)) = some (.int .i64 (Xb D p).f0) ∧ w'.cell? ⟨(aD.add (p.toNat * 3)).block, (aD.add (p.toNat * 3)).off + 1, none⟩ = some (.int .i64 (Xb D p).f1) ∧ w'.cell? ⟨(aD.add (p.toNat * 3)).block, (aD.add (p.toNat * 3)).off + 2, none⟩ = some (.slice BD (Xb D p).f2.length bD) ∧ w'.cell? (aM.add (p.toNat * 3)) = some (.int .i64 (Xb M p).f0) ∧ w'.cell? ⟨(aM.add (p.toNat * 3)).block, (aM.add (p.toNat * 3)).off + 1, none⟩ = some (.int .i64 (Xb M p).f1) ∧ w'.cell? ⟨(aM.add (p.toNat * 3)).block, (aM.add (p.toNat * 3)).off + 2, none⟩ = some (.slice BM (Xb M p).f2.length bM) ∧ w'.cell? (aR.add (p.toNat * 3)) = some (.int .i64 (Xb (XE D L) p).f0) ∧ w'.cell? ⟨(aR.add (p.toNat * 3)).block, (aR.add (p.toNat * 3)).off + 1, none⟩ = some (.int .i64 (Xb (XE D L) p).f1) ∧ w'.cell? ⟨(aR.add (p.toNat * 3)).block, (aR.add (p.toNat * 3)).off + 2, none⟩ = some (.slice BR (Xb (XE D L) p).f2.length bR)) (ds := []) Xc6 zb6 rfl rfl ⟨cc LW2.out x0, cc LW2.out x1, cc LW2.out x2, cc LW2.out x3, cc LW2.out x4, cc LW2.out YD.out.1, cc LW2.out YD.out.2.1, cc LW2.out YD.out.2.2, cc LW2.out YM.out.1, cc LW2.out YM.out.2.1, cc LW2.out YM.out.2.2, cc LW2.out YR.out.1, cc LW2.out YR.out.2.1, cc LW2.out YR.out.2.2⟩ (fun hHeld => ?_); refine XH Xi.Xdi Xi.El (fun HT_ HW_ => ?_)
                 generalize wc.drew = w20 at LW2 hHeld ⊢; clear z0 z1 z2 z3 z4 LW; refine pu 0 131 Xc7 HT_ ?_; refine tk 1 132 Xc8 HT_ HW_ hHeld ?_; refine pu 2 133 Xc9 HT_ ?_; refine pu 3 134 XcA HT_ ?_; refine pu 4 135 XcB HT_ ?_; refine tk 5 136 XcC HT_ HW_ hHeld ?_; refine pu 6 137 XcD HT_ ?_; refine Zj (i := 7) (N := some 138) XcE rfl rfl (Yl HT_.out zb6) (by decide) (fun K hK => ?_); refine YI Tryz.func47 zb6 rfl #[.slice A2 L.length c2, .int .i64 p] (by rfl) rfl rfl zb2 ?_
                 with_reducible refine (Xv.calls 1000 A2 c2 L p true _ (Kd.Xg CL.out LW2.out) HCL.out (hLd ▸ Jb hg2 p 1000 (by omega))).mono ?_
                 rintro e w30 ⟨rfl, nd, hw⟩; refine ⟨_, rfl, ?_⟩
                 have LW3 : Aside0 (Below w5.heap.size w5 w30) := ⟨zb64⟩
                 clear hw nd LW2; refine hK.out _ _ ⟨cc LW3.out x0, cc LW3.out x1, cc LW3.out x2, cc LW3.out x3, cc LW3.out x4, cc LW3.out YD.out.1, cc LW3.out YD.out.2.1, cc LW3.out YD.out.2.2, cc LW3.out YM.out.1, cc LW3.out YM.out.2.1, cc LW3.out YM.out.2.2, cc LW3.out YR.out.1, cc LW3.out YR.out.2.1, cc LW3.out YR.out.2.2⟩ (fun hHeld => ?_); clear hK K; refine XQ (a' := ?_) ?_ ?_; rotate_left
                 ·show Act.put _ (some 138) _ = _
                  simp only [Act.put, List.setIfInBounds_toArray, List.set_cons_zero, List.set_cons_succ, Xz, XF]
                  rfl
                 refine pu 8 139 XcF HT_ ?_; refine pu 9 140 XcG HT_ ?_; refine pn 10 141 XcH HT_ ?_; refine pn 11 142 XcI HT_ ?_; refine pn 12 143 XcJ HT_ ?_; refine pn 13 144 XcK HT_ ?_; refine pn 14 145 XcL HT_ ?_; refine pn 15 146 XcM HT_ ?_; refine pn 16 147 XcN HT_ ?_; refine pn 17 148 XcO HT_ ?_; refine pn 18 149 XcP HT_ ?_; refine pn 19 150 XcQ HT_ ?_; refine pn 20 151 XcR HT_ ?_; refine pn 21 152 XcS HT_ ?_; refine pn 22 153 XcT HT_ ?_; refine pu 23 154 XcU HT_ ?_; refine pu 24 155 XcV HT_ ?_; refine pu 25 156 XcW HT_ ?_; refine tk 26 157 XcX HT_ HW_ hHeld ?_; refine pu 27 158 XcY HT_ ?_; refine Zj (i := 28) (N := some 159) XcZ rfl rfl (Yl HT_.out zb6) (by decide) (fun K hK => ?_); refine YI Tryz.func47 zb6 rfl #[.slice A2 L.length c2, .int .i64 p] (by rfl) rfl rfl zb2 ?_
                 with_reducible refine (Xv.calls 1000 A2 c2 L p true _ (Kd.Xg CL.out LW3.out) HCL.out (hLd ▸ Jb hg2 p 1000 (by omega))).mono ?_
                 rintro e w40 ⟨rfl, nd, hw⟩; refine ⟨_, rfl, ?_⟩
                 have LW4 : Aside0 (Below w5.heap.size w5 w40) := ⟨zb92⟩
                 clear hw nd LW3; refine hK.out _ _ ⟨cc LW4.out x0, cc LW4.out x1, cc LW4.out x2, cc LW4.out x3, cc LW4.out x4, cc LW4.out YD.out.1, cc LW4.out YD.out.2.1, cc LW4.out YD.out.2.2, cc LW4.out YM.out.1, cc LW4.out YM.out.2.1, cc LW4.out YM.out.2.2, cc LW4.out YR.out.1, cc LW4.out YR.out.2.1, cc LW4.out YR.out.2.2⟩ (fun hHeld => ?_); clear hK K; refine XQ (a' := ?_) ?_ ?_; rotate_left
                 ·show Act.put _ (some 159) _ = _
                  simp only [Act.put, List.setIfInBounds_toArray, List.set_cons_zero, List.set_cons_succ, Xz, XF]
                  rfl
                 refine pu 29 160 Xda HT_ ?_; refine tk 30 161 Xdb HT_ HW_ hHeld ?_; refine pu 31 162 Xdc HT_ ?_; refine Zj (i := 32) (N := some 163) Xdd rfl rfl (Yl HT_.out zb6) (by decide) (fun K hK => ?_); refine YI Tryz.func48 zb6 rfl #[.agg #[.slice (some aD) D.length c0, .slice (some aM) M.length c1, .slice A2 L.length c2, .int .i64 s, .bool false], .int .i64 p] (by rfl) rfl rfl zb2 ?_
                 with_reducible refine (YJ.calls 1000 (some aD) c0 D (some aM) c1 M A2 c2 L s false p true _ (Kd.Xg CD.out LW4.out) HCD.out (Kd.Xg CM.out LW4.out) HCM.out (Kd.Xg CL.out LW4.out) HCL.out (hFr ▸ Ny hV.out hVM.out hg2 okD.out okM.out hp0 hp5 s false 1000 (by omega))).mono ?_
                 rintro e w50 ⟨rfl, hb⟩; refine ⟨_, rfl, ?_⟩; have LW5 := zz (Xc LW4.out hb); clear hb LW4; refine hK.out _ _ ⟨cc LW5.out x0, cc LW5.out x1, cc LW5.out x2, cc LW5.out x3, cc LW5.out x4, cc LW5.out YD.out.1, cc LW5.out YD.out.2.1, cc LW5.out YD.out.2.2, cc LW5.out YM.out.1, cc LW5.out YM.out.2.1, cc LW5.out YM.out.2.2, cc LW5.out YR.out.1, cc LW5.out YR.out.2.1, cc LW5.out YR.out.2.2⟩ (fun hHeld => ?_); clear hK K; refine XQ (a' := ?_) ?_ ?_; rotate_left
                 ·show Act.put _ (some 163) _ = _
                  simp only [Act.put, List.setIfInBounds_toArray, List.set_cons_zero, List.set_cons_succ, Xz, XF]
                  rfl
                 refine pu 33 164 Xde HT_ ?_; refine pu 34 165 Xdf HT_ ?_; refine pu 35 166 Xdg HT_ ?_; refine pu 36 167 Xdh HT_ ?_; refine pu 37 168 BU HT_ ?_; refine tk 38 169 BV HT_ HW_ hHeld ?_; refine pu 39 170 BX HT_ ?_; refine pu 40 171 BZ HT_ ?_; refine pu 41 172 Ea HT_ ?_; refine tk 42 173 Eb HT_ HW_ hHeld ?_; refine pu 43 174 Ec HT_ ?_; refine pu 44 175 Ed HT_ ?_; refine pu 45 176 Ee HT_ ?_; refine pu 46 177 Ef HT_ ?_; refine tk 47 178 Eg HT_ HW_ hHeld ?_; refine pu 48 179 Eh HT_ ?_; refine pu 49 180 Ei HT_ ?_; refine pu 50 181 Ej HT_ ?_; refine YX (YA HT_.out zb6) ?_; clear hHeld
                 go_wp2
                 go_meet
                 case rel => exact ⟨true, rfl, ⟨fun _ => by unfold Vq; rw [if_neg (by simp), hLd, if_pos rfl, show ((pg M p).f1 == (pg (XE D L) p).f1) = false from by have h_ := bne_iff_ne.mp c3b; exact beq_eq_false_iff_ne.mpr h_]; simp⟩, ⟨(fun h => absurd h (by simp))⟩, LW5⟩
               | false =>
                as_aux_lemma =>
                 have LW2 : Aside0 (Below w5.heap.size w5 wc.drew) := ⟨Xx LW.out⟩
                 refine Yw (n := 51) (S := fun w' => w'.cell? ⟨w.heap.size, 0, none⟩ = some (.slice (some aD) D.length c0) ∧ w'.cell? ⟨w.heap.size, 1, none⟩ = some (.slice (some aM) M.length c1) ∧ w'.cell? ⟨w.heap.size, 2, none⟩ = some (.slice A2 L.length c2) ∧ w'.cell? ⟨w.heap.size, 3, none⟩ = some (.int .i64 s) ∧ w'.cell? ⟨w.heap.size, 4, none⟩ = some (.bool false) ∧ w'.cell? (aD.add (p.toNat * 3)) = some (.int .i64 (Xb D p).f0) ∧ w'.cell? ⟨(aD.add (p.toNat * 3)).block, (aD.add (p.toNat * 3)).off + 1, none⟩ = some (.int .i64 (Xb D p).f1) ∧ w'.cell? ⟨(aD.add (p.toNat * 3)).block, (aD.add (p.toNat * 3)).off + 2, none⟩ = some (.slice BD (Xb D p).f2.length bD) ∧ w'.cell? (aM.add (p.toNat * 3)) = some (.int .i64 (Xb M p).f0) ∧ w'.cell? ⟨(aM.add (p.toNat * 3)).block, (aM.add (p.toNat * 3)).off + 1, none⟩ = some (.int .i64 (Xb M p).f1) ∧ w'.cell? ⟨(aM.add (p.toNat * 3)).block, (aM.add (p.toNat * 3)).off + 2, none⟩ = some (.slice BM (Xb M p).f2.length bM) ∧ w'.cell? (aR.add (p.toNat * 3)) = some (.int .i64 (Xb (XE D L) p).f0) ∧ w'.cell? ⟨(aR.add (p.toNat * 3)).block, (aR.add (p.toNat * 3)).off + 1, none⟩ = some (.int .i64 (Xb (XE D L) p).f1) ∧ w'.cell? ⟨(aR.add (p.toNat * 3)).block, (aR.add (p.toNat * 3)).off + 2, none⟩ = some (.slice BR (Xb (XE D L) p).f2.length bR)) (ds := []) Xc6 zb6 rfl rfl ⟨cc LW2.out x0, cc LW2.out x1, cc LW2.out x2, cc LW2.out x3, cc LW2.out x4, cc LW2.out YD.out.1, cc LW2.out YD.out.2.1, cc LW2.out YD.out.2.2, cc LW2.out YM.out.1, cc LW2.out YM.out.2.1, cc LW2.out YM.out.2.2, cc LW2.out YR.out.1, cc LW2.out YR.out.2.1, cc LW2.out YR.out.2.2⟩ (fun hHeld => ?_); refine XH Xi.Xdi Xi.El (fun HT_ HW_ => ?_)
                 generalize wc.drew = w20 at LW2 hHeld ⊢; clear z0 z1 z2 z3 z4 LW; refine pu 0 131 Xc7 HT_ ?_; refine tk 1 132 Xc8 HT_ HW_ hHeld ?_; refine pu 2 133 Xc9 HT_ ?_; refine pu 3 134 XcA HT_ ?_; refine pu 4 135 XcB HT_ ?_; refine tk 5 136 XcC HT_ HW_ hHeld ?_; refine pu 6 137 XcD HT_ ?_; refine Zj (i := 7) (N := some 138) XcE rfl rfl (Yl HT_.out zb6) (by decide) (fun K hK => ?_); refine YI Tryz.func47 zb6 rfl #[.slice A2 L.length c2, .int .i64 p] (by rfl) rfl rfl zb2 ?_
                 with_reducible refine (Xv.calls 1000 A2 c2 L p true _ (Kd.Xg CL.out LW2.out) HCL.out (hLd ▸ Jb hg2 p 1000 (by omega))).mono ?_
                 rintro e w30 ⟨rfl, nd, hw⟩; refine ⟨_, rfl, ?_⟩
                 have LW3 : Aside0 (Below w5.heap.size w5 w30) := ⟨zb64⟩
                 clear hw nd LW2; refine hK.out _ _ ⟨cc LW3.out x0, cc LW3.out x1, cc LW3.out x2, cc LW3.out x3, cc LW3.out x4, cc LW3.out YD.out.1, cc LW3.out YD.out.2.1, cc LW3.out YD.out.2.2, cc LW3.out YM.out.1, cc LW3.out YM.out.2.1, cc LW3.out YM.out.2.2, cc LW3.out YR.out.1, cc LW3.out YR.out.2.1, cc LW3.out YR.out.2.2⟩ (fun hHeld => ?_); clear hK K; refine XQ (a' := ?_) ?_ ?_; rotate_left
                 ·show Act.put _ (some 138) _ = _
                  simp only [Act.put, List.setIfInBounds_toArray, List.set_cons_zero, List.set_cons_succ, Xz, XF]
                  rfl
                 refine pu 8 139 XcF HT_ ?_; refine pu 9 140 XcG HT_ ?_; refine pn 10 141 XcH HT_ ?_; refine pn 11 142 XcI HT_ ?_; refine pn 12 143 XcJ HT_ ?_; refine pn 13 144 XcK HT_ ?_; refine pn 14 145 XcL HT_ ?_; refine pn 15 146 XcM HT_ ?_; refine pn 16 147 XcN HT_ ?_; refine pn 17 148 XcO HT_ ?_; refine pn 18 149 XcP HT_ ?_; refine pn 19 150 XcQ HT_ ?_; refine pn 20 151 XcR HT_ ?_; refine pn 21 152 XcS HT_ ?_; refine pn 22 153 XcT HT_ ?_; refine pu 23 154 XcU HT_ ?_; refine pu 24 155 XcV HT_ ?_; refine pu 25 156 XcW HT_ ?_; refine tk 26 157 XcX HT_ HW_ hHeld ?_; refine pu 27 158 XcY HT_ ?_; refine Zj (i := 28) (N := some 159) XcZ rfl rfl (Yl HT_.out zb6) (by decide) (fun K hK => ?_); refine YI Tryz.func47 zb6 rfl #[.slice A2 L.length c2, .int .i64 p] (by rfl) rfl rfl zb2 ?_
                 with_reducible refine (Xv.calls 1000 A2 c2 L p true _ (Kd.Xg CL.out LW3.out) HCL.out (hLd ▸ Jb hg2 p 1000 (by omega))).mono ?_
                 rintro e w40 ⟨rfl, nd, hw⟩; refine ⟨_, rfl, ?_⟩
                 have LW4 : Aside0 (Below w5.heap.size w5 w40) := ⟨zb92⟩
                 clear hw nd LW3; refine hK.out _ _ ⟨cc LW4.out x0, cc LW4.out x1, cc LW4.out x2, cc LW4.out x3, cc LW4.out x4, cc LW4.out YD.out.1, cc LW4.out YD.out.2.1, cc LW4.out YD.out.2.2, cc LW4.out YM.out.1, cc LW4.out YM.out.2.1, cc LW4.out YM.out.2.2, cc LW4.out YR.out.1, cc LW4.out YR.out.2.1, cc LW4.out YR.out.2.2⟩ (fun hHeld => ?_); clear hK K; refine XQ (a' := ?_) ?_ ?_; rotate_left
                 ·show Act.put _ (some 159) _ = _
                  simp only [Act.put, List.setIfInBounds_toArray, List.set_cons_zero, List.set_cons_succ, Xz, XF]
                  rfl
                 refine pu 29 160 Xda HT_ ?_; refine tk 30 161 Xdb HT_ HW_ hHeld ?_; refine pu 31 162 Xdc HT_ ?_; refine Zj (i := 32) (N := some 163) Xdd rfl rfl (Yl HT_.out zb6) (by decide) (fun K hK => ?_); refine YI Tryz.func48 zb6 rfl #[.agg #[.slice (some aD) D.length c0, .slice (some aM) M.length c1, .slice A2 L.length c2, .int .i64 s, .bool false], .int .i64 p] (by rfl) rfl rfl zb2 ?_
                 with_reducible refine (YJ.calls 1000 (some aD) c0 D (some aM) c1 M A2 c2 L s false p true _ (Kd.Xg CD.out LW4.out) HCD.out (Kd.Xg CM.out LW4.out) HCM.out (Kd.Xg CL.out LW4.out) HCL.out (hFr ▸ Ny hV.out hVM.out hg2 okD.out okM.out hp0 hp5 s false 1000 (by omega))).mono ?_
                 rintro e w50 ⟨rfl, hb⟩; refine ⟨_, rfl, ?_⟩; have LW5 := zz (Xc LW4.out hb); clear hb LW4; refine hK.out _ _ ⟨cc LW5.out x0, cc LW5.out x1, cc LW5.out x2, cc LW5.out x3, cc LW5.out x4, cc LW5.out YD.out.1, cc LW5.out YD.out.2.1, cc LW5.out YD.out.2.2, cc LW5.out YM.out.1, cc LW5.out YM.out.2.1, cc LW5.out YM.out.2.2, cc LW5.out YR.out.1, cc LW5.out YR.out.2.1, cc LW5.out YR.out.2.2⟩ (fun hHeld => ?_); clear hK K; refine XQ (a' := ?_) ?_ ?_; rotate_left
                 ·show Act.put _ (some 163) _ = _
                  simp only [Act.put, List.setIfInBounds_toArray, List.set_cons_zero, List.set_cons_succ, Xz, XF]
                  rfl
                 refine pu 33 164 Xde HT_ ?_; refine pu 34 165 Xdf HT_ ?_; refine pu 35 166 Xdg HT_ ?_; refine pu 36 167 Xdh HT_ ?_; refine pu 37 168 BU HT_ ?_; refine tk 38 169 BV HT_ HW_ hHeld ?_; refine pu 39 170 BX HT_ ?_; refine pu 40 171 BZ HT_ ?_; refine pu 41 172 Ea HT_ ?_; refine tk 42 173 Eb HT_ HW_ hHeld ?_; refine pu 43 174 Ec HT_ ?_; refine pu 44 175 Ed HT_ ?_; refine pu 45 176 Ee HT_ ?_; refine pu 46 177 Ef HT_ ?_; refine tk 47 178 Eg HT_ HW_ hHeld ?_; refine pu 48 179 Eh HT_ ?_; refine pu 49 180 Ei HT_ ?_; refine pu 50 181 Ej HT_ ?_; refine YX (YA HT_.out zb6) ?_; clear hHeld
                 go_wp2
                 go_meet
                 case rel => exact ⟨false, rfl, ⟨(fun h => absurd h (by simp))⟩, ⟨fun _ _ _ => ⟨hFr, beq_iff_eq.mpr (bne_eq_false_iff_eq.mp c3b)⟩⟩, LW5⟩
           case rest =>
            clear LW z0 z1 z2 z3 z4; obtain ⟨b, rfl, hb1, hb2, LW⟩ := hcut; have z0 := cc LW.out x0; have z1 := cc LW.out x1; have z2 := cc LW.out x2; have z3 := cc LW.out x3; have z4 := cc LW.out x4
            cases b with
            | true =>
             go_wp2
             go_ret
             exact ⟨by rw [Nz p.toNat (by omega) (by rw [hnp.out]; exact hb1.out (by simp))]; first | done | rfl, Xc LB5.out LW.out⟩
            | false =>
             have hb3 := hb2.out (by simp); clear hb1 hb2
             go_wp2
             go_loopg [7, 8] 3 (fun kq v7 v8 w' => ∃ (n tx : Int), v7 = .int .i64 n ∧ v8 = .int .i64 tx ∧ Aside0 (1 ≤ tx ∧ tx.toNat + kq = 4) ∧ Aside0 (n = (ME L p (tx.toNat - 1) : Int)) ∧ Aside0 (0 ≤ n ∧ n + (kq : Int) ≤ 3) ∧ Aside0 (Below w5.heap.size w5 w'))
             case atStart => exact ⟨0, 1, rfl, rfl, ⟨by omega, by omega⟩, ⟨rfl⟩, ⟨by omega, by omega⟩, LW⟩
             case round =>
              clear LW z0 z1 z2 z3 z4; obtain ⟨n, tx, rfl, rfl, ht, hn, hn3, LW⟩ := hrel; have z0 := cc LW.out x0; have z1 := cc LW.out x1; have z2 := cc LW.out x2; have z3 := cc LW.out x3; have z4 := cc LW.out x4; have ht1 : 1 ≤ tx := ht.out.1
              cases gk with
              | succ k2 =>
               have qt : decide (tx ≤ 3) = true := decide_eq_true (by have := ht.out; omega)
               have ht3 : tx ≤ 3 := by have := ht.out; omega
               have hn30 : 0 ≤ n := hn3.out.1
               have hn33 : n ≤ 3 := by have := hn3.out; omega
               have hwt : wrap64 (tx + 1) = tx + 1 := T.wrap_small (by omega) (by omega); have hwt2 : IntKind.i64.wrap (tx + 1) = tx + 1 := (Xz _).trans hwt; have hwn : wrap64 (n + 1) = n + 1 := T.wrap_small (by omega) (by omega); have hwn2 : IntKind.i64.wrap (n + 1) = n + 1 := (Xz _).trans hwn
               go_wp2_with fail
               refine (Zy.calls 1000 A2 c2 L tx p (hasB L tx p) _ (Kd.Xg CL.out LW.out) HCL.out (XtU hg2 tx p 1000 (by omega))).mono ?_; rintro e w30 ⟨rfl, nd, hw⟩
               have LW3 : Aside0 (Below w5.heap.size w5 w30) := ⟨by rw [hw]; exact XN LW.out nd⟩
               clear hw nd LW z0 z1 z2 z3 z4; have hstep := zz (Xcz L p tx ht1)
               cases hh : hasB L tx p with
               | true =>
                go_wp2
                go_roundg k2
                case measure => omega
                case rel => exact ⟨n + 1, tx + 1, rfl, rfl, ⟨by omega, by have := ht.out; omega⟩, ⟨by rw [hstep.out, hn.out, hh, if_pos rfl]; omega⟩, ⟨by omega, by have := hn3.out; omega⟩, LW3⟩
               | false =>
                go_wp2
                go_roundg k2
                case measure => omega
                case rel => exact ⟨n, tx + 1, rfl, rfl, ⟨by omega, by have := ht.out; omega⟩, ⟨by rw [hstep.out, hn.out, hh, if_neg (by simp)]; omega⟩, ⟨by omega, by have := hn3.out; omega⟩, LW3⟩
              | zero =>
               have qt : decide (tx ≤ 3) = false := decide_eq_false (by have := ht.out; omega)
               have hn4 : Aside0 (n = (Mj L p : Int)) := ⟨by rw [hn.out, show tx.toNat - 1 = 3 by have := ht.out; omega, Xm9]⟩
               by_cases c5 : n > 1
               ·have c5b : decide (1 < n) = true := decide_eq_true c5
                go_wp2
                go_ret
                exact ⟨by rw [Nz p.toNat (by omega) (by rw [hnp.out]; unfold Vq; rw [decide_eq_false (show ¬ Mj L p ≤ 1 by have := hn4.out; omega)]; simp)]; first | done | rfl, Xc LB5.out LW.out⟩
               ·have c5b : decide (1 < n) = false := decide_eq_false c5
                have hwp : wrap64 (p + 1) = p + 1 := T.wrap_small (by omega) (by omega); have hwp2 : IntKind.i64.wrap (p + 1) = p + 1 := (Xz _).trans hwp
                go_wp2
                go_roundg k1
                case measure => omega
                case rel => exact ⟨p + 1, rfl, ⟨by omega, by have := hp.out; omega⟩, ⟨fun m h1 h2 => by
                 by_cases e : (m : Int) = p
                 ·rw [e]; exact XkJ k1_ (by have := hn4.out; omega) k2_ k3_ hb3
                 ·exact hB.out m h1 (by omega)⟩, LW⟩
end Go.Proofs.YtphnphmbfogmlaaGreat.Pr
