import Derived.Test.YtphnphmbfogmlaaGreatQEByq
import Derived.Test.YtphnphmbfogmlaaGreatQESx
import Derived.Test.YtphnphmbfogmlaaGreatQEPrGood
import Derived.Test.YtphnphmbfogmlaaGreatQEPrWith
import Derived.Test.YtphnphmbfogmlaaGreatQEPrFresh
import Derived.Test.YtphnphmbfogmlaaGreatQEL11R
import Derived.Test.YtphnphmbfogmlaaGreatQEUndS
import Derived.Test.YtphnphmbfogmlaaGreatQEEnK2
namespace Go.Proofs.YtphnphmbfogmlaaGreat.Pr
open Go.RowKit Go.PW Go.PL Go.PM Go.Proofs.YtphnphmbfogmlaaGreat.T
attribute [local go_sem] YO YP Zm Zn Yv Yw YQ YS
set_option linter.unusedVariables false
set_option linter.unusedSimpArgs false
abbrev mES0 : Array Bool := #[nn,nn,nn,nn,nn,nn,nn,nn]
abbrev mES1 : Array Bool := #[yy,nn,nn,nn,nn,nn,nn,nn]
abbrev mES2 : Array Bool := #[yy,yy,nn,nn,nn,nn,nn,nn]
abbrev mES3 : Array Bool := #[yy,yy,yy,nn,nn,nn,nn,nn]
abbrev mES4 : Array Bool := #[yy,yy,yy,yy,nn,nn,nn,nn]
abbrev mES5 : Array Bool := #[yy,yy,yy,yy,yy,nn,nn,nn]
abbrev mES6 : Array Bool := #[yy,yy,yy,yy,yy,yy,nn,nn]
abbrev mES7 : Array Bool := #[yy,yy,yy,yy,yy,yy,yy,nn]
abbrev mES8 : Array Bool := #[yy,yy,yy,yy,yy,yy,yy,yy]
abbrev XoP : Array Bool := #[nn,nn,nn,nn,nn,nn,nn,nn,nn,nn,nn,nn,nn,nn,nn,nn,nn,nn,nn,nn,nn,nn,nn,nn,nn,nn,nn,nn,nn,nn,nn,nn,nn,nn,nn,nn,nn,nn,nn,nn,nn,nn,nn,nn,nn,nn,nn,nn,nn,nn,nn,nn]
abbrev Xbk : Array Bool := #[yy,nn,nn,nn,nn,nn,nn,nn,nn,nn,nn,nn,nn,nn,nn,nn,nn,nn,nn,nn,nn,nn,nn,nn,nn,nn,nn,nn,nn,nn,nn,nn,nn,nn,nn,nn,nn,nn,nn,nn,nn,nn,nn,nn,nn,nn,nn,nn,nn,nn,nn,nn]
abbrev Xbl : Array Bool := #[yy,yy,nn,nn,nn,nn,nn,nn,nn,nn,nn,nn,nn,nn,nn,nn,nn,nn,nn,nn,nn,nn,nn,nn,nn,nn,nn,nn,nn,nn,nn,nn,nn,nn,nn,nn,nn,nn,nn,nn,nn,nn,nn,nn,nn,nn,nn,nn,nn,nn,nn,nn]
abbrev Xbm : Array Bool := #[yy,yy,yy,nn,nn,nn,nn,nn,nn,nn,nn,nn,nn,nn,nn,nn,nn,nn,nn,nn,nn,nn,nn,nn,nn,nn,nn,nn,nn,nn,nn,nn,nn,nn,nn,nn,nn,nn,nn,nn,nn,nn,nn,nn,nn,nn,nn,nn,nn,nn,nn,nn]
abbrev Xbn : Array Bool := #[yy,yy,yy,yy,nn,nn,nn,nn,nn,nn,nn,nn,nn,nn,nn,nn,nn,nn,nn,nn,nn,nn,nn,nn,nn,nn,nn,nn,nn,nn,nn,nn,nn,nn,nn,nn,nn,nn,nn,nn,nn,nn,nn,nn,nn,nn,nn,nn,nn,nn,nn,nn]
abbrev Xbo : Array Bool := #[yy,yy,yy,yy,yy,nn,nn,nn,nn,nn,nn,nn,nn,nn,nn,nn,nn,nn,nn,nn,nn,nn,nn,nn,nn,nn,nn,nn,nn,nn,nn,nn,nn,nn,nn,nn,nn,nn,nn,nn,nn,nn,nn,nn,nn,nn,nn,nn,nn,nn,nn,nn]
abbrev Xbp : Array Bool := #[yy,yy,yy,yy,yy,yy,nn,nn,nn,nn,nn,nn,nn,nn,nn,nn,nn,nn,nn,nn,nn,nn,nn,nn,nn,nn,nn,nn,nn,nn,nn,nn,nn,nn,nn,nn,nn,nn,nn,nn,nn,nn,nn,nn,nn,nn,nn,nn,nn,nn,nn,nn]
abbrev Xbq : Array Bool := #[yy,yy,yy,yy,yy,yy,yy,nn,nn,nn,nn,nn,nn,nn,nn,nn,nn,nn,nn,nn,nn,nn,nn,nn,nn,nn,nn,nn,nn,nn,nn,nn,nn,nn,nn,nn,nn,nn,nn,nn,nn,nn,nn,nn,nn,nn,nn,nn,nn,nn,nn,nn]
abbrev Xbr : Array Bool := #[yy,yy,yy,yy,yy,yy,yy,yy,nn,nn,nn,nn,nn,nn,nn,nn,nn,nn,nn,nn,nn,nn,nn,nn,nn,nn,nn,nn,nn,nn,nn,nn,nn,nn,nn,nn,nn,nn,nn,nn,nn,nn,nn,nn,nn,nn,nn,nn,nn,nn,nn,nn]
abbrev Xbs : Array Bool := #[yy,yy,yy,yy,yy,yy,yy,yy,yy,nn,nn,nn,nn,nn,nn,nn,nn,nn,nn,nn,nn,nn,nn,nn,nn,nn,nn,nn,nn,nn,nn,nn,nn,nn,nn,nn,nn,nn,nn,nn,nn,nn,nn,nn,nn,nn,nn,nn,nn,nn,nn,nn]
abbrev Xbt : Array Bool := #[yy,yy,yy,yy,yy,yy,yy,yy,yy,yy,nn,nn,nn,nn,nn,nn,nn,nn,nn,nn,nn,nn,nn,nn,nn,nn,nn,nn,nn,nn,nn,nn,nn,nn,nn,nn,nn,nn,nn,nn,nn,nn,nn,nn,nn,nn,nn,nn,nn,nn,nn,nn]
abbrev Xbu : Array Bool := #[yy,yy,yy,yy,yy,yy,yy,yy,yy,yy,yy,nn,nn,nn,nn,nn,nn,nn,nn,nn,nn,nn,nn,nn,nn,nn,nn,nn,nn,nn,nn,nn,nn,nn,nn,nn,nn,nn,nn,nn,nn,nn,nn,nn,nn,nn,nn,nn,nn,nn,nn,nn]
abbrev Xbv : Array Bool := #[yy,yy,yy,yy,yy,yy,yy,yy,yy,yy,yy,yy,nn,nn,nn,nn,nn,nn,nn,nn,nn,nn,nn,nn,nn,nn,nn,nn,nn,nn,nn,nn,nn,nn,nn,nn,nn,nn,nn,nn,nn,nn,nn,nn,nn,nn,nn,nn,nn,nn,nn,nn]
abbrev Xbw : Array Bool := #[yy,yy,yy,yy,yy,yy,yy,yy,yy,yy,yy,yy,yy,nn,nn,nn,nn,nn,nn,nn,nn,nn,nn,nn,nn,nn,nn,nn,nn,nn,nn,nn,nn,nn,nn,nn,nn,nn,nn,nn,nn,nn,nn,nn,nn,nn,nn,nn,nn,nn,nn,nn]
abbrev Xbx : Array Bool := #[yy,yy,yy,yy,yy,yy,yy,yy,yy,yy,yy,yy,yy,yy,nn,nn,nn,nn,nn,nn,nn,nn,nn,nn,nn,nn,nn,nn,nn,nn,nn,nn,nn,nn,nn,nn,nn,nn,nn,nn,nn,nn,nn,nn,nn,nn,nn,nn,nn,nn,nn,nn]
abbrev Xby : Array Bool := #[yy,yy,yy,yy,yy,yy,yy,yy,yy,yy,yy,yy,yy,yy,yy,nn,nn,nn,nn,nn,nn,nn,nn,nn,nn,nn,nn,nn,nn,nn,nn,nn,nn,nn,nn,nn,nn,nn,nn,nn,nn,nn,nn,nn,nn,nn,nn,nn,nn,nn,nn,nn]
abbrev Xbz : Array Bool := #[yy,yy,yy,yy,yy,yy,yy,yy,yy,yy,yy,yy,yy,yy,yy,yy,nn,nn,nn,nn,nn,nn,nn,nn,nn,nn,nn,nn,nn,nn,nn,nn,nn,nn,nn,nn,nn,nn,nn,nn,nn,nn,nn,nn,nn,nn,nn,nn,nn,nn,nn,nn]
abbrev Xb0 : Array Bool := #[yy,yy,yy,yy,yy,yy,yy,yy,yy,yy,yy,yy,yy,yy,yy,yy,yy,nn,nn,nn,nn,nn,nn,nn,nn,nn,nn,nn,nn,nn,nn,nn,nn,nn,nn,nn,nn,nn,nn,nn,nn,nn,nn,nn,nn,nn,nn,nn,nn,nn,nn,nn]
abbrev Xb1 : Array Bool := #[yy,yy,yy,yy,yy,yy,yy,yy,yy,yy,yy,yy,yy,yy,yy,yy,yy,yy,nn,nn,nn,nn,nn,nn,nn,nn,nn,nn,nn,nn,nn,nn,nn,nn,nn,nn,nn,nn,nn,nn,nn,nn,nn,nn,nn,nn,nn,nn,nn,nn,nn,nn]
abbrev Xb2 : Array Bool := #[yy,yy,yy,yy,yy,yy,yy,yy,yy,yy,yy,yy,yy,yy,yy,yy,yy,yy,yy,nn,nn,nn,nn,nn,nn,nn,nn,nn,nn,nn,nn,nn,nn,nn,nn,nn,nn,nn,nn,nn,nn,nn,nn,nn,nn,nn,nn,nn,nn,nn,nn,nn]
abbrev Xb3 : Array Bool := #[yy,yy,yy,yy,yy,yy,yy,yy,yy,yy,yy,yy,yy,yy,yy,yy,yy,yy,yy,yy,nn,nn,nn,nn,nn,nn,nn,nn,nn,nn,nn,nn,nn,nn,nn,nn,nn,nn,nn,nn,nn,nn,nn,nn,nn,nn,nn,nn,nn,nn,nn,nn]
abbrev Xb4 : Array Bool := #[yy,yy,yy,yy,yy,yy,yy,yy,yy,yy,yy,yy,yy,yy,yy,yy,yy,yy,yy,yy,yy,nn,nn,nn,nn,nn,nn,nn,nn,nn,nn,nn,nn,nn,nn,nn,nn,nn,nn,nn,nn,nn,nn,nn,nn,nn,nn,nn,nn,nn,nn,nn]
abbrev Xb5 : Array Bool := #[yy,yy,yy,yy,yy,yy,yy,yy,yy,yy,yy,yy,yy,yy,yy,yy,yy,yy,yy,yy,yy,yy,nn,nn,nn,nn,nn,nn,nn,nn,nn,nn,nn,nn,nn,nn,nn,nn,nn,nn,nn,nn,nn,nn,nn,nn,nn,nn,nn,nn,nn,nn]
abbrev Xb6 : Array Bool := #[yy,yy,yy,yy,yy,yy,yy,yy,yy,yy,yy,yy,yy,yy,yy,yy,yy,yy,yy,yy,yy,yy,yy,nn,nn,nn,nn,nn,nn,nn,nn,nn,nn,nn,nn,nn,nn,nn,nn,nn,nn,nn,nn,nn,nn,nn,nn,nn,nn,nn,nn,nn]
abbrev Xb7 : Array Bool := #[yy,yy,yy,yy,yy,yy,yy,yy,yy,yy,yy,yy,yy,yy,yy,yy,yy,yy,yy,yy,yy,yy,yy,yy,nn,nn,nn,nn,nn,nn,nn,nn,nn,nn,nn,nn,nn,nn,nn,nn,nn,nn,nn,nn,nn,nn,nn,nn,nn,nn,nn,nn]
abbrev Xb8 : Array Bool := #[yy,yy,yy,yy,yy,yy,yy,yy,yy,yy,yy,yy,yy,yy,yy,yy,yy,yy,yy,yy,yy,yy,yy,yy,yy,nn,nn,nn,nn,nn,nn,nn,nn,nn,nn,nn,nn,nn,nn,nn,nn,nn,nn,nn,nn,nn,nn,nn,nn,nn,nn,nn]
abbrev Xb9 : Array Bool := #[yy,yy,yy,yy,yy,yy,yy,yy,yy,yy,yy,yy,yy,yy,yy,yy,yy,yy,yy,yy,yy,yy,yy,yy,yy,yy,nn,nn,nn,nn,nn,nn,nn,nn,nn,nn,nn,nn,nn,nn,nn,nn,nn,nn,nn,nn,nn,nn,nn,nn,nn,nn]
abbrev XbA : Array Bool := #[yy,yy,yy,yy,yy,yy,yy,yy,yy,yy,yy,yy,yy,yy,yy,yy,yy,yy,yy,yy,yy,yy,yy,yy,yy,yy,yy,nn,nn,nn,nn,nn,nn,nn,nn,nn,nn,nn,nn,nn,nn,nn,nn,nn,nn,nn,nn,nn,nn,nn,nn,nn]
abbrev XbB : Array Bool := #[yy,yy,yy,yy,yy,yy,yy,yy,yy,yy,yy,yy,yy,yy,yy,yy,yy,yy,yy,yy,yy,yy,yy,yy,yy,yy,yy,yy,nn,nn,nn,nn,nn,nn,nn,nn,nn,nn,nn,nn,nn,nn,nn,nn,nn,nn,nn,nn,nn,nn,nn,nn]
abbrev XbC : Array Bool := #[yy,yy,yy,yy,yy,yy,yy,yy,yy,yy,yy,yy,yy,yy,yy,yy,yy,yy,yy,yy,yy,yy,yy,yy,yy,yy,yy,yy,yy,nn,nn,nn,nn,nn,nn,nn,nn,nn,nn,nn,nn,nn,nn,nn,nn,nn,nn,nn,nn,nn,nn,nn]
abbrev XbD : Array Bool := #[yy,yy,yy,yy,yy,yy,yy,yy,yy,yy,yy,yy,yy,yy,yy,yy,yy,yy,yy,yy,yy,yy,yy,yy,yy,yy,yy,yy,yy,yy,nn,nn,nn,nn,nn,nn,nn,nn,nn,nn,nn,nn,nn,nn,nn,nn,nn,nn,nn,nn,nn,nn]
abbrev XbE : Array Bool := #[yy,yy,yy,yy,yy,yy,yy,yy,yy,yy,yy,yy,yy,yy,yy,yy,yy,yy,yy,yy,yy,yy,yy,yy,yy,yy,yy,yy,yy,yy,yy,nn,nn,nn,nn,nn,nn,nn,nn,nn,nn,nn,nn,nn,nn,nn,nn,nn,nn,nn,nn,nn]
abbrev XbF : Array Bool := #[yy,yy,yy,yy,yy,yy,yy,yy,yy,yy,yy,yy,yy,yy,yy,yy,yy,yy,yy,yy,yy,yy,yy,yy,yy,yy,yy,yy,yy,yy,yy,yy,nn,nn,nn,nn,nn,nn,nn,nn,nn,nn,nn,nn,nn,nn,nn,nn,nn,nn,nn,nn]
abbrev XbG : Array Bool := #[yy,yy,yy,yy,yy,yy,yy,yy,yy,yy,yy,yy,yy,yy,yy,yy,yy,yy,yy,yy,yy,yy,yy,yy,yy,yy,yy,yy,yy,yy,yy,yy,yy,nn,nn,nn,nn,nn,nn,nn,nn,nn,nn,nn,nn,nn,nn,nn,nn,nn,nn,nn]
abbrev XbH : Array Bool := #[yy,yy,yy,yy,yy,yy,yy,yy,yy,yy,yy,yy,yy,yy,yy,yy,yy,yy,yy,yy,yy,yy,yy,yy,yy,yy,yy,yy,yy,yy,yy,yy,yy,yy,nn,nn,nn,nn,nn,nn,nn,nn,nn,nn,nn,nn,nn,nn,nn,nn,nn,nn]
abbrev XbI : Array Bool := #[yy,yy,yy,yy,yy,yy,yy,yy,yy,yy,yy,yy,yy,yy,yy,yy,yy,yy,yy,yy,yy,yy,yy,yy,yy,yy,yy,yy,yy,yy,yy,yy,yy,yy,yy,nn,nn,nn,nn,nn,nn,nn,nn,nn,nn,nn,nn,nn,nn,nn,nn,nn]
abbrev XbJ : Array Bool := #[yy,yy,yy,yy,yy,yy,yy,yy,yy,yy,yy,yy,yy,yy,yy,yy,yy,yy,yy,yy,yy,yy,yy,yy,yy,yy,yy,yy,yy,yy,yy,yy,yy,yy,yy,yy,nn,nn,nn,nn,nn,nn,nn,nn,nn,nn,nn,nn,nn,nn,nn,nn]
abbrev XbK : Array Bool := #[yy,yy,yy,yy,yy,yy,yy,yy,yy,yy,yy,yy,yy,yy,yy,yy,yy,yy,yy,yy,yy,yy,yy,yy,yy,yy,yy,yy,yy,yy,yy,yy,yy,yy,yy,yy,yy,nn,nn,nn,nn,nn,nn,nn,nn,nn,nn,nn,nn,nn,nn,nn]
abbrev XbL : Array Bool := #[yy,yy,yy,yy,yy,yy,yy,yy,yy,yy,yy,yy,yy,yy,yy,yy,yy,yy,yy,yy,yy,yy,yy,yy,yy,yy,yy,yy,yy,yy,yy,yy,yy,yy,yy,yy,yy,yy,nn,nn,nn,nn,nn,nn,nn,nn,nn,nn,nn,nn,nn,nn]
abbrev XbM : Array Bool := #[yy,yy,yy,yy,yy,yy,yy,yy,yy,yy,yy,yy,yy,yy,yy,yy,yy,yy,yy,yy,yy,yy,yy,yy,yy,yy,yy,yy,yy,yy,yy,yy,yy,yy,yy,yy,yy,yy,yy,nn,nn,nn,nn,nn,nn,nn,nn,nn,nn,nn,nn,nn]
abbrev XbN : Array Bool := #[yy,yy,yy,yy,yy,yy,yy,yy,yy,yy,yy,yy,yy,yy,yy,yy,yy,yy,yy,yy,yy,yy,yy,yy,yy,yy,yy,yy,yy,yy,yy,yy,yy,yy,yy,yy,yy,yy,yy,yy,nn,nn,nn,nn,nn,nn,nn,nn,nn,nn,nn,nn]
abbrev XbO : Array Bool := #[yy,yy,yy,yy,yy,yy,yy,yy,yy,yy,yy,yy,yy,yy,yy,yy,yy,yy,yy,yy,yy,yy,yy,yy,yy,yy,yy,yy,yy,yy,yy,yy,yy,yy,yy,yy,yy,yy,yy,yy,yy,nn,nn,nn,nn,nn,nn,nn,nn,nn,nn,nn]
abbrev XbP : Array Bool := #[yy,yy,yy,yy,yy,yy,yy,yy,yy,yy,yy,yy,yy,yy,yy,yy,yy,yy,yy,yy,yy,yy,yy,yy,yy,yy,yy,yy,yy,yy,yy,yy,yy,yy,yy,yy,yy,yy,yy,yy,yy,yy,nn,nn,nn,nn,nn,nn,nn,nn,nn,nn]
abbrev XbQ : Array Bool := #[yy,yy,yy,yy,yy,yy,yy,yy,yy,yy,yy,yy,yy,yy,yy,yy,yy,yy,yy,yy,yy,yy,yy,yy,yy,yy,yy,yy,yy,yy,yy,yy,yy,yy,yy,yy,yy,yy,yy,yy,yy,yy,yy,nn,nn,nn,nn,nn,nn,nn,nn,nn]
abbrev XbR : Array Bool := #[yy,yy,yy,yy,yy,yy,yy,yy,yy,yy,yy,yy,yy,yy,yy,yy,yy,yy,yy,yy,yy,yy,yy,yy,yy,yy,yy,yy,yy,yy,yy,yy,yy,yy,yy,yy,yy,yy,yy,yy,yy,yy,yy,yy,nn,nn,nn,nn,nn,nn,nn,nn]
abbrev XbS : Array Bool := #[yy,yy,yy,yy,yy,yy,yy,yy,yy,yy,yy,yy,yy,yy,yy,yy,yy,yy,yy,yy,yy,yy,yy,yy,yy,yy,yy,yy,yy,yy,yy,yy,yy,yy,yy,yy,yy,yy,yy,yy,yy,yy,yy,yy,yy,nn,nn,nn,nn,nn,nn,nn]
abbrev XbT : Array Bool := #[yy,yy,yy,yy,yy,yy,yy,yy,yy,yy,yy,yy,yy,yy,yy,yy,yy,yy,yy,yy,yy,yy,yy,yy,yy,yy,yy,yy,yy,yy,yy,yy,yy,yy,yy,yy,yy,yy,yy,yy,yy,yy,yy,yy,yy,yy,nn,nn,nn,nn,nn,nn]
abbrev XbU : Array Bool := #[yy,yy,yy,yy,yy,yy,yy,yy,yy,yy,yy,yy,yy,yy,yy,yy,yy,yy,yy,yy,yy,yy,yy,yy,yy,yy,yy,yy,yy,yy,yy,yy,yy,yy,yy,yy,yy,yy,yy,yy,yy,yy,yy,yy,yy,yy,yy,nn,nn,nn,nn,nn]
abbrev XbV : Array Bool := #[yy,yy,yy,yy,yy,yy,yy,yy,yy,yy,yy,yy,yy,yy,yy,yy,yy,yy,yy,yy,yy,yy,yy,yy,yy,yy,yy,yy,yy,yy,yy,yy,yy,yy,yy,yy,yy,yy,yy,yy,yy,yy,yy,yy,yy,yy,yy,yy,nn,nn,nn,nn]
abbrev XbW : Array Bool := #[yy,yy,yy,yy,yy,yy,yy,yy,yy,yy,yy,yy,yy,yy,yy,yy,yy,yy,yy,yy,yy,yy,yy,yy,yy,yy,yy,yy,yy,yy,yy,yy,yy,yy,yy,yy,yy,yy,yy,yy,yy,yy,yy,yy,yy,yy,yy,yy,yy,nn,nn,nn]
abbrev XbX : Array Bool := #[yy,yy,yy,yy,yy,yy,yy,yy,yy,yy,yy,yy,yy,yy,yy,yy,yy,yy,yy,yy,yy,yy,yy,yy,yy,yy,yy,yy,yy,yy,yy,yy,yy,yy,yy,yy,yy,yy,yy,yy,yy,yy,yy,yy,yy,yy,yy,yy,yy,yy,nn,nn]
abbrev XbY : Array Bool := #[yy,yy,yy,yy,yy,yy,yy,yy,yy,yy,yy,yy,yy,yy,yy,yy,yy,yy,yy,yy,yy,yy,yy,yy,yy,yy,yy,yy,yy,yy,yy,yy,yy,yy,yy,yy,yy,yy,yy,yy,yy,yy,yy,yy,yy,yy,yy,yy,yy,yy,yy,nn]
abbrev XbZ : Array Bool := #[yy,yy,yy,yy,yy,yy,yy,yy,yy,yy,yy,yy,yy,yy,yy,yy,yy,yy,yy,yy,yy,yy,yy,yy,yy,yy,yy,yy,yy,yy,yy,yy,yy,yy,yy,yy,yy,yy,yy,yy,yy,yy,yy,yy,yy,yy,yy,yy,yy,yy,yy,yy]
abbrev Xgg : Array Bool := #[nn,nn,nn,nn,nn,nn,nn,nn,nn,nn,nn,nn,nn,nn,nn,nn,nn,nn,nn,nn,nn,nn,nn,nn,nn,nn,nn,nn,nn,nn,nn,nn,nn,nn,nn,nn,nn,nn,nn,nn,nn,nn,nn,nn,nn,nn,nn,nn,nn,nn,nn]
abbrev Xgh : Array Bool := #[yy,nn,nn,nn,nn,nn,nn,nn,nn,nn,nn,nn,nn,nn,nn,nn,nn,nn,nn,nn,nn,nn,nn,nn,nn,nn,nn,nn,nn,nn,nn,nn,nn,nn,nn,nn,nn,nn,nn,nn,nn,nn,nn,nn,nn,nn,nn,nn,nn,nn,nn]
abbrev Xgi : Array Bool := #[yy,yy,nn,nn,nn,nn,nn,nn,nn,nn,nn,nn,nn,nn,nn,nn,nn,nn,nn,nn,nn,nn,nn,nn,nn,nn,nn,nn,nn,nn,nn,nn,nn,nn,nn,nn,nn,nn,nn,nn,nn,nn,nn,nn,nn,nn,nn,nn,nn,nn,nn]
abbrev Xgj : Array Bool := #[yy,yy,yy,nn,nn,nn,nn,nn,nn,nn,nn,nn,nn,nn,nn,nn,nn,nn,nn,nn,nn,nn,nn,nn,nn,nn,nn,nn,nn,nn,nn,nn,nn,nn,nn,nn,nn,nn,nn,nn,nn,nn,nn,nn,nn,nn,nn,nn,nn,nn,nn]
abbrev Xgk : Array Bool := #[yy,yy,yy,yy,nn,nn,nn,nn,nn,nn,nn,nn,nn,nn,nn,nn,nn,nn,nn,nn,nn,nn,nn,nn,nn,nn,nn,nn,nn,nn,nn,nn,nn,nn,nn,nn,nn,nn,nn,nn,nn,nn,nn,nn,nn,nn,nn,nn,nn,nn,nn]
abbrev Xgl : Array Bool := #[yy,yy,yy,yy,yy,nn,nn,nn,nn,nn,nn,nn,nn,nn,nn,nn,nn,nn,nn,nn,nn,nn,nn,nn,nn,nn,nn,nn,nn,nn,nn,nn,nn,nn,nn,nn,nn,nn,nn,nn,nn,nn,nn,nn,nn,nn,nn,nn,nn,nn,nn]
abbrev Xgm : Array Bool := #[yy,yy,yy,yy,yy,yy,nn,nn,nn,nn,nn,nn,nn,nn,nn,nn,nn,nn,nn,nn,nn,nn,nn,nn,nn,nn,nn,nn,nn,nn,nn,nn,nn,nn,nn,nn,nn,nn,nn,nn,nn,nn,nn,nn,nn,nn,nn,nn,nn,nn,nn]
abbrev Xgn : Array Bool := #[yy,yy,yy,yy,yy,yy,yy,nn,nn,nn,nn,nn,nn,nn,nn,nn,nn,nn,nn,nn,nn,nn,nn,nn,nn,nn,nn,nn,nn,nn,nn,nn,nn,nn,nn,nn,nn,nn,nn,nn,nn,nn,nn,nn,nn,nn,nn,nn,nn,nn,nn]
abbrev Xgo : Array Bool := #[yy,yy,yy,yy,yy,yy,yy,yy,nn,nn,nn,nn,nn,nn,nn,nn,nn,nn,nn,nn,nn,nn,nn,nn,nn,nn,nn,nn,nn,nn,nn,nn,nn,nn,nn,nn,nn,nn,nn,nn,nn,nn,nn,nn,nn,nn,nn,nn,nn,nn,nn]
abbrev Xgp : Array Bool := #[yy,yy,yy,yy,yy,yy,yy,yy,yy,nn,nn,nn,nn,nn,nn,nn,nn,nn,nn,nn,nn,nn,nn,nn,nn,nn,nn,nn,nn,nn,nn,nn,nn,nn,nn,nn,nn,nn,nn,nn,nn,nn,nn,nn,nn,nn,nn,nn,nn,nn,nn]
abbrev Xgq : Array Bool := #[yy,yy,yy,yy,yy,yy,yy,yy,yy,yy,nn,nn,nn,nn,nn,nn,nn,nn,nn,nn,nn,nn,nn,nn,nn,nn,nn,nn,nn,nn,nn,nn,nn,nn,nn,nn,nn,nn,nn,nn,nn,nn,nn,nn,nn,nn,nn,nn,nn,nn,nn]
abbrev Xgr : Array Bool := #[yy,yy,yy,yy,yy,yy,yy,yy,yy,yy,yy,nn,nn,nn,nn,nn,nn,nn,nn,nn,nn,nn,nn,nn,nn,nn,nn,nn,nn,nn,nn,nn,nn,nn,nn,nn,nn,nn,nn,nn,nn,nn,nn,nn,nn,nn,nn,nn,nn,nn,nn]
abbrev Xgs : Array Bool := #[yy,yy,yy,yy,yy,yy,yy,yy,yy,yy,yy,yy,nn,nn,nn,nn,nn,nn,nn,nn,nn,nn,nn,nn,nn,nn,nn,nn,nn,nn,nn,nn,nn,nn,nn,nn,nn,nn,nn,nn,nn,nn,nn,nn,nn,nn,nn,nn,nn,nn,nn]
abbrev Xgt : Array Bool := #[yy,yy,yy,yy,yy,yy,yy,yy,yy,yy,yy,yy,yy,nn,nn,nn,nn,nn,nn,nn,nn,nn,nn,nn,nn,nn,nn,nn,nn,nn,nn,nn,nn,nn,nn,nn,nn,nn,nn,nn,nn,nn,nn,nn,nn,nn,nn,nn,nn,nn,nn]
abbrev Xgu : Array Bool := #[yy,yy,yy,yy,yy,yy,yy,yy,yy,yy,yy,yy,yy,yy,nn,nn,nn,nn,nn,nn,nn,nn,nn,nn,nn,nn,nn,nn,nn,nn,nn,nn,nn,nn,nn,nn,nn,nn,nn,nn,nn,nn,nn,nn,nn,nn,nn,nn,nn,nn,nn]
abbrev Xgv : Array Bool := #[yy,yy,yy,yy,yy,yy,yy,yy,yy,yy,yy,yy,yy,yy,yy,nn,nn,nn,nn,nn,nn,nn,nn,nn,nn,nn,nn,nn,nn,nn,nn,nn,nn,nn,nn,nn,nn,nn,nn,nn,nn,nn,nn,nn,nn,nn,nn,nn,nn,nn,nn]
abbrev Xgw : Array Bool := #[yy,yy,yy,yy,yy,yy,yy,yy,yy,yy,yy,yy,yy,yy,yy,yy,nn,nn,nn,nn,nn,nn,nn,nn,nn,nn,nn,nn,nn,nn,nn,nn,nn,nn,nn,nn,nn,nn,nn,nn,nn,nn,nn,nn,nn,nn,nn,nn,nn,nn,nn]
abbrev Xgx : Array Bool := #[yy,yy,yy,yy,yy,yy,yy,yy,yy,yy,yy,yy,yy,yy,yy,yy,yy,nn,nn,nn,nn,nn,nn,nn,nn,nn,nn,nn,nn,nn,nn,nn,nn,nn,nn,nn,nn,nn,nn,nn,nn,nn,nn,nn,nn,nn,nn,nn,nn,nn,nn]
abbrev Xgy : Array Bool := #[yy,yy,yy,yy,yy,yy,yy,yy,yy,yy,yy,yy,yy,yy,yy,yy,yy,yy,nn,nn,nn,nn,nn,nn,nn,nn,nn,nn,nn,nn,nn,nn,nn,nn,nn,nn,nn,nn,nn,nn,nn,nn,nn,nn,nn,nn,nn,nn,nn,nn,nn]
abbrev Xgz : Array Bool := #[yy,yy,yy,yy,yy,yy,yy,yy,yy,yy,yy,yy,yy,yy,yy,yy,yy,yy,yy,nn,nn,nn,nn,nn,nn,nn,nn,nn,nn,nn,nn,nn,nn,nn,nn,nn,nn,nn,nn,nn,nn,nn,nn,nn,nn,nn,nn,nn,nn,nn,nn]
abbrev Xg0 : Array Bool := #[yy,yy,yy,yy,yy,yy,yy,yy,yy,yy,yy,yy,yy,yy,yy,yy,yy,yy,yy,yy,nn,nn,nn,nn,nn,nn,nn,nn,nn,nn,nn,nn,nn,nn,nn,nn,nn,nn,nn,nn,nn,nn,nn,nn,nn,nn,nn,nn,nn,nn,nn]
abbrev Xg1 : Array Bool := #[yy,yy,yy,yy,yy,yy,yy,yy,yy,yy,yy,yy,yy,yy,yy,yy,yy,yy,yy,yy,yy,nn,nn,nn,nn,nn,nn,nn,nn,nn,nn,nn,nn,nn,nn,nn,nn,nn,nn,nn,nn,nn,nn,nn,nn,nn,nn,nn,nn,nn,nn]
abbrev Xg2 : Array Bool := #[yy,yy,yy,yy,yy,yy,yy,yy,yy,yy,yy,yy,yy,yy,yy,yy,yy,yy,yy,yy,yy,yy,nn,nn,nn,nn,nn,nn,nn,nn,nn,nn,nn,nn,nn,nn,nn,nn,nn,nn,nn,nn,nn,nn,nn,nn,nn,nn,nn,nn,nn]
abbrev Xg3 : Array Bool := #[yy,yy,yy,yy,yy,yy,yy,yy,yy,yy,yy,yy,yy,yy,yy,yy,yy,yy,yy,yy,yy,yy,yy,nn,nn,nn,nn,nn,nn,nn,nn,nn,nn,nn,nn,nn,nn,nn,nn,nn,nn,nn,nn,nn,nn,nn,nn,nn,nn,nn,nn]
abbrev Xg4 : Array Bool := #[yy,yy,yy,yy,yy,yy,yy,yy,yy,yy,yy,yy,yy,yy,yy,yy,yy,yy,yy,yy,yy,yy,yy,yy,nn,nn,nn,nn,nn,nn,nn,nn,nn,nn,nn,nn,nn,nn,nn,nn,nn,nn,nn,nn,nn,nn,nn,nn,nn,nn,nn]
abbrev Xg5 : Array Bool := #[yy,yy,yy,yy,yy,yy,yy,yy,yy,yy,yy,yy,yy,yy,yy,yy,yy,yy,yy,yy,yy,yy,yy,yy,yy,nn,nn,nn,nn,nn,nn,nn,nn,nn,nn,nn,nn,nn,nn,nn,nn,nn,nn,nn,nn,nn,nn,nn,nn,nn,nn]
abbrev Xg6 : Array Bool := #[yy,yy,yy,yy,yy,yy,yy,yy,yy,yy,yy,yy,yy,yy,yy,yy,yy,yy,yy,yy,yy,yy,yy,yy,yy,yy,nn,nn,nn,nn,nn,nn,nn,nn,nn,nn,nn,nn,nn,nn,nn,nn,nn,nn,nn,nn,nn,nn,nn,nn,nn]
abbrev Xg7 : Array Bool := #[yy,yy,yy,yy,yy,yy,yy,yy,yy,yy,yy,yy,yy,yy,yy,yy,yy,yy,yy,yy,yy,yy,yy,yy,yy,yy,yy,nn,nn,nn,nn,nn,nn,nn,nn,nn,nn,nn,nn,nn,nn,nn,nn,nn,nn,nn,nn,nn,nn,nn,nn]
abbrev Xg8 : Array Bool := #[yy,yy,yy,yy,yy,yy,yy,yy,yy,yy,yy,yy,yy,yy,yy,yy,yy,yy,yy,yy,yy,yy,yy,yy,yy,yy,yy,yy,nn,nn,nn,nn,nn,nn,nn,nn,nn,nn,nn,nn,nn,nn,nn,nn,nn,nn,nn,nn,nn,nn,nn]
abbrev Xg9 : Array Bool := #[yy,yy,yy,yy,yy,yy,yy,yy,yy,yy,yy,yy,yy,yy,yy,yy,yy,yy,yy,yy,yy,yy,yy,yy,yy,yy,yy,yy,yy,nn,nn,nn,nn,nn,nn,nn,nn,nn,nn,nn,nn,nn,nn,nn,nn,nn,nn,nn,nn,nn,nn]
abbrev XgA : Array Bool := #[yy,yy,yy,yy,yy,yy,yy,yy,yy,yy,yy,yy,yy,yy,yy,yy,yy,yy,yy,yy,yy,yy,yy,yy,yy,yy,yy,yy,yy,yy,nn,nn,nn,nn,nn,nn,nn,nn,nn,nn,nn,nn,nn,nn,nn,nn,nn,nn,nn,nn,nn]
abbrev XgB : Array Bool := #[yy,yy,yy,yy,yy,yy,yy,yy,yy,yy,yy,yy,yy,yy,yy,yy,yy,yy,yy,yy,yy,yy,yy,yy,yy,yy,yy,yy,yy,yy,yy,nn,nn,nn,nn,nn,nn,nn,nn,nn,nn,nn,nn,nn,nn,nn,nn,nn,nn,nn,nn]
abbrev XgC : Array Bool := #[yy,yy,yy,yy,yy,yy,yy,yy,yy,yy,yy,yy,yy,yy,yy,yy,yy,yy,yy,yy,yy,yy,yy,yy,yy,yy,yy,yy,yy,yy,yy,yy,nn,nn,nn,nn,nn,nn,nn,nn,nn,nn,nn,nn,nn,nn,nn,nn,nn,nn,nn]
abbrev XgD : Array Bool := #[yy,yy,yy,yy,yy,yy,yy,yy,yy,yy,yy,yy,yy,yy,yy,yy,yy,yy,yy,yy,yy,yy,yy,yy,yy,yy,yy,yy,yy,yy,yy,yy,yy,nn,nn,nn,nn,nn,nn,nn,nn,nn,nn,nn,nn,nn,nn,nn,nn,nn,nn]
abbrev XgE : Array Bool := #[yy,yy,yy,yy,yy,yy,yy,yy,yy,yy,yy,yy,yy,yy,yy,yy,yy,yy,yy,yy,yy,yy,yy,yy,yy,yy,yy,yy,yy,yy,yy,yy,yy,yy,nn,nn,nn,nn,nn,nn,nn,nn,nn,nn,nn,nn,nn,nn,nn,nn,nn]
abbrev XgF : Array Bool := #[yy,yy,yy,yy,yy,yy,yy,yy,yy,yy,yy,yy,yy,yy,yy,yy,yy,yy,yy,yy,yy,yy,yy,yy,yy,yy,yy,yy,yy,yy,yy,yy,yy,yy,yy,nn,nn,nn,nn,nn,nn,nn,nn,nn,nn,nn,nn,nn,nn,nn,nn]
abbrev XgG : Array Bool := #[yy,yy,yy,yy,yy,yy,yy,yy,yy,yy,yy,yy,yy,yy,yy,yy,yy,yy,yy,yy,yy,yy,yy,yy,yy,yy,yy,yy,yy,yy,yy,yy,yy,yy,yy,yy,nn,nn,nn,nn,nn,nn,nn,nn,nn,nn,nn,nn,nn,nn,nn]
abbrev XgH : Array Bool := #[yy,yy,yy,yy,yy,yy,yy,yy,yy,yy,yy,yy,yy,yy,yy,yy,yy,yy,yy,yy,yy,yy,yy,yy,yy,yy,yy,yy,yy,yy,yy,yy,yy,yy,yy,yy,yy,nn,nn,nn,nn,nn,nn,nn,nn,nn,nn,nn,nn,nn,nn]
abbrev Qr : Array Bool := #[yy,yy,yy,yy,yy,yy,yy,yy,yy,yy,yy,yy,yy,yy,yy,yy,yy,yy,yy,yy,yy,yy,yy,yy,yy,yy,yy,yy,yy,yy,yy,yy,yy,yy,yy,yy,yy,yy,nn,nn,nn,nn,nn,nn,nn,nn,nn,nn,nn,nn,nn]
abbrev Qs : Array Bool := #[yy,yy,yy,yy,yy,yy,yy,yy,yy,yy,yy,yy,yy,yy,yy,yy,yy,yy,yy,yy,yy,yy,yy,yy,yy,yy,yy,yy,yy,yy,yy,yy,yy,yy,yy,yy,yy,yy,yy,nn,nn,nn,nn,nn,nn,nn,nn,nn,nn,nn,nn]
abbrev Qt : Array Bool := #[yy,yy,yy,yy,yy,yy,yy,yy,yy,yy,yy,yy,yy,yy,yy,yy,yy,yy,yy,yy,yy,yy,yy,yy,yy,yy,yy,yy,yy,yy,yy,yy,yy,yy,yy,yy,yy,yy,yy,yy,nn,nn,nn,nn,nn,nn,nn,nn,nn,nn,nn]
abbrev Qu : Array Bool := #[yy,yy,yy,yy,yy,yy,yy,yy,yy,yy,yy,yy,yy,yy,yy,yy,yy,yy,yy,yy,yy,yy,yy,yy,yy,yy,yy,yy,yy,yy,yy,yy,yy,yy,yy,yy,yy,yy,yy,yy,yy,nn,nn,nn,nn,nn,nn,nn,nn,nn,nn]
abbrev Qv : Array Bool := #[yy,yy,yy,yy,yy,yy,yy,yy,yy,yy,yy,yy,yy,yy,yy,yy,yy,yy,yy,yy,yy,yy,yy,yy,yy,yy,yy,yy,yy,yy,yy,yy,yy,yy,yy,yy,yy,yy,yy,yy,yy,yy,nn,nn,nn,nn,nn,nn,nn,nn,nn]
abbrev Qw : Array Bool := #[yy,yy,yy,yy,yy,yy,yy,yy,yy,yy,yy,yy,yy,yy,yy,yy,yy,yy,yy,yy,yy,yy,yy,yy,yy,yy,yy,yy,yy,yy,yy,yy,yy,yy,yy,yy,yy,yy,yy,yy,yy,yy,yy,nn,nn,nn,nn,nn,nn,nn,nn]
abbrev Qx : Array Bool := #[yy,yy,yy,yy,yy,yy,yy,yy,yy,yy,yy,yy,yy,yy,yy,yy,yy,yy,yy,yy,yy,yy,yy,yy,yy,yy,yy,yy,yy,yy,yy,yy,yy,yy,yy,yy,yy,yy,yy,yy,yy,yy,yy,yy,nn,nn,nn,nn,nn,nn,nn]
abbrev Qy : Array Bool := #[yy,yy,yy,yy,yy,yy,yy,yy,yy,yy,yy,yy,yy,yy,yy,yy,yy,yy,yy,yy,yy,yy,yy,yy,yy,yy,yy,yy,yy,yy,yy,yy,yy,yy,yy,yy,yy,yy,yy,yy,yy,yy,yy,yy,yy,nn,nn,nn,nn,nn,nn]
abbrev Qz : Array Bool := #[yy,yy,yy,yy,yy,yy,yy,yy,yy,yy,yy,yy,yy,yy,yy,yy,yy,yy,yy,yy,yy,yy,yy,yy,yy,yy,yy,yy,yy,yy,yy,yy,yy,yy,yy,yy,yy,yy,yy,yy,yy,yy,yy,yy,yy,yy,nn,nn,nn,nn,nn]
abbrev Q4 : Array Bool := #[yy,yy,yy,yy,yy,yy,yy,yy,yy,yy,yy,yy,yy,yy,yy,yy,yy,yy,yy,yy,yy,yy,yy,yy,yy,yy,yy,yy,yy,yy,yy,yy,yy,yy,yy,yy,yy,yy,yy,yy,yy,yy,yy,yy,yy,yy,yy,nn,nn,nn,nn]
abbrev Q5 : Array Bool := #[yy,yy,yy,yy,yy,yy,yy,yy,yy,yy,yy,yy,yy,yy,yy,yy,yy,yy,yy,yy,yy,yy,yy,yy,yy,yy,yy,yy,yy,yy,yy,yy,yy,yy,yy,yy,yy,yy,yy,yy,yy,yy,yy,yy,yy,yy,yy,yy,nn,nn,nn]
abbrev Q6 : Array Bool := #[yy,yy,yy,yy,yy,yy,yy,yy,yy,yy,yy,yy,yy,yy,yy,yy,yy,yy,yy,yy,yy,yy,yy,yy,yy,yy,yy,yy,yy,yy,yy,yy,yy,yy,yy,yy,yy,yy,yy,yy,yy,yy,yy,yy,yy,yy,yy,yy,yy,nn,nn]
abbrev Q7 : Array Bool := #[yy,yy,yy,yy,yy,yy,yy,yy,yy,yy,yy,yy,yy,yy,yy,yy,yy,yy,yy,yy,yy,yy,yy,yy,yy,yy,yy,yy,yy,yy,yy,yy,yy,yy,yy,yy,yy,yy,yy,yy,yy,yy,yy,yy,yy,yy,yy,yy,yy,yy,nn]
abbrev Q8 : Array Bool := #[yy,yy,yy,yy,yy,yy,yy,yy,yy,yy,yy,yy,yy,yy,yy,yy,yy,yy,yy,yy,yy,yy,yy,yy,yy,yy,yy,yy,yy,yy,yy,yy,yy,yy,yy,yy,yy,yy,yy,yy,yy,yy,yy,yy,yy,yy,yy,yy,yy,yy,yy]
def Xj.T4 : Bool × List (List Nat × List Nat) := (true, [([], []), ([0], [0]), ([1], [1]), ([], []), ([3], [3]), ([4], [4]), ([2, 5], [2, 5]), ([6], [6])])
def Xj.B4 : List Nat := [0, 1, 3, 0, 8, 24, 63, 127]
theorem Xj.EG : Ve .any (opsOf Tryz.f26 4) = Xj.T4 := by kernel_rfl
theorem Xj.Wv : Ja Xj.T4.2 Xj.B4 = true := by kernel_rfl
def Xj.T9 : Bool × List (List Nat × List Nat) := (true, [([], []), ([0], [0]), ([], []), ([2], [2]), ([], []), ([3, 4], [3, 4]), ([1, 5], [1, 5]), ([6, 6, 0, 1, 2, 3, 4, 5, 6], [6])])
def Xj.B9 : List Nat := [0, 1, 0, 4, 0, 28, 63, 127]
theorem Xj.tab9 : Ve .any (opsOf Tryz.f26 9) = Xj.T9 := by kernel_rfl
theorem Xj.X1g : Ja Xj.T9.2 Xj.B9 = true := by kernel_rfl
def Xj.T15 : Bool × List (List Nat × List Nat) := (true, [([], []), ([0], [0]), ([], []), ([1, 2], [1, 2]), ([3], [3]), ([4], [4]), ([], []), ([6], [6]), ([5, 7], [5, 7]), ([8], [8]), ([9], [9]), ([10, 9], [9, 10]), ([11, 9, 9], [9, 11]), ([12], [12]), ([13, 12], [12, 13]), ([12], [12]), ([14, 15, 12], [12, 14, 15]), ([16, 12], [12, 16]), ([12], [12]), ([18, 12], [12, 18]), ([12], [12]), ([19, 20, 12], [12, 19, 20]), ([21, 12], [12, 21]), ([17, 22, 12, 12], [12, 17, 22]), ([23, 12], [12, 23]), ([12, 24, 9], [9, 12, 24]), ([9, 25], [9, 25]), ([26, 23], [26]), ([27], [27]), ([28, 27], [27, 28]), ([29, 27], [27, 29]), ([30, 27, 27], [27, 30]), ([31], [31]), ([32, 31], [31, 32]), ([31], [31]), ([33, 34, 31, 31], [31, 33, 34]), ([35, 31], [31, 35]), ([31, 36, 27], [27, 31, 36]), ([37, 35, 27], [27, 37]), ([38], [38]), ([39, 38], [38, 39]), ([38], [38]), ([40, 41, 38], [38, 40, 41]), ([42, 38], [38, 42]), ([38], [38]), ([38], [38]), ([44, 45, 38], [38, 44, 45]), ([46, 38], [38, 46]), ([43, 47, 38, 38], [38, 43, 47]), ([48, 38], [38, 48]), ([38, 49, 27], [27, 38, 49]), ([27, 50], [27, 50])])
def Xj.B15 : List Nat := [0, 1, 0, 7, 15, 31, 0, 64, 255, 511, 1023, 2047, 4095, 8191, 16383, 8191, 65535, 131071, 8191, 270335, 8191, 1843199, 3940351, 8388607, 16777215, 33554431, 67108863, 134217727, 268435455, 536870911, 1073741823, 2147483647, 4294967295, 8589934591, 4294967295, 34359738367, 68719476735, 137438953471, 274877906943, 549755813887, 1099511627775, 549755813887, 4398046511103, 8796093022207, 549755813887, 549755813887, 53326313947135, 123695058124799, 281474976710655, 562949953421311, 1125899906842623, 2251799813685247]
theorem Xj.Xca : Ve .any (opsOf Tryz.f26 15) = Xj.T15 := by kernel_rfl
theorem Xj.CJ : Ja Xj.T15.2 Xj.B15 = true := by kernel_rfl
def Xj.T17 : Bool × List (List Nat × List Nat) := (true, [([], []), ([0], [0]), ([1], [1]), ([2], [2]), ([3], [3]), ([4, 3], [3, 4]), ([3], [3]), ([5, 6, 3, 3], [3, 5, 6]), ([7, 3], [3, 7]), ([8, 7, 3], [3, 8]), ([9], [9]), ([10, 9], [9, 10]), ([9], [9]), ([11, 12, 9], [9, 11, 12]), ([13, 9], [9, 13]), ([14, 9], [9, 14]), ([9], [9]), ([16, 9], [9, 16]), ([9], [9]), ([17, 18, 9], [9, 17, 18]), ([19, 9], [9, 19]), ([20, 9], [9, 20]), ([15, 21, 9], [9, 15, 21]), ([9, 22, 3], [3, 9, 22]), ([23, 9, 3], [3, 23]), ([24], [24]), ([25, 24], [24, 25]), ([24], [24]), ([26, 27, 24, 24], [24, 26, 27]), ([28, 28, 24], [24, 28]), ([29], [29]), ([29], [29]), ([30, 31, 29, 29], [29, 30, 31]), ([32, 29], [29, 32]), ([29, 33, 24], [24, 29, 33]), ([24, 34, 3], [3, 24, 34]), ([35, 32, 3], [3, 35]), ([36], [36]), ([37, 36], [36, 37]), ([36], [36]), ([38, 39, 36], [36, 38, 39]), ([40, 36], [36, 40]), ([41, 36], [36, 41]), ([36], [36]), ([36], [36]), ([43, 44, 36], [36, 43, 44]), ([45, 36], [36, 45]), ([46, 36], [36, 46]), ([42, 47, 36], [36, 42, 47]), ([36, 48, 3], [3, 36, 48]), ([3, 49], [3, 49])])
def Xj.B17 : List Nat := [0, 1, 3, 7, 15, 31, 15, 127, 255, 511, 1023, 2047, 1023, 8191, 16383, 32767, 1023, 66559, 1023, 459775, 984063, 2032639, 4194303, 8388607, 16777215, 33554431, 67108863, 33554431, 268435455, 536870911, 1073741823, 1073741823, 4294967295, 8589934591, 17179869183, 34359738367, 68719476735, 137438953471, 274877906943, 137438953471, 1099511627775, 2199023255551, 4398046511103, 137438953471, 137438953471, 26525718020095, 61710090108927, 132078834286591, 281474976710655, 562949953421311, 1125899906842623]
theorem Xj.XgI : Ve .any (opsOf Tryz.f26 17) = Xj.T17 := by kernel_rfl
theorem Xj.Q9 : Ja Xj.T17.2 Xj.B17 = true := by kernel_rfl
set_option maxHeartbeats 8000000 in
set_option maxRecDepth 100000 in
theorem Xj.to (A0 : Option Addr) (c0 : Nat) (D : List S56) (A1 : Option Addr) (c1 : Nat) (M : List S56) (A2 : Option Addr) (c2 : Nat) (L : List S76) (s : Int) (d : Bool) (w : World) (hD : Kd.C k56 w A0 D.length D) (hc0 : D.length ≤ c0) (hM : Kd.C k56 w A1 M.length M) (hc1 : M.length ≤ c1) (hL : Kd.C k76 w A2 L.length L) (hc2 : L.length ≤ c2) (hgd : ∃ k, Yq.f k D = some (JG D)) (hgm : ∃ k, Yq.f k M = some (JG M)) (hlo : ∃ k, Xy.f k L = some (Za L)) :
 Calls Tryz.prog 26 #[.agg #[.slice A0 D.length c0, .slice A1 M.length c1, .slice A2 L.length c2, .int .i64 s, .bool d]] w fun e w' => e = .returned (.bool (J7 D M L s d)) ∧ Below w.heap.size w w' := by
 have hu31 := Tryz.underlying31; have hu41 := Tryz.underlying76; have hu25 := Tryz.underlying56; have HD := zz hD; have HM := zz hM; have HL := zz hL; have HCD := zz hc0; have HCM := zz hc1; have HCL := zz hc2; obtain ⟨kd, hgd⟩ := hgd; obtain ⟨km, hgm⟩ := hgm; obtain ⟨kl, hlo⟩ := hlo; have GD := zz hgd; have GM := zz hgm; have GL := zz hlo; have hlm : L.length ≤ 9223372036854775807 := hL.2.1; clear hD hM hL hc0 hc1 hc2 hgd hgm hlo
 go_enter Tryz.func26, Tryz.ntmps26
 go_wp2_with fail
 have BE0 : Aside0 (Na (w.alloc (.cells #[.slice A0 D.length c0, .slice A1 M.length c1, .slice A2 L.length c2, .int .i64 s, .bool d] 31)) w.heap.size (.slice A0 D.length c0) (.slice A1 M.length c1) (.slice A2 L.length c2) s d) := ⟨Na.new _ _ _ _ _ _⟩
 have LB0 := zz (X0 (Below.refl w.heap.size w) (.cells #[.slice A0 D.length c0, .slice A1 M.length c1, .slice A2 L.length c2, .int .i64 s, .bool d] 31)); refine (Yq.calls kd A0 c0 D (JG D) _ (Kd.Xr HD.out LB0.out) HCD.out GD.out).mono ?_; rintro e w1 ⟨rfl, hb⟩; have BE1 := zz (BE0.out.below hb); have LB1 := zz (Xc LB0.out hb); clear hb BE0 LB0; obtain ⟨x0, x1, x2, x3, x4⟩ := BE1.out.cells
 cases hg0 : JG D with
 | false =>
  go_wp2
  go_ret
  exact ⟨by rw [VX (by unfold DR; rw [hg0]; rfl)]; first | done | rfl, LB1.out⟩
 | true =>
  go_wp2_with fail
  refine (Yq.calls km A1 c1 M (JG M) _ (Kd.Xr HM.out LB1.out) HCM.out GM.out).mono ?_; rintro e w2 ⟨rfl, hb⟩; have BE2 := zz (BE1.out.below hb); have LB2 := zz (Xc LB1.out hb); clear hb BE1 LB1 x0 x1 x2 x3 x4; obtain ⟨x0, x1, x2, x3, x4⟩ := BE2.out.cells
  cases hg1 : JG M with
  | false =>
   go_wp2
   go_ret
   exact ⟨by rw [VX (by unfold DR; rw [hg0, hg1]; rfl)]; first | done | rfl, LB2.out⟩
  | true =>
   go_wp2_with fail
   refine (Xy.calls kl A2 c2 L (Za L) _ (Kd.Xr HL.out LB2.out) HCL.out GL.out).mono ?_; rintro e w3 ⟨rfl, hb⟩; have BE3 := zz (BE2.out.below hb); have LB3 := zz (Xc LB2.out hb); clear hb BE2 LB2 x0 x1 x2 x3 x4; obtain ⟨x0, x1, x2, x3, x4⟩ := BE3.out.cells
   cases hg2 : Za L with
   | false =>
    go_wp2
    go_ret
    exact ⟨by rw [VX (by unfold DR; rw [hg0, hg1, hg2]; rfl)]; first | done | rfl, LB3.out⟩
   | true =>
    go_wp2_with fail
    refine (Zc.calls s 0 (L.length : Int) (inB s 0 (L.length : Int)) _ (Gl _ _ _)).mono ?_; rintro e w4 ⟨rfl, nd, hw⟩
    have hb : Below w3.heap.size w3 w4 := by rw [hw]; exact Yh (Below.refl _ _) nd
    have BE4 := zz (BE3.out.below hb); have LB4 := zz (Xc LB3.out hb); clear hb hw nd BE3 LB3 x0 x1 x2 x3 x4; obtain ⟨x0, x1, x2, x3, x4⟩ := BE4.out.cells
    cases hg3 : inB s 0 (L.length : Int) with
    | false =>
     go_wp2
     go_ret
     exact ⟨by rw [VX (by unfold DR; rw [hg0, hg1, hg2, hg3]; rfl)]; first | done | rfl, LB4.out⟩
    | true =>
     have hV := zz (PG hg0); have hVM := zz (PG hg1); have hlen := ZY hg2; have hG := zz (JY hg2); obtain ⟨hs0, hs1⟩ := DF.mp hg3
     go_wp2_with fail
     refine (Y0.to 400 A0 c0 D A2 c2 L (XQ D L) _ (Kd.Xr HD.out LB4.out) HCD.out (Kd.Xr HL.out LB4.out) HCL.out (Qk hV.out hg2 400 (by omega))).mono ?_; rintro e w5 ⟨v3, rfl, hr, hb⟩; obtain ⟨A3, c3, e3⟩ := Kd.YZ hr; subst e3; have HR := zz (Kd.XN hr).2.2; have HCR := zz (Kd.XN hr).2.1; have BE5 := zz (BE4.out.below hb); have LB5 := zz (Xc LB4.out hb); have CD := zz (Kd.Xr HD.out LB5.out); have CM := zz (Kd.Xr HM.out LB5.out); have CL := zz (Kd.Xr HL.out LB5.out); clear hb hr BE4 LB4 x0 x1 x2 x3 x4 HD HM HL GD GM GL; obtain ⟨x0, x1, x2, x3, x4⟩ := BE5.out.cells
     go_wp2_with fail
     obtain ⟨nd, hnd⟩ : ∃ nd, MN L = nd := ⟨_, rfl⟩
     have hndb : nd ≤ 483 := by rw [← hnd]; exact XfU (by omega)
     have hw1 : wrap64 ((L.length : Int) + (nd : Int)) = (L.length : Int) + (nd : Int) := T.wrap_small (by omega) (by omega); refine Y5 (n := 8) (S := fun w' => w'.cell? ⟨w.heap.size, 0, none⟩ = some (.slice A0 D.length c0) ∧ w'.cell? ⟨w.heap.size, 1, none⟩ = some (.slice A1 M.length c1) ∧ w'.cell? ⟨w.heap.size, 2, none⟩ = some (.slice A2 L.length c2) ∧ w'.cell? ⟨w.heap.size, 3, none⟩ = some (.int .i64 s) ∧ w'.cell? ⟨w.heap.size, 4, none⟩ = some (.bool d)) (ds := []) mES0 zb9 rfl rfl ⟨x0, x1, x2, x3, x4⟩ (fun hHeld => ?_); refine XV Xj.EG Xj.Wv (fun HT_ HW_ => ?_); have LW := zz (X6 (Below.refl w5.heap.size w5)); generalize w5.drew = w6 at LW hHeld ⊢; refine pu 0 39 mES1 HT_ ?_; refine tk 1 40 mES2 HT_ HW_ hHeld ?_; refine pu 2 41 mES3 HT_ ?_; refine pu 3 42 mES4 HT_ ?_; refine tk 4 43 mES5 HT_ HW_ hHeld ?_; refine Zy (i := 5) (N := some 44) mES6 rfl rfl (Y6 HT_.out zb9) (by decide) (fun K hK => ?_); refine YW Tryz.func44 zb9 rfl #[.slice A2 L.length c2] (by rfl) rfl rfl zb2 ?_
     with_reducible refine (XJ.calls 4000 A2 c2 L (MN L : Int) _ (Kd.Xr CL.out LW.out) HCL.out (XyD hG.out (by omega) 4000 (by omega))).mono ?_
     rintro e w7 ⟨rfl, hb⟩; refine ⟨_, rfl, ?_⟩; have LW7 := zz (Xc LW.out hb); clear hb LW; refine hK.out _ _ ⟨cc LW7.out x0, cc LW7.out x1, cc LW7.out x2, cc LW7.out x3, cc LW7.out x4⟩ (fun hHeld => ?_); clear hK K; refine XZ (a' := ?_) ?_ ?_; rotate_left
     ·show Act.put _ (some 44) _ = _
      simp only [Act.put, List.setIfInBounds_toArray, List.set_cons_zero, List.set_cons_succ, X9, XK]
      rfl
     refine pu 6 45 mES7 HT_ ?_; refine pu 7 46 mES8 HT_ ?_; refine Zl (YT HT_.out zb9) ?_; clear hHeld; simp only [hnd, X9, hw1]
     by_cases hq : 150 < (L.length : Int) + (nd : Int)
     ·have hqb : decide (150 < (L.length : Int) + (nd : Int)) = true := decide_eq_true hq
      simp only [hqb]
      go_wp2
      go_ret
      exact ⟨by rw [VX (by unfold DR; rw [hg0, hg1, hg2, hg3, hnd, decide_eq_false (by omega)]; rfl)]; first | done | rfl, Xc LB5.out LW7.out⟩
     have hqb : decide (150 < (L.length : Int) + (nd : Int)) = false := decide_eq_false hq; simp only [hqb]
     have hH : DR D M L s = true := by unfold DR; rw [hg0, hg1, hg2, hg3, hnd, decide_eq_true (by omega)]; rfl
     have z0 := cc LW7.out x0; have z1 := cc LW7.out x1; have z2 := cc LW7.out x2; have z3 := cc LW7.out x3; have z4 := cc LW7.out x4
     go_wp2
     go_loopg [4] (L.length + 1 - s.toNat) (fun kq v4 w' => ∃ x : Int, v4 = .int .i64 x ∧ Aside0 (s ≤ x ∧ x.toNat + kq = L.length + 1) ∧ Aside0 (∀ n : Nat, n ≤ L.length → s ≤ (n : Int) → (n : Int) < x → preB D (L.take n) = true) ∧ Aside0 (Below w5.heap.size w5 w'))
     case atStart => exact ⟨s, rfl, ⟨by omega, by omega⟩, ⟨fun n h1 h2 h3 => by omega⟩, LW7⟩
     case round =>
      clear LW7 z0 z1 z2 z3 z4; obtain ⟨x, rfl, hx, hA, LW⟩ := hrel; have z0 := cc LW.out x0; have z1 := cc LW.out x1; have z2 := cc LW.out x2; have z3 := cc LW.out x3; have z4 := cc LW.out x4; have hx0 : s ≤ x := hx.out.1
      cases gk with
      | succ k1 =>
       have hxl : x ≤ (L.length : Int) := by have := hx.out; omega
       have qb : decide (x ≤ (L.length : Int)) = true := decide_eq_true hxl
       obtain ⟨y, hy⟩ : ∃ y, L.take x.toNat = y := ⟨_, rfl⟩
       have hyl : y.length = x.toNat := by rw [← hy, List.length_take]; omega
       obtain ⟨i0, hi0, _, hsz, _⟩ := info_parts QA; have hcut := XeI (P := Tryz.prog) 29 76 .i64 Tryz.underlying29 hi0 A2 L.length c2 x (by omega) hxl HCL.out
       have hCy : Kd.C k76 w5 A2 y.length y := by
        have h_ := Kd.XeJ (m := x.toNat) CL.out (by omega); rw [hy] at h_; exact h_
       rw [← hyl] at hcut; have HYL := zz hyl; have CY := zz hCy; have HCY := zz (show y.length ≤ c2 by have := HCL.out; omega); have hGy := zz (hy ▸ hG.out.take x.toNat)
       have hLy : Aside0 (Za y = true) := ⟨hy ▸ Qi hg2 x.toNat⟩
       have hyl2 : y.length ≤ 150 := by omega
       have HY := zz hy; clear hCy hi0 hsz hyl hy
       go_wp2_with fail
       refine Y5 (n := 8) (S := fun w' => w'.cell? ⟨w.heap.size, 0, none⟩ = some (.slice A0 D.length c0) ∧ w'.cell? ⟨w.heap.size, 1, none⟩ = some (.slice A1 M.length c1) ∧ w'.cell? ⟨w.heap.size, 2, none⟩ = some (.slice A2 L.length c2) ∧ w'.cell? ⟨w.heap.size, 3, none⟩ = some (.int .i64 s) ∧ w'.cell? ⟨w.heap.size, 4, none⟩ = some (.bool d)) (ds := []) mES0 zb9 rfl rfl ⟨z0, z1, z2, z3, z4⟩ (fun hHeld => ?_); refine XV Xj.tab9 Xj.X1g (fun HT_ HW_ => ?_); have LW2 := zz (X6 (w := w5) LW.out); generalize wr.drew = w8 at LW2 hHeld ⊢; clear z0 z1 z2 z3 z4 LW; refine pu 0 56 mES1 HT_ ?_; refine tk 1 57 mES2 HT_ HW_ hHeld ?_; refine pu 2 58 mES3 HT_ ?_; refine tk 3 59 mES4 HT_ HW_ hHeld ?_; refine pu 4 60 mES5 HT_ ?_; refine pu 5 61 mES6 HT_ ?_; refine Zy (i := 6) (N := some 62) mES7 rfl rfl (Y6 HT_.out zb9) (by decide) (fun K hK => ?_); refine YW Tryz.func39 zb9 rfl #[.slice A0 D.length c0, .slice A2 y.length c2] (by rfl) rfl rfl zb2 ?_
       with_reducible refine (Y0.to 400 A0 c0 D A2 c2 y (XQ D y) _ (Kd.Xr CD.out LW2.out) HCD.out (Kd.Xr CY.out LW2.out) HCY.out (Qk hV.out hLy.out 400 (by omega))).mono ?_
       rintro e w9 ⟨v5, rfl, hr, hb⟩; refine ⟨_, rfl, ?_⟩; have LW9 := zz (Xc LW2.out hb); have hsz8 := zz LW2.out.size; obtain ⟨A5, c5, e5⟩ := Kd.YZ hr; subst e5; have R9 := zz (Kd.Yz (Kd.Zh (Kd.JS hr) hsz8.out) (ok' := fun j => w8.heap.size ≤ j ∧ j < w9.heap.size) (fun j hj => ⟨hj.2.1, hj.2.2.1⟩)); clear hb hr LW2; refine hK.out _ _ ⟨cc LW9.out x0, cc LW9.out x1, cc LW9.out x2, cc LW9.out x3, cc LW9.out x4⟩ (fun hHeld => ?_); clear hK K; refine XZ (a' := ?_) ?_ ?_; rotate_left
       ·show Act.put _ (some 62) _ = _
        simp only [Act.put, List.setIfInBounds_toArray, List.set_cons_zero, List.set_cons_succ, X9, XK]
        rfl
       refine pu 7 5 mES8 HT_ ?_; refine Zl (YT HT_.out zb9) ?_; clear hHeld; have z0 := cc LW9.out x0; have z1 := cc LW9.out x1; have z2 := cc LW9.out x2; have z3 := cc LW9.out x3; have z4 := cc LW9.out x4; have hXV := zz (Sm hV.out hLy.out)
       go_wp2_with fail
       refine (Yq.calls 100 A5 c5 (XQ D y) (JG (XQ D y)) _ (Kd.XN R9.out).2.2 (Kd.XN R9.out).2.1 (XyE hXV.out 100 (by omega))).mono ?_; rintro e w10 ⟨rfl, hb⟩; have R10 := zz (Kd.X3 R9.out hb); have LW10 := zz (Xc LW9.out hb); have hsz9 := zz hb.size; clear hb R9 LW9 z0 z1 z2 z3 z4; have z0 := cc LW10.out x0; have z1 := cc LW10.out x1; have z2 := cc LW10.out x2; have z3 := cc LW10.out x3; have z4 := cc LW10.out x4
       cases hp0 : JG (XQ D y) with
       | false =>
        go_wp2
        go_ret
        exact ⟨by rw [Xm1 x.toNat zb71 zb71 (by rw [HY.out]; unfold preB; rw [hp0]; rfl)]; first | done | rfl, Xc LB5.out LW10.out⟩
       | true =>
        go_wp2_with fail
        refine (XH.to 2000 (fun j => w8.heap.size ≤ j ∧ j < w9.heap.size) A5 c5 (XQ D y) A2 c2 y (WG y (XQ D y) (Lf y)) w5 w10 LW10.out R10.out CY.out HCY.out (XeE hXV.out hLy.out 2000 (by omega))).mono ?_; rintro e w11 ⟨rfl, hlw, hkp⟩; have LW11 := zz hlw; clear hlw hkp R10 LW10 z0 z1 z2 z3 z4; have z0 := cc LW11.out x0; have z1 := cc LW11.out x1; have z2 := cc LW11.out x2; have z3 := cc LW11.out x3; have z4 := cc LW11.out x4
        cases hp1 : WG y (XQ D y) (Lf y) with
        | false =>
         go_wp2
         go_ret
         exact ⟨by rw [Xm1 x.toNat zb71 zb71 (by rw [HY.out]; unfold preB; rw [hp0, hp1]; rfl)]; first | done | rfl, Xc LB5.out LW11.out⟩
        | true =>
         have hwx : wrap64 (x + 1) = x + 1 := T.wrap_small (by omega) (by omega); have hwx2 : IntKind.i64.wrap (x + 1) = x + 1 := (X9 _).trans hwx
         go_wp2
         go_roundg k1
         case measure => omega
         case rel => exact ⟨x + 1, rfl, ⟨zb71, zb71⟩, ⟨fun n h1 h2 h3 => by
          by_cases e : (n : Int) = x
          ·have en : n = x.toNat := by omega
           rw [en, HY.out]; unfold preB; rw [hp0, hp1]; rfl
          ·exact hA.out n h1 h2 (by omega)⟩, LW11⟩
      | zero =>
       have qb : decide (x ≤ (L.length : Int)) = false := decide_eq_false zb71
       have hPre : Aside0 (∀ n : Nat, n ≤ L.length → s ≤ (n : Int) → preB D (L.take n) = true) := ⟨fun n h1 h2 => hA.out n h1 h2 zb71⟩
       clear hA
       go_wp2
       go_loopg [6] 5 (fun kq v6 w' => ∃ p : Int, v6 = .int .i64 p ∧ Aside0 (0 ≤ p ∧ p.toNat + kq = 5) ∧ Aside0 (∀ n : Nat, n < 5 → (n : Int) < p → Vy D M L s d (n : Int) = true) ∧ Aside0 (Below w5.heap.size w5 w'))
       case atStart => exact ⟨0, rfl, ⟨by omega, by omega⟩, ⟨fun n h1 h2 => by omega⟩, LW⟩
       case round =>
        clear LW z0 z1 z2 z3 z4 hx0 hx qb; obtain ⟨p, rfl, hp, hB, LW⟩ := hrel; have z0 := cc LW.out x0; have z1 := cc LW.out x1; have z2 := cc LW.out x2; have z3 := cc LW.out x3; have z4 := cc LW.out x4; have hp0 : 0 ≤ p := hp.out.1
        cases gk with
        | zero =>
         have qb : decide (p < 5) = false := decide_eq_false (by have := hp.out; omega)
         go_wp2
         go_ret
         exact ⟨by rw [Xvz hH (fun n h1 h2 => hPre.out n h1 h2) (fun n h1 => hB.out n h1 (by have := hp.out; omega))]; first | done | rfl, Xc LB5.out LW.out⟩
        | succ k1 =>
         have hp5 : p < 5 := by have := hp.out; omega
         have qb : decide (p < 5) = true := decide_eq_true hp5; have hnp := zz (show ((p.toNat : Nat) : Int) = p by omega)
         have hlD : p < (D.length : Int) := by have := hV.out.1; omega
         have hlM : p < (M.length : Int) := by have := hVM.out.1; omega
         have hlR : p < ((XQ D L).length : Int) := by have := (Sm hV.out hg2).1; omega
         have q0 := eq_true hp0; have qD := eq_true hlD; have qM := eq_true hlM; have qR := eq_true hlR; obtain ⟨aD, BD, bD, eD, d0, d1, d2, hdl, hdc⟩ := ZU CD.out p hp0 hlD; obtain ⟨aM, BM, bM, eM, m0, m1, m2, hml, hmc⟩ := ZU CM.out p hp0 hlM; obtain ⟨aR, BR, bR, eR, r0, r1, r2, hrl, hrc⟩ := ZU HR.out p hp0 hlR; subst eD eM eR; have ID := zz hdc; have JD := zz hdl; have IM := zz hmc; have JM := zz hml; have IR := zz hrc; have JR := zz hrl; clear hdl hdc hml hmc hrl hrc hlD hlM hlR; have okD := zz (RU hg0 p hp0 hp5); have okM := zz (RU hg1 p hp0 hp5); have okR := zz (RU (XfX (hPre.out L.length (Nat.le_refl _) hs1)) p hp0 hp5); have YD := zz (show w5.cell? (aD.add (p.toNat * 3)) = _ ∧ w5.cell? ⟨(aD.add (p.toNat * 3)).block, (aD.add (p.toNat * 3)).off + 1, none⟩ = _ ∧ w5.cell? ⟨(aD.add (p.toNat * 3)).block, (aD.add (p.toNat * 3)).off + 2, none⟩ = _ from ⟨d0, d1, d2⟩); have YM := zz (show w5.cell? (aM.add (p.toNat * 3)) = _ ∧ w5.cell? ⟨(aM.add (p.toNat * 3)).block, (aM.add (p.toNat * 3)).off + 1, none⟩ = _ ∧ w5.cell? ⟨(aM.add (p.toNat * 3)).block, (aM.add (p.toNat * 3)).off + 2, none⟩ = _ from ⟨m0, m1, m2⟩); have YR := zz (show w5.cell? (aR.add (p.toNat * 3)) = _ ∧ w5.cell? ⟨(aR.add (p.toNat * 3)).block, (aR.add (p.toNat * 3)).off + 1, none⟩ = _ ∧ w5.cell? ⟨(aR.add (p.toNat * 3)).block, (aR.add (p.toNat * 3)).off + 2, none⟩ = _ from ⟨r0, r1, r2⟩); clear d0 d1 d2 m0 m1 m2 r0 r1 r2
         go_upto_region 15 with (fail)
         go_cut [130] (fun v130 wc => ∃ b : Bool, v130 = .bool b ∧ Aside0 (b = true → Vy D M L s d p = false) ∧ Aside0 (b = false → (pg D p).f0 ≤ s ∧ (d = true → VW (pg M p) (pg D p) = true) ∧ (d = false → Vd L p = false → VW (pg M p) (pg (XQ D L) p) = true)) ∧ Aside0 (Below w5.heap.size w5 wc))
         case first =>
          by_cases cs1 : (Xb D p).f0 > s
          ·have c1b : decide (s < (Xb D p).f0) = true := decide_eq_true cs1
           as_aux_lemma =>
             have LW2 : Aside0 (Below w5.heap.size w5 wr.drew) := ⟨X6 LW.out⟩
             refine Y5 (n := 52) (S := fun w' => w'.cell? ⟨w.heap.size, 0, none⟩ = some (.slice (some aD) D.length c0) ∧ w'.cell? ⟨w.heap.size, 1, none⟩ = some (.slice (some aM) M.length c1) ∧ w'.cell? ⟨w.heap.size, 2, none⟩ = some (.slice A2 L.length c2) ∧ w'.cell? ⟨w.heap.size, 3, none⟩ = some (.int .i64 s) ∧ w'.cell? ⟨w.heap.size, 4, none⟩ = some (.bool d) ∧ w'.cell? (aD.add (p.toNat * 3)) = some (.int .i64 (Xb D p).f0) ∧ w'.cell? ⟨(aD.add (p.toNat * 3)).block, (aD.add (p.toNat * 3)).off + 1, none⟩ = some (.int .i64 (Xb D p).f1) ∧ w'.cell? ⟨(aD.add (p.toNat * 3)).block, (aD.add (p.toNat * 3)).off + 2, none⟩ = some (.slice BD (Xb D p).f2.length bD) ∧ w'.cell? (aM.add (p.toNat * 3)) = some (.int .i64 (Xb M p).f0) ∧ w'.cell? ⟨(aM.add (p.toNat * 3)).block, (aM.add (p.toNat * 3)).off + 1, none⟩ = some (.int .i64 (Xb M p).f1) ∧ w'.cell? ⟨(aM.add (p.toNat * 3)).block, (aM.add (p.toNat * 3)).off + 2, none⟩ = some (.slice BM (Xb M p).f2.length bM) ∧ w'.cell? (aR.add (p.toNat * 3)) = some (.int .i64 (Xb (XQ D L) p).f0) ∧ w'.cell? ⟨(aR.add (p.toNat * 3)).block, (aR.add (p.toNat * 3)).off + 1, none⟩ = some (.int .i64 (Xb (XQ D L) p).f1) ∧ w'.cell? ⟨(aR.add (p.toNat * 3)).block, (aR.add (p.toNat * 3)).off + 2, none⟩ = some (.slice BR (Xb (XQ D L) p).f2.length bR)) (ds := []) XoP zb9 rfl rfl ⟨cc LW2.out x0, cc LW2.out x1, cc LW2.out x2, cc LW2.out x3, cc LW2.out x4, cc LW2.out YD.out.1, cc LW2.out YD.out.2.1, cc LW2.out YD.out.2.2, cc LW2.out YM.out.1, cc LW2.out YM.out.2.1, cc LW2.out YM.out.2.2, cc LW2.out YR.out.1, cc LW2.out YR.out.2.1, cc LW2.out YR.out.2.2⟩ (fun hHeld => ?_); refine XV Xj.Xca Xj.CJ (fun HT_ HW_ => ?_)
             generalize wr.drew = w20 at LW2 hHeld ⊢; clear z0 z1 z2 z3 z4 LW; refine pu 0 79 Xbk HT_ ?_; refine tk 1 80 Xbl HT_ HW_ hHeld ?_; refine pu 2 81 Xbm HT_ ?_; refine pu 3 82 Xbn HT_ ?_; refine pu 4 83 Xbo HT_ ?_; refine tk 5 84 Xbp HT_ HW_ hHeld ?_; refine pu 6 85 Xbq HT_ ?_; refine tk 7 86 Xbr HT_ HW_ hHeld ?_; refine pu 8 87 Xbs HT_ ?_; refine pu 9 88 Xbt HT_ ?_; refine pn 10 89 Xbu HT_ ?_; refine pn 11 90 Xbv HT_ ?_; refine pn 12 91 Xbw HT_ ?_; refine pn 13 92 Xbx HT_ ?_; refine pn 14 93 Xby HT_ ?_; refine pn 15 94 Xbz HT_ ?_; refine pn 16 95 Xb0 HT_ ?_; refine pn 17 96 Xb1 HT_ ?_; refine pn 18 97 Xb2 HT_ ?_; refine pn 19 98 Xb3 HT_ ?_; refine pn 20 99 Xb4 HT_ ?_; refine pn 21 100 Xb5 HT_ ?_; refine pn 22 101 Xb6 HT_ ?_; refine pn 23 102 Xb7 HT_ ?_; refine pn 24 103 Xb8 HT_ ?_; refine pn 25 104 Xb9 HT_ ?_; refine pu 26 105 XbA HT_ ?_; refine pu 27 106 XbB HT_ ?_; refine pn 28 107 XbC HT_ ?_; refine pn 29 108 XbD HT_ ?_; refine pn 30 109 XbE HT_ ?_; refine pn 31 110 XbF HT_ ?_; refine pn 32 111 XbG HT_ ?_; refine pn 33 112 XbH HT_ ?_; refine pn 34 113 XbI HT_ ?_; refine pn 35 114 XbJ HT_ ?_; refine pn 36 115 XbK HT_ ?_; refine pn 37 116 XbL HT_ ?_; refine pn 38 117 XbM HT_ ?_; refine pn 39 118 XbN HT_ ?_; refine pn 40 119 XbO HT_ ?_; refine pn 41 120 XbP HT_ ?_; refine pn 42 121 XbQ HT_ ?_; refine pn 43 122 XbR HT_ ?_; refine pn 44 123 XbS HT_ ?_; refine pn 45 124 XbT HT_ ?_; refine pn 46 125 XbU HT_ ?_; refine pn 47 126 XbV HT_ ?_; refine pn 48 127 XbW HT_ ?_
             refine pn 49 128 XbX HT_ ?_; refine pn 50 129 XbY HT_ ?_; refine pu 51 130 XbZ HT_ ?_; refine Zl (YT HT_.out zb9) ?_; clear hHeld
             go_wp2
             go_meet
             case rel => exact ⟨true, rfl, ⟨fun _ => by unfold Vy; rw [decide_eq_false (show ¬ (pg D p).f0 ≤ s from by show ¬ (Xb D p).f0 ≤ s; omega)]; rfl⟩, ⟨(fun h => absurd h (by simp))⟩, LW2⟩
          have c1b : decide (s < (Xb D p).f0) = false := decide_eq_false cs1
          have c1c : (pg D p).f0 ≤ s := by show (Xb D p).f0 ≤ s; omega
          have c1d : decide ((pg D p).f0 ≤ s) = true := decide_eq_true c1c
          cases d with
          | true =>
           cases hSm : VW (pg M p) (pg D p) with
           | false =>
            as_aux_lemma =>
              have LW2 : Aside0 (Below w5.heap.size w5 wr.drew) := ⟨X6 LW.out⟩
              refine Y5 (n := 52) (S := fun w' => w'.cell? ⟨w.heap.size, 0, none⟩ = some (.slice (some aD) D.length c0) ∧ w'.cell? ⟨w.heap.size, 1, none⟩ = some (.slice (some aM) M.length c1) ∧ w'.cell? ⟨w.heap.size, 2, none⟩ = some (.slice A2 L.length c2) ∧ w'.cell? ⟨w.heap.size, 3, none⟩ = some (.int .i64 s) ∧ w'.cell? ⟨w.heap.size, 4, none⟩ = some (.bool true) ∧ w'.cell? (aD.add (p.toNat * 3)) = some (.int .i64 (Xb D p).f0) ∧ w'.cell? ⟨(aD.add (p.toNat * 3)).block, (aD.add (p.toNat * 3)).off + 1, none⟩ = some (.int .i64 (Xb D p).f1) ∧ w'.cell? ⟨(aD.add (p.toNat * 3)).block, (aD.add (p.toNat * 3)).off + 2, none⟩ = some (.slice BD (Xb D p).f2.length bD) ∧ w'.cell? (aM.add (p.toNat * 3)) = some (.int .i64 (Xb M p).f0) ∧ w'.cell? ⟨(aM.add (p.toNat * 3)).block, (aM.add (p.toNat * 3)).off + 1, none⟩ = some (.int .i64 (Xb M p).f1) ∧ w'.cell? ⟨(aM.add (p.toNat * 3)).block, (aM.add (p.toNat * 3)).off + 2, none⟩ = some (.slice BM (Xb M p).f2.length bM) ∧ w'.cell? (aR.add (p.toNat * 3)) = some (.int .i64 (Xb (XQ D L) p).f0) ∧ w'.cell? ⟨(aR.add (p.toNat * 3)).block, (aR.add (p.toNat * 3)).off + 1, none⟩ = some (.int .i64 (Xb (XQ D L) p).f1) ∧ w'.cell? ⟨(aR.add (p.toNat * 3)).block, (aR.add (p.toNat * 3)).off + 2, none⟩ = some (.slice BR (Xb (XQ D L) p).f2.length bR)) (ds := []) XoP zb9 rfl rfl ⟨cc LW2.out x0, cc LW2.out x1, cc LW2.out x2, cc LW2.out x3, cc LW2.out x4, cc LW2.out YD.out.1, cc LW2.out YD.out.2.1, cc LW2.out YD.out.2.2, cc LW2.out YM.out.1, cc LW2.out YM.out.2.1, cc LW2.out YM.out.2.2, cc LW2.out YR.out.1, cc LW2.out YR.out.2.1, cc LW2.out YR.out.2.2⟩ (fun hHeld => ?_); refine XV Xj.Xca Xj.CJ (fun HT_ HW_ => ?_)
              generalize wr.drew = w20 at LW2 hHeld ⊢; clear z0 z1 z2 z3 z4 LW; refine pu 0 79 Xbk HT_ ?_; refine tk 1 80 Xbl HT_ HW_ hHeld ?_; refine pu 2 81 Xbm HT_ ?_; refine pu 3 82 Xbn HT_ ?_; refine pu 4 83 Xbo HT_ ?_; refine tk 5 84 Xbp HT_ HW_ hHeld ?_; refine pu 6 85 Xbq HT_ ?_; refine tk 7 86 Xbr HT_ HW_ hHeld ?_; refine pu 8 87 Xbs HT_ ?_; refine pu 9 88 Xbt HT_ ?_; refine pu 10 89 Xbu HT_ ?_; refine tk 11 90 Xbv HT_ HW_ hHeld ?_; refine pu 12 91 Xbw HT_ ?_; refine pu 13 92 Xbx HT_ ?_; refine tk 14 93 Xby HT_ HW_ hHeld ?_; refine pu 15 94 Xbz HT_ ?_; refine pu 16 95 Xb0 HT_ ?_; refine tk 17 96 Xb1 HT_ HW_ hHeld ?_; refine pu 18 97 Xb2 HT_ ?_; refine tk 19 98 Xb3 HT_ HW_ hHeld ?_; refine pu 20 99 Xb4 HT_ ?_; refine pu 21 100 Xb5 HT_ ?_; refine tk 22 101 Xb6 HT_ HW_ hHeld ?_; refine Zy (i := 23) (N := some 102) Xb7 rfl rfl (Y6 HT_.out zb9) (by decide) (fun K hK => ?_); refine YW Tryz.func46 zb9 rfl #[.agg #[.int .i64 (Xb M p).f0, .int .i64 (Xb M p).f1, .slice BM (Xb M p).f2.length bM], .agg #[.int .i64 (Xb D p).f0, .int .i64 (Xb D p).f1, .slice BD (Xb D p).f2.length bD]] (by rfl) rfl rfl zb2 ?_
              with_reducible refine (YV.calls 40 (Xb M p).f0 (Xb M p).f1 BM bM (Xb M p).f2 (Xb D p).f0 (Xb D p).f1 BD bD (Xb D p).f2 false _ (Kd.Xr IM.out LW2.out) JM.out (Kd.Xr ID.out LW2.out) JD.out (hSm ▸ Qn okM.out okD.out 40 (by omega))).mono ?_
              rintro e w30 ⟨rfl, hb⟩; refine ⟨_, rfl, ?_⟩; have LW3 := zz (Xc LW2.out hb); clear hb LW2; refine hK.out _ _ ⟨cc LW3.out x0, cc LW3.out x1, cc LW3.out x2, cc LW3.out x3, cc LW3.out x4, cc LW3.out YD.out.1, cc LW3.out YD.out.2.1, cc LW3.out YD.out.2.2, cc LW3.out YM.out.1, cc LW3.out YM.out.2.1, cc LW3.out YM.out.2.2, cc LW3.out YR.out.1, cc LW3.out YR.out.2.1, cc LW3.out YR.out.2.2⟩ (fun hHeld => ?_); clear hK K; refine XZ (a' := ?_) ?_ ?_; rotate_left
              ·show Act.put _ (some 102) _ = _
               simp only [Act.put, List.setIfInBounds_toArray, List.set_cons_zero, List.set_cons_succ, X9, XK]
               rfl
              refine pu 24 103 Xb8 HT_ ?_; refine pu 25 104 Xb9 HT_ ?_; refine pu 26 105 XbA HT_ ?_; refine pu 27 106 XbB HT_ ?_; refine pn 28 107 XbC HT_ ?_; refine pn 29 108 XbD HT_ ?_; refine pn 30 109 XbE HT_ ?_; refine pn 31 110 XbF HT_ ?_; refine pn 32 111 XbG HT_ ?_; refine pn 33 112 XbH HT_ ?_; refine pn 34 113 XbI HT_ ?_; refine pn 35 114 XbJ HT_ ?_; refine pn 36 115 XbK HT_ ?_; refine pn 37 116 XbL HT_ ?_; refine pn 38 117 XbM HT_ ?_; refine pn 39 118 XbN HT_ ?_; refine pn 40 119 XbO HT_ ?_; refine pn 41 120 XbP HT_ ?_; refine pn 42 121 XbQ HT_ ?_; refine pn 43 122 XbR HT_ ?_; refine pn 44 123 XbS HT_ ?_; refine pn 45 124 XbT HT_ ?_; refine pn 46 125 XbU HT_ ?_; refine pn 47 126 XbV HT_ ?_; refine pn 48 127 XbW HT_ ?_; refine pn 49 128 XbX HT_ ?_; refine pn 50 129 XbY HT_ ?_; refine pu 51 130 XbZ HT_ ?_; refine Zl (YT HT_.out zb9) ?_; clear hHeld
              go_wp2
              go_meet
              case rel => exact ⟨true, rfl, ⟨fun _ => by unfold Vy; rw [if_pos rfl, hSm]; simp⟩, ⟨(fun h => absurd h (by simp))⟩, LW3⟩
           | true =>
            as_aux_lemma =>
              have LW2 : Aside0 (Below w5.heap.size w5 wr.drew) := ⟨X6 LW.out⟩
              refine Y5 (n := 52) (S := fun w' => w'.cell? ⟨w.heap.size, 0, none⟩ = some (.slice (some aD) D.length c0) ∧ w'.cell? ⟨w.heap.size, 1, none⟩ = some (.slice (some aM) M.length c1) ∧ w'.cell? ⟨w.heap.size, 2, none⟩ = some (.slice A2 L.length c2) ∧ w'.cell? ⟨w.heap.size, 3, none⟩ = some (.int .i64 s) ∧ w'.cell? ⟨w.heap.size, 4, none⟩ = some (.bool true) ∧ w'.cell? (aD.add (p.toNat * 3)) = some (.int .i64 (Xb D p).f0) ∧ w'.cell? ⟨(aD.add (p.toNat * 3)).block, (aD.add (p.toNat * 3)).off + 1, none⟩ = some (.int .i64 (Xb D p).f1) ∧ w'.cell? ⟨(aD.add (p.toNat * 3)).block, (aD.add (p.toNat * 3)).off + 2, none⟩ = some (.slice BD (Xb D p).f2.length bD) ∧ w'.cell? (aM.add (p.toNat * 3)) = some (.int .i64 (Xb M p).f0) ∧ w'.cell? ⟨(aM.add (p.toNat * 3)).block, (aM.add (p.toNat * 3)).off + 1, none⟩ = some (.int .i64 (Xb M p).f1) ∧ w'.cell? ⟨(aM.add (p.toNat * 3)).block, (aM.add (p.toNat * 3)).off + 2, none⟩ = some (.slice BM (Xb M p).f2.length bM) ∧ w'.cell? (aR.add (p.toNat * 3)) = some (.int .i64 (Xb (XQ D L) p).f0) ∧ w'.cell? ⟨(aR.add (p.toNat * 3)).block, (aR.add (p.toNat * 3)).off + 1, none⟩ = some (.int .i64 (Xb (XQ D L) p).f1) ∧ w'.cell? ⟨(aR.add (p.toNat * 3)).block, (aR.add (p.toNat * 3)).off + 2, none⟩ = some (.slice BR (Xb (XQ D L) p).f2.length bR)) (ds := []) XoP zb9 rfl rfl ⟨cc LW2.out x0, cc LW2.out x1, cc LW2.out x2, cc LW2.out x3, cc LW2.out x4, cc LW2.out YD.out.1, cc LW2.out YD.out.2.1, cc LW2.out YD.out.2.2, cc LW2.out YM.out.1, cc LW2.out YM.out.2.1, cc LW2.out YM.out.2.2, cc LW2.out YR.out.1, cc LW2.out YR.out.2.1, cc LW2.out YR.out.2.2⟩ (fun hHeld => ?_); refine XV Xj.Xca Xj.CJ (fun HT_ HW_ => ?_)
              generalize wr.drew = w20 at LW2 hHeld ⊢; clear z0 z1 z2 z3 z4 LW; refine pu 0 79 Xbk HT_ ?_; refine tk 1 80 Xbl HT_ HW_ hHeld ?_; refine pu 2 81 Xbm HT_ ?_; refine pu 3 82 Xbn HT_ ?_; refine pu 4 83 Xbo HT_ ?_; refine tk 5 84 Xbp HT_ HW_ hHeld ?_; refine pu 6 85 Xbq HT_ ?_; refine tk 7 86 Xbr HT_ HW_ hHeld ?_; refine pu 8 87 Xbs HT_ ?_; refine pu 9 88 Xbt HT_ ?_; refine pu 10 89 Xbu HT_ ?_; refine tk 11 90 Xbv HT_ HW_ hHeld ?_; refine pu 12 91 Xbw HT_ ?_; refine pu 13 92 Xbx HT_ ?_; refine tk 14 93 Xby HT_ HW_ hHeld ?_; refine pu 15 94 Xbz HT_ ?_; refine pu 16 95 Xb0 HT_ ?_; refine tk 17 96 Xb1 HT_ HW_ hHeld ?_; refine pu 18 97 Xb2 HT_ ?_; refine tk 19 98 Xb3 HT_ HW_ hHeld ?_; refine pu 20 99 Xb4 HT_ ?_; refine pu 21 100 Xb5 HT_ ?_; refine tk 22 101 Xb6 HT_ HW_ hHeld ?_; refine Zy (i := 23) (N := some 102) Xb7 rfl rfl (Y6 HT_.out zb9) (by decide) (fun K hK => ?_); refine YW Tryz.func46 zb9 rfl #[.agg #[.int .i64 (Xb M p).f0, .int .i64 (Xb M p).f1, .slice BM (Xb M p).f2.length bM], .agg #[.int .i64 (Xb D p).f0, .int .i64 (Xb D p).f1, .slice BD (Xb D p).f2.length bD]] (by rfl) rfl rfl zb2 ?_
              with_reducible refine (YV.calls 40 (Xb M p).f0 (Xb M p).f1 BM bM (Xb M p).f2 (Xb D p).f0 (Xb D p).f1 BD bD (Xb D p).f2 true _ (Kd.Xr IM.out LW2.out) JM.out (Kd.Xr ID.out LW2.out) JD.out (hSm ▸ Qn okM.out okD.out 40 (by omega))).mono ?_
              rintro e w30 ⟨rfl, hb⟩; refine ⟨_, rfl, ?_⟩; have LW3 := zz (Xc LW2.out hb); clear hb LW2; refine hK.out _ _ ⟨cc LW3.out x0, cc LW3.out x1, cc LW3.out x2, cc LW3.out x3, cc LW3.out x4, cc LW3.out YD.out.1, cc LW3.out YD.out.2.1, cc LW3.out YD.out.2.2, cc LW3.out YM.out.1, cc LW3.out YM.out.2.1, cc LW3.out YM.out.2.2, cc LW3.out YR.out.1, cc LW3.out YR.out.2.1, cc LW3.out YR.out.2.2⟩ (fun hHeld => ?_); clear hK K; refine XZ (a' := ?_) ?_ ?_; rotate_left
              ·show Act.put _ (some 102) _ = _
               simp only [Act.put, List.setIfInBounds_toArray, List.set_cons_zero, List.set_cons_succ, X9, XK]
               rfl
              refine pu 24 103 Xb8 HT_ ?_; refine pu 25 104 Xb9 HT_ ?_; refine pu 26 105 XbA HT_ ?_; refine pu 27 106 XbB HT_ ?_; refine pu 28 107 XbC HT_ ?_; refine tk 29 108 XbD HT_ HW_ hHeld ?_; refine pu 30 109 XbE HT_ ?_; refine pu 31 110 XbF HT_ ?_; refine pn 32 111 XbG HT_ ?_; refine pn 33 112 XbH HT_ ?_; refine pn 34 113 XbI HT_ ?_; refine pn 35 114 XbJ HT_ ?_; refine pn 36 115 XbK HT_ ?_; refine pu 37 116 XbL HT_ ?_; refine pu 38 117 XbM HT_ ?_; refine pn 39 118 XbN HT_ ?_; refine pn 40 119 XbO HT_ ?_; refine pn 41 120 XbP HT_ ?_; refine pn 42 121 XbQ HT_ ?_; refine pn 43 122 XbR HT_ ?_; refine pn 44 123 XbS HT_ ?_; refine pn 45 124 XbT HT_ ?_; refine pn 46 125 XbU HT_ ?_; refine pn 47 126 XbV HT_ ?_; refine pn 48 127 XbW HT_ ?_; refine pn 49 128 XbX HT_ ?_; refine pu 50 129 XbY HT_ ?_; refine pu 51 130 XbZ HT_ ?_; refine Zl (YT HT_.out zb9) ?_; clear hHeld
              go_wp2
              go_meet
              case rel => exact ⟨false, rfl, ⟨(fun h => absurd h (by simp))⟩, ⟨fun _ => ⟨c1c, fun _ => hSm, fun h => absurd h (by simp)⟩⟩, LW3⟩
          | false =>
           cases hLd : Vd L p with
           | true =>
            as_aux_lemma =>
              have LW2 : Aside0 (Below w5.heap.size w5 wr.drew) := ⟨X6 LW.out⟩
              refine Y5 (n := 52) (S := fun w' => w'.cell? ⟨w.heap.size, 0, none⟩ = some (.slice (some aD) D.length c0) ∧ w'.cell? ⟨w.heap.size, 1, none⟩ = some (.slice (some aM) M.length c1) ∧ w'.cell? ⟨w.heap.size, 2, none⟩ = some (.slice A2 L.length c2) ∧ w'.cell? ⟨w.heap.size, 3, none⟩ = some (.int .i64 s) ∧ w'.cell? ⟨w.heap.size, 4, none⟩ = some (.bool false) ∧ w'.cell? (aD.add (p.toNat * 3)) = some (.int .i64 (Xb D p).f0) ∧ w'.cell? ⟨(aD.add (p.toNat * 3)).block, (aD.add (p.toNat * 3)).off + 1, none⟩ = some (.int .i64 (Xb D p).f1) ∧ w'.cell? ⟨(aD.add (p.toNat * 3)).block, (aD.add (p.toNat * 3)).off + 2, none⟩ = some (.slice BD (Xb D p).f2.length bD) ∧ w'.cell? (aM.add (p.toNat * 3)) = some (.int .i64 (Xb M p).f0) ∧ w'.cell? ⟨(aM.add (p.toNat * 3)).block, (aM.add (p.toNat * 3)).off + 1, none⟩ = some (.int .i64 (Xb M p).f1) ∧ w'.cell? ⟨(aM.add (p.toNat * 3)).block, (aM.add (p.toNat * 3)).off + 2, none⟩ = some (.slice BM (Xb M p).f2.length bM) ∧ w'.cell? (aR.add (p.toNat * 3)) = some (.int .i64 (Xb (XQ D L) p).f0) ∧ w'.cell? ⟨(aR.add (p.toNat * 3)).block, (aR.add (p.toNat * 3)).off + 1, none⟩ = some (.int .i64 (Xb (XQ D L) p).f1) ∧ w'.cell? ⟨(aR.add (p.toNat * 3)).block, (aR.add (p.toNat * 3)).off + 2, none⟩ = some (.slice BR (Xb (XQ D L) p).f2.length bR)) (ds := []) XoP zb9 rfl rfl ⟨cc LW2.out x0, cc LW2.out x1, cc LW2.out x2, cc LW2.out x3, cc LW2.out x4, cc LW2.out YD.out.1, cc LW2.out YD.out.2.1, cc LW2.out YD.out.2.2, cc LW2.out YM.out.1, cc LW2.out YM.out.2.1, cc LW2.out YM.out.2.2, cc LW2.out YR.out.1, cc LW2.out YR.out.2.1, cc LW2.out YR.out.2.2⟩ (fun hHeld => ?_); refine XV Xj.Xca Xj.CJ (fun HT_ HW_ => ?_)
              generalize wr.drew = w20 at LW2 hHeld ⊢; clear z0 z1 z2 z3 z4 LW; refine pu 0 79 Xbk HT_ ?_; refine tk 1 80 Xbl HT_ HW_ hHeld ?_; refine pu 2 81 Xbm HT_ ?_; refine pu 3 82 Xbn HT_ ?_; refine pu 4 83 Xbo HT_ ?_; refine tk 5 84 Xbp HT_ HW_ hHeld ?_; refine pu 6 85 Xbq HT_ ?_; refine tk 7 86 Xbr HT_ HW_ hHeld ?_; refine pu 8 87 Xbs HT_ ?_; refine pu 9 88 Xbt HT_ ?_; refine pu 10 89 Xbu HT_ ?_; refine tk 11 90 Xbv HT_ HW_ hHeld ?_; refine pu 12 91 Xbw HT_ ?_; refine pn 13 92 Xbx HT_ ?_; refine pn 14 93 Xby HT_ ?_; refine pn 15 94 Xbz HT_ ?_; refine pn 16 95 Xb0 HT_ ?_; refine pn 17 96 Xb1 HT_ ?_; refine pn 18 97 Xb2 HT_ ?_; refine pn 19 98 Xb3 HT_ ?_; refine pn 20 99 Xb4 HT_ ?_; refine pn 21 100 Xb5 HT_ ?_; refine pn 22 101 Xb6 HT_ ?_; refine pn 23 102 Xb7 HT_ ?_; refine pn 24 103 Xb8 HT_ ?_; refine pu 25 104 Xb9 HT_ ?_; refine pu 26 105 XbA HT_ ?_; refine pu 27 106 XbB HT_ ?_; refine pu 28 107 XbC HT_ ?_; refine tk 29 108 XbD HT_ HW_ hHeld ?_; refine pu 30 109 XbE HT_ ?_; refine pu 31 110 XbF HT_ ?_; refine pu 32 111 XbG HT_ ?_; refine tk 33 112 XbH HT_ HW_ hHeld ?_; refine pu 34 113 XbI HT_ ?_; refine Zy (i := 35) (N := some 114) XbJ rfl rfl (Y6 HT_.out zb9) (by decide) (fun K hK => ?_); refine YW Tryz.func47 zb9 rfl #[.slice A2 L.length c2, .int .i64 p] (by rfl) rfl rfl zb2 ?_
              with_reducible refine (X5.calls 1000 A2 c2 L p true _ (Kd.Xr CL.out LW2.out) HCL.out (hLd ▸ Ju hg2 p 1000 (by omega))).mono ?_
              rintro e w30 ⟨rfl, nd, hw⟩; refine ⟨_, rfl, ?_⟩
              have LW3 : Aside0 (Below w5.heap.size w5 w30) := ⟨zb86⟩
              clear hw nd LW2; refine hK.out _ _ ⟨cc LW3.out x0, cc LW3.out x1, cc LW3.out x2, cc LW3.out x3, cc LW3.out x4, cc LW3.out YD.out.1, cc LW3.out YD.out.2.1, cc LW3.out YD.out.2.2, cc LW3.out YM.out.1, cc LW3.out YM.out.2.1, cc LW3.out YM.out.2.2, cc LW3.out YR.out.1, cc LW3.out YR.out.2.1, cc LW3.out YR.out.2.2⟩ (fun hHeld => ?_); clear hK K; refine XZ (a' := ?_) ?_ ?_; rotate_left
              ·show Act.put _ (some 114) _ = _
               simp only [Act.put, List.setIfInBounds_toArray, List.set_cons_zero, List.set_cons_succ, X9, XK]
               rfl
              refine pu 36 115 XbK HT_ ?_; refine pu 37 116 XbL HT_ ?_; refine pu 38 117 XbM HT_ ?_; refine pn 39 118 XbN HT_ ?_; refine pn 40 119 XbO HT_ ?_; refine pn 41 120 XbP HT_ ?_; refine pn 42 121 XbQ HT_ ?_; refine pn 43 122 XbR HT_ ?_; refine pn 44 123 XbS HT_ ?_; refine pn 45 124 XbT HT_ ?_; refine pn 46 125 XbU HT_ ?_; refine pn 47 126 XbV HT_ ?_; refine pn 48 127 XbW HT_ ?_; refine pn 49 128 XbX HT_ ?_; refine pu 50 129 XbY HT_ ?_; refine pu 51 130 XbZ HT_ ?_; refine Zl (YT HT_.out zb9) ?_; clear hHeld
              go_wp2
              go_meet
              case rel => exact ⟨false, rfl, ⟨(fun h => absurd h (by simp))⟩, ⟨fun _ => ⟨c1c, fun h => absurd h (by simp), fun _ h => absurd (hLd.symm.trans h) (by simp)⟩⟩, LW3⟩
           | false =>
            cases hSm : VW (pg M p) (pg (XQ D L) p) with
            | false =>
             as_aux_lemma =>
               have LW2 : Aside0 (Below w5.heap.size w5 wr.drew) := ⟨X6 LW.out⟩
               refine Y5 (n := 52) (S := fun w' => w'.cell? ⟨w.heap.size, 0, none⟩ = some (.slice (some aD) D.length c0) ∧ w'.cell? ⟨w.heap.size, 1, none⟩ = some (.slice (some aM) M.length c1) ∧ w'.cell? ⟨w.heap.size, 2, none⟩ = some (.slice A2 L.length c2) ∧ w'.cell? ⟨w.heap.size, 3, none⟩ = some (.int .i64 s) ∧ w'.cell? ⟨w.heap.size, 4, none⟩ = some (.bool false) ∧ w'.cell? (aD.add (p.toNat * 3)) = some (.int .i64 (Xb D p).f0) ∧ w'.cell? ⟨(aD.add (p.toNat * 3)).block, (aD.add (p.toNat * 3)).off + 1, none⟩ = some (.int .i64 (Xb D p).f1) ∧ w'.cell? ⟨(aD.add (p.toNat * 3)).block, (aD.add (p.toNat * 3)).off + 2, none⟩ = some (.slice BD (Xb D p).f2.length bD) ∧ w'.cell? (aM.add (p.toNat * 3)) = some (.int .i64 (Xb M p).f0) ∧ w'.cell? ⟨(aM.add (p.toNat * 3)).block, (aM.add (p.toNat * 3)).off + 1, none⟩ = some (.int .i64 (Xb M p).f1) ∧ w'.cell? ⟨(aM.add (p.toNat * 3)).block, (aM.add (p.toNat * 3)).off + 2, none⟩ = some (.slice BM (Xb M p).f2.length bM) ∧ w'.cell? (aR.add (p.toNat * 3)) = some (.int .i64 (Xb (XQ D L) p).f0) ∧ w'.cell? ⟨(aR.add (p.toNat * 3)).block, (aR.add (p.toNat * 3)).off + 1, none⟩ = some (.int .i64 (Xb (XQ D L) p).f1) ∧ w'.cell? ⟨(aR.add (p.toNat * 3)).block, (aR.add (p.toNat * 3)).off + 2, none⟩ = some (.slice BR (Xb (XQ D L) p).f2.length bR)) (ds := []) XoP zb9 rfl rfl ⟨cc LW2.out x0, cc LW2.out x1, cc LW2.out x2, cc LW2.out x3, cc LW2.out x4, cc LW2.out YD.out.1, cc LW2.out YD.out.2.1, cc LW2.out YD.out.2.2, cc LW2.out YM.out.1, cc LW2.out YM.out.2.1, cc LW2.out YM.out.2.2, cc LW2.out YR.out.1, cc LW2.out YR.out.2.1, cc LW2.out YR.out.2.2⟩ (fun hHeld => ?_); refine XV Xj.Xca Xj.CJ (fun HT_ HW_ => ?_)
               generalize wr.drew = w20 at LW2 hHeld ⊢; clear z0 z1 z2 z3 z4 LW; refine pu 0 79 Xbk HT_ ?_; refine tk 1 80 Xbl HT_ HW_ hHeld ?_; refine pu 2 81 Xbm HT_ ?_; refine pu 3 82 Xbn HT_ ?_; refine pu 4 83 Xbo HT_ ?_; refine tk 5 84 Xbp HT_ HW_ hHeld ?_; refine pu 6 85 Xbq HT_ ?_; refine tk 7 86 Xbr HT_ HW_ hHeld ?_; refine pu 8 87 Xbs HT_ ?_; refine pu 9 88 Xbt HT_ ?_; refine pu 10 89 Xbu HT_ ?_; refine tk 11 90 Xbv HT_ HW_ hHeld ?_; refine pu 12 91 Xbw HT_ ?_; refine pn 13 92 Xbx HT_ ?_; refine pn 14 93 Xby HT_ ?_; refine pn 15 94 Xbz HT_ ?_; refine pn 16 95 Xb0 HT_ ?_; refine pn 17 96 Xb1 HT_ ?_; refine pn 18 97 Xb2 HT_ ?_; refine pn 19 98 Xb3 HT_ ?_; refine pn 20 99 Xb4 HT_ ?_; refine pn 21 100 Xb5 HT_ ?_; refine pn 22 101 Xb6 HT_ ?_; refine pn 23 102 Xb7 HT_ ?_; refine pn 24 103 Xb8 HT_ ?_; refine pu 25 104 Xb9 HT_ ?_; refine pu 26 105 XbA HT_ ?_; refine pu 27 106 XbB HT_ ?_; refine pu 28 107 XbC HT_ ?_; refine tk 29 108 XbD HT_ HW_ hHeld ?_; refine pu 30 109 XbE HT_ ?_; refine pu 31 110 XbF HT_ ?_; refine pu 32 111 XbG HT_ ?_; refine tk 33 112 XbH HT_ HW_ hHeld ?_; refine pu 34 113 XbI HT_ ?_; refine Zy (i := 35) (N := some 114) XbJ rfl rfl (Y6 HT_.out zb9) (by decide) (fun K hK => ?_); refine YW Tryz.func47 zb9 rfl #[.slice A2 L.length c2, .int .i64 p] (by rfl) rfl rfl zb2 ?_
               with_reducible refine (X5.calls 1000 A2 c2 L p false _ (Kd.Xr CL.out LW2.out) HCL.out (hLd ▸ Ju hg2 p 1000 (by omega))).mono ?_
               rintro e w30 ⟨rfl, nd, hw⟩; refine ⟨_, rfl, ?_⟩
               have LW3 : Aside0 (Below w5.heap.size w5 w30) := ⟨zb86⟩
               clear hw nd LW2; refine hK.out _ _ ⟨cc LW3.out x0, cc LW3.out x1, cc LW3.out x2, cc LW3.out x3, cc LW3.out x4, cc LW3.out YD.out.1, cc LW3.out YD.out.2.1, cc LW3.out YD.out.2.2, cc LW3.out YM.out.1, cc LW3.out YM.out.2.1, cc LW3.out YM.out.2.2, cc LW3.out YR.out.1, cc LW3.out YR.out.2.1, cc LW3.out YR.out.2.2⟩ (fun hHeld => ?_); clear hK K; refine XZ (a' := ?_) ?_ ?_; rotate_left
               ·show Act.put _ (some 114) _ = _
                simp only [Act.put, List.setIfInBounds_toArray, List.set_cons_zero, List.set_cons_succ, X9, XK]
                rfl
               refine pu 36 115 XbK HT_ ?_; refine pu 37 116 XbL HT_ ?_; refine pu 38 117 XbM HT_ ?_; refine pu 39 118 XbN HT_ ?_; refine tk 40 119 XbO HT_ HW_ hHeld ?_; refine pu 41 120 XbP HT_ ?_; refine pu 42 121 XbQ HT_ ?_; refine tk 43 122 XbR HT_ HW_ hHeld ?_; refine pu 44 123 XbS HT_ ?_; refine pu 45 124 XbT HT_ ?_; refine pu 46 125 XbU HT_ ?_; refine tk 47 126 XbV HT_ HW_ hHeld ?_; refine Zy (i := 48) (N := some 127) XbW rfl rfl (Y6 HT_.out zb9) (by decide) (fun K hK => ?_); refine YW Tryz.func46 zb9 rfl #[.agg #[.int .i64 (Xb M p).f0, .int .i64 (Xb M p).f1, .slice BM (Xb M p).f2.length bM], .agg #[.int .i64 (Xb (XQ D L) p).f0, .int .i64 (Xb (XQ D L) p).f1, .slice BR (Xb (XQ D L) p).f2.length bR]] (by rfl) rfl rfl zb2 ?_
               with_reducible refine (YV.calls 40 (Xb M p).f0 (Xb M p).f1 BM bM (Xb M p).f2 (Xb (XQ D L) p).f0 (Xb (XQ D L) p).f1 BR bR (Xb (XQ D L) p).f2 false _ (Kd.Xr IM.out LW3.out) JM.out (Kd.Xr IR.out LW3.out) JR.out (hSm ▸ Qn okM.out okR.out 40 (by omega))).mono ?_
               rintro e w40 ⟨rfl, hb⟩; refine ⟨_, rfl, ?_⟩; have LW4 := zz (Xc LW3.out hb); clear hb LW3; refine hK.out _ _ ⟨cc LW4.out x0, cc LW4.out x1, cc LW4.out x2, cc LW4.out x3, cc LW4.out x4, cc LW4.out YD.out.1, cc LW4.out YD.out.2.1, cc LW4.out YD.out.2.2, cc LW4.out YM.out.1, cc LW4.out YM.out.2.1, cc LW4.out YM.out.2.2, cc LW4.out YR.out.1, cc LW4.out YR.out.2.1, cc LW4.out YR.out.2.2⟩ (fun hHeld => ?_); clear hK K; refine XZ (a' := ?_) ?_ ?_; rotate_left
               ·show Act.put _ (some 127) _ = _
                simp only [Act.put, List.setIfInBounds_toArray, List.set_cons_zero, List.set_cons_succ, X9, XK]
                rfl
               refine pu 49 128 XbX HT_ ?_; refine pu 50 129 XbY HT_ ?_; refine pu 51 130 XbZ HT_ ?_; refine Zl (YT HT_.out zb9) ?_; clear hHeld
               go_wp2
               go_meet
               case rel => exact ⟨true, rfl, ⟨fun _ => by unfold Vy; rw [if_neg (by simp), hLd, if_neg (by simp), hSm]; simp⟩, ⟨(fun h => absurd h (by simp))⟩, LW4⟩
            | true =>
             as_aux_lemma =>
               have LW2 : Aside0 (Below w5.heap.size w5 wr.drew) := ⟨X6 LW.out⟩
               refine Y5 (n := 52) (S := fun w' => w'.cell? ⟨w.heap.size, 0, none⟩ = some (.slice (some aD) D.length c0) ∧ w'.cell? ⟨w.heap.size, 1, none⟩ = some (.slice (some aM) M.length c1) ∧ w'.cell? ⟨w.heap.size, 2, none⟩ = some (.slice A2 L.length c2) ∧ w'.cell? ⟨w.heap.size, 3, none⟩ = some (.int .i64 s) ∧ w'.cell? ⟨w.heap.size, 4, none⟩ = some (.bool false) ∧ w'.cell? (aD.add (p.toNat * 3)) = some (.int .i64 (Xb D p).f0) ∧ w'.cell? ⟨(aD.add (p.toNat * 3)).block, (aD.add (p.toNat * 3)).off + 1, none⟩ = some (.int .i64 (Xb D p).f1) ∧ w'.cell? ⟨(aD.add (p.toNat * 3)).block, (aD.add (p.toNat * 3)).off + 2, none⟩ = some (.slice BD (Xb D p).f2.length bD) ∧ w'.cell? (aM.add (p.toNat * 3)) = some (.int .i64 (Xb M p).f0) ∧ w'.cell? ⟨(aM.add (p.toNat * 3)).block, (aM.add (p.toNat * 3)).off + 1, none⟩ = some (.int .i64 (Xb M p).f1) ∧ w'.cell? ⟨(aM.add (p.toNat * 3)).block, (aM.add (p.toNat * 3)).off + 2, none⟩ = some (.slice BM (Xb M p).f2.length bM) ∧ w'.cell? (aR.add (p.toNat * 3)) = some (.int .i64 (Xb (XQ D L) p).f0) ∧ w'.cell? ⟨(aR.add (p.toNat * 3)).block, (aR.add (p.toNat * 3)).off + 1, none⟩ = some (.int .i64 (Xb (XQ D L) p).f1) ∧ w'.cell? ⟨(aR.add (p.toNat * 3)).block, (aR.add (p.toNat * 3)).off + 2, none⟩ = some (.slice BR (Xb (XQ D L) p).f2.length bR)) (ds := []) XoP zb9 rfl rfl ⟨cc LW2.out x0, cc LW2.out x1, cc LW2.out x2, cc LW2.out x3, cc LW2.out x4, cc LW2.out YD.out.1, cc LW2.out YD.out.2.1, cc LW2.out YD.out.2.2, cc LW2.out YM.out.1, cc LW2.out YM.out.2.1, cc LW2.out YM.out.2.2, cc LW2.out YR.out.1, cc LW2.out YR.out.2.1, cc LW2.out YR.out.2.2⟩ (fun hHeld => ?_); refine XV Xj.Xca Xj.CJ (fun HT_ HW_ => ?_)
               generalize wr.drew = w20 at LW2 hHeld ⊢; clear z0 z1 z2 z3 z4 LW; refine pu 0 79 Xbk HT_ ?_; refine tk 1 80 Xbl HT_ HW_ hHeld ?_; refine pu 2 81 Xbm HT_ ?_; refine pu 3 82 Xbn HT_ ?_; refine pu 4 83 Xbo HT_ ?_; refine tk 5 84 Xbp HT_ HW_ hHeld ?_; refine pu 6 85 Xbq HT_ ?_; refine tk 7 86 Xbr HT_ HW_ hHeld ?_; refine pu 8 87 Xbs HT_ ?_; refine pu 9 88 Xbt HT_ ?_; refine pu 10 89 Xbu HT_ ?_; refine tk 11 90 Xbv HT_ HW_ hHeld ?_; refine pu 12 91 Xbw HT_ ?_; refine pn 13 92 Xbx HT_ ?_; refine pn 14 93 Xby HT_ ?_; refine pn 15 94 Xbz HT_ ?_; refine pn 16 95 Xb0 HT_ ?_; refine pn 17 96 Xb1 HT_ ?_; refine pn 18 97 Xb2 HT_ ?_; refine pn 19 98 Xb3 HT_ ?_; refine pn 20 99 Xb4 HT_ ?_; refine pn 21 100 Xb5 HT_ ?_; refine pn 22 101 Xb6 HT_ ?_; refine pn 23 102 Xb7 HT_ ?_; refine pn 24 103 Xb8 HT_ ?_; refine pu 25 104 Xb9 HT_ ?_; refine pu 26 105 XbA HT_ ?_; refine pu 27 106 XbB HT_ ?_; refine pu 28 107 XbC HT_ ?_; refine tk 29 108 XbD HT_ HW_ hHeld ?_; refine pu 30 109 XbE HT_ ?_; refine pu 31 110 XbF HT_ ?_; refine pu 32 111 XbG HT_ ?_; refine tk 33 112 XbH HT_ HW_ hHeld ?_; refine pu 34 113 XbI HT_ ?_; refine Zy (i := 35) (N := some 114) XbJ rfl rfl (Y6 HT_.out zb9) (by decide) (fun K hK => ?_); refine YW Tryz.func47 zb9 rfl #[.slice A2 L.length c2, .int .i64 p] (by rfl) rfl rfl zb2 ?_
               with_reducible refine (X5.calls 1000 A2 c2 L p false _ (Kd.Xr CL.out LW2.out) HCL.out (hLd ▸ Ju hg2 p 1000 (by omega))).mono ?_
               rintro e w30 ⟨rfl, nd, hw⟩; refine ⟨_, rfl, ?_⟩
               have LW3 : Aside0 (Below w5.heap.size w5 w30) := ⟨zb86⟩
               clear hw nd LW2; refine hK.out _ _ ⟨cc LW3.out x0, cc LW3.out x1, cc LW3.out x2, cc LW3.out x3, cc LW3.out x4, cc LW3.out YD.out.1, cc LW3.out YD.out.2.1, cc LW3.out YD.out.2.2, cc LW3.out YM.out.1, cc LW3.out YM.out.2.1, cc LW3.out YM.out.2.2, cc LW3.out YR.out.1, cc LW3.out YR.out.2.1, cc LW3.out YR.out.2.2⟩ (fun hHeld => ?_); clear hK K; refine XZ (a' := ?_) ?_ ?_; rotate_left
               ·show Act.put _ (some 114) _ = _
                simp only [Act.put, List.setIfInBounds_toArray, List.set_cons_zero, List.set_cons_succ, X9, XK]
                rfl
               refine pu 36 115 XbK HT_ ?_; refine pu 37 116 XbL HT_ ?_; refine pu 38 117 XbM HT_ ?_; refine pu 39 118 XbN HT_ ?_; refine tk 40 119 XbO HT_ HW_ hHeld ?_; refine pu 41 120 XbP HT_ ?_; refine pu 42 121 XbQ HT_ ?_; refine tk 43 122 XbR HT_ HW_ hHeld ?_; refine pu 44 123 XbS HT_ ?_; refine pu 45 124 XbT HT_ ?_; refine pu 46 125 XbU HT_ ?_; refine tk 47 126 XbV HT_ HW_ hHeld ?_; refine Zy (i := 48) (N := some 127) XbW rfl rfl (Y6 HT_.out zb9) (by decide) (fun K hK => ?_); refine YW Tryz.func46 zb9 rfl #[.agg #[.int .i64 (Xb M p).f0, .int .i64 (Xb M p).f1, .slice BM (Xb M p).f2.length bM], .agg #[.int .i64 (Xb (XQ D L) p).f0, .int .i64 (Xb (XQ D L) p).f1, .slice BR (Xb (XQ D L) p).f2.length bR]] (by rfl) rfl rfl zb2 ?_
               with_reducible refine (YV.calls 40 (Xb M p).f0 (Xb M p).f1 BM bM (Xb M p).f2 (Xb (XQ D L) p).f0 (Xb (XQ D L) p).f1 BR bR (Xb (XQ D L) p).f2 true _ (Kd.Xr IM.out LW3.out) JM.out (Kd.Xr IR.out LW3.out) JR.out (hSm ▸ Qn okM.out okR.out 40 (by omega))).mono ?_
               rintro e w40 ⟨rfl, hb⟩; refine ⟨_, rfl, ?_⟩; have LW4 := zz (Xc LW3.out hb); clear hb LW3; refine hK.out _ _ ⟨cc LW4.out x0, cc LW4.out x1, cc LW4.out x2, cc LW4.out x3, cc LW4.out x4, cc LW4.out YD.out.1, cc LW4.out YD.out.2.1, cc LW4.out YD.out.2.2, cc LW4.out YM.out.1, cc LW4.out YM.out.2.1, cc LW4.out YM.out.2.2, cc LW4.out YR.out.1, cc LW4.out YR.out.2.1, cc LW4.out YR.out.2.2⟩ (fun hHeld => ?_); clear hK K; refine XZ (a' := ?_) ?_ ?_; rotate_left
               ·show Act.put _ (some 127) _ = _
                simp only [Act.put, List.setIfInBounds_toArray, List.set_cons_zero, List.set_cons_succ, X9, XK]
                rfl
               refine pu 49 128 XbX HT_ ?_; refine pu 50 129 XbY HT_ ?_; refine pu 51 130 XbZ HT_ ?_; refine Zl (YT HT_.out zb9) ?_; clear hHeld
               go_wp2
               go_meet
               case rel => exact ⟨false, rfl, ⟨(fun h => absurd h (by simp))⟩, ⟨fun _ => ⟨c1c, fun h => absurd h (by simp), fun _ _ => hSm⟩⟩, LW4⟩
         case rest =>
          clear LW z0 z1 z2 z3 z4; obtain ⟨b, rfl, hb1, hb2, LW⟩ := hcut; have z0 := cc LW.out x0; have z1 := cc LW.out x1; have z2 := cc LW.out x2; have z3 := cc LW.out x3; have z4 := cc LW.out x4
          cases b with
          | true =>
           go_wp2
           go_ret
           exact ⟨by rw [Sn p.toNat (by omega) (by rw [hnp.out]; exact hb1.out (by simp))]; first | done | rfl, Xc LB5.out LW.out⟩
          | false =>
           obtain ⟨k1_, k2_, k3_⟩ := hb2.out (by simp); clear hb1 hb2
           go_upto_region 17 with (fail)
           go_cut [181] (fun v181 wc => ∃ b : Bool, v181 = .bool b ∧ Aside0 (b = true → Vy D M L s d p = false) ∧ Aside0 (b = false → d = false → Vd L p = true → DU D M L p = true ∧ ((pg M p).f1 == (pg (XQ D L) p).f1) = true) ∧ Aside0 (Below w5.heap.size w5 wc))
           case first =>
            cases d with
            | true =>
             as_aux_lemma =>
               have LW2 : Aside0 (Below w5.heap.size w5 wc.drew) := ⟨X6 LW.out⟩
               refine Y5 (n := 51) (S := fun w' => w'.cell? ⟨w.heap.size, 0, none⟩ = some (.slice (some aD) D.length c0) ∧ w'.cell? ⟨w.heap.size, 1, none⟩ = some (.slice (some aM) M.length c1) ∧ w'.cell? ⟨w.heap.size, 2, none⟩ = some (.slice A2 L.length c2) ∧ w'.cell? ⟨w.heap.size, 3, none⟩ = some (.int .i64 s) ∧ w'.cell? ⟨w.heap.size, 4, none⟩ = some (.bool true) ∧ w'.cell? (aD.add (p.toNat * 3)) = some (.int .i64 (Xb D p).f0) ∧ w'.cell? ⟨(aD.add (p.toNat * 3)).block, (aD.add (p.toNat * 3)).off + 1, none⟩ = some (.int .i64 (Xb D p).f1) ∧ w'.cell? ⟨(aD.add (p.toNat * 3)).block, (aD.add (p.toNat * 3)).off + 2, none⟩ = some (.slice BD (Xb D p).f2.length bD) ∧ w'.cell? (aM.add (p.toNat * 3)) = some (.int .i64 (Xb M p).f0) ∧ w'.cell? ⟨(aM.add (p.toNat * 3)).block, (aM.add (p.toNat * 3)).off + 1, none⟩ = some (.int .i64 (Xb M p).f1) ∧ w'.cell? ⟨(aM.add (p.toNat * 3)).block, (aM.add (p.toNat * 3)).off + 2, none⟩ = some (.slice BM (Xb M p).f2.length bM) ∧ w'.cell? (aR.add (p.toNat * 3)) = some (.int .i64 (Xb (XQ D L) p).f0) ∧ w'.cell? ⟨(aR.add (p.toNat * 3)).block, (aR.add (p.toNat * 3)).off + 1, none⟩ = some (.int .i64 (Xb (XQ D L) p).f1) ∧ w'.cell? ⟨(aR.add (p.toNat * 3)).block, (aR.add (p.toNat * 3)).off + 2, none⟩ = some (.slice BR (Xb (XQ D L) p).f2.length bR)) (ds := []) Xgg zb9 rfl rfl ⟨cc LW2.out x0, cc LW2.out x1, cc LW2.out x2, cc LW2.out x3, cc LW2.out x4, cc LW2.out YD.out.1, cc LW2.out YD.out.2.1, cc LW2.out YD.out.2.2, cc LW2.out YM.out.1, cc LW2.out YM.out.2.1, cc LW2.out YM.out.2.2, cc LW2.out YR.out.1, cc LW2.out YR.out.2.1, cc LW2.out YR.out.2.2⟩ (fun hHeld => ?_); refine XV Xj.XgI Xj.Q9 (fun HT_ HW_ => ?_)
               generalize wc.drew = w20 at LW2 hHeld ⊢; clear z0 z1 z2 z3 z4 LW; refine pu 0 131 Xgh HT_ ?_; refine tk 1 132 Xgi HT_ HW_ hHeld ?_; refine pu 2 133 Xgj HT_ ?_; refine pu 3 134 Xgk HT_ ?_; refine pn 4 135 Xgl HT_ ?_; refine pn 5 136 Xgm HT_ ?_; refine pn 6 137 Xgn HT_ ?_; refine pn 7 138 Xgo HT_ ?_; refine pn 8 139 Xgp HT_ ?_; refine pn 9 140 Xgq HT_ ?_; refine pn 10 141 Xgr HT_ ?_; refine pn 11 142 Xgs HT_ ?_; refine pn 12 143 Xgt HT_ ?_; refine pn 13 144 Xgu HT_ ?_; refine pn 14 145 Xgv HT_ ?_; refine pn 15 146 Xgw HT_ ?_; refine pn 16 147 Xgx HT_ ?_; refine pn 17 148 Xgy HT_ ?_; refine pn 18 149 Xgz HT_ ?_; refine pn 19 150 Xg0 HT_ ?_; refine pn 20 151 Xg1 HT_ ?_; refine pn 21 152 Xg2 HT_ ?_; refine pn 22 153 Xg3 HT_ ?_; refine pn 23 154 Xg4 HT_ ?_; refine pn 24 155 Xg5 HT_ ?_; refine pn 25 156 Xg6 HT_ ?_; refine pn 26 157 Xg7 HT_ ?_; refine pn 27 158 Xg8 HT_ ?_; refine pn 28 159 Xg9 HT_ ?_; refine pn 29 160 XgA HT_ ?_; refine pn 30 161 XgB HT_ ?_; refine pn 31 162 XgC HT_ ?_; refine pn 32 163 XgD HT_ ?_; refine pn 33 164 XgE HT_ ?_; refine pn 34 165 XgF HT_ ?_; refine pn 35 166 XgG HT_ ?_; refine pn 36 167 XgH HT_ ?_; refine pn 37 168 Qr HT_ ?_; refine pn 38 169 Qs HT_ ?_; refine pn 39 170 Qt HT_ ?_; refine pn 40 171 Qu HT_ ?_; refine pn 41 172 Qv HT_ ?_; refine pn 42 173 Qw HT_ ?_; refine pn 43 174 Qx HT_ ?_; refine pn 44 175 Qy HT_ ?_; refine pn 45 176 Qz HT_ ?_; refine pn 46 177 Q4 HT_ ?_; refine pn 47 178 Q5 HT_ ?_; refine pn 48 179 Q6 HT_ ?_
               refine pn 49 180 Q7 HT_ ?_; refine pu 50 181 Q8 HT_ ?_; refine Zl (YT HT_.out zb9) ?_; clear hHeld
               go_wp2
               go_meet
               case rel => exact ⟨false, rfl, ⟨(fun h => absurd h (by simp))⟩, ⟨fun _ h => absurd h (by simp)⟩, LW2⟩
            | false =>
             cases hLd : Vd L p with
             | false =>
              have hSm := k3_ rfl hLd; obtain ⟨e0, e1, e2⟩ := XoN.mp hSm; have c2b : decide ((Xb M p).f0 < (Xb D p).f0) = false := decide_eq_false (by have h_ := XoM hV.out hg2 p hp0 hp5; have h2_ : (Xb M p).f0 = (Xb (XQ D L) p).f0 := e0; change (Xb D p).f0 ≤ (Xb (XQ D L) p).f0 at h_; omega); have c3b : ((Xb M p).f1 != (Xb (XQ D L) p).f1) = false := bne_eq_false_iff_eq.mpr e1; clear e0 e1 e2
              as_aux_lemma =>
                have LW2 : Aside0 (Below w5.heap.size w5 wc.drew) := ⟨X6 LW.out⟩
                refine Y5 (n := 51) (S := fun w' => w'.cell? ⟨w.heap.size, 0, none⟩ = some (.slice (some aD) D.length c0) ∧ w'.cell? ⟨w.heap.size, 1, none⟩ = some (.slice (some aM) M.length c1) ∧ w'.cell? ⟨w.heap.size, 2, none⟩ = some (.slice A2 L.length c2) ∧ w'.cell? ⟨w.heap.size, 3, none⟩ = some (.int .i64 s) ∧ w'.cell? ⟨w.heap.size, 4, none⟩ = some (.bool false) ∧ w'.cell? (aD.add (p.toNat * 3)) = some (.int .i64 (Xb D p).f0) ∧ w'.cell? ⟨(aD.add (p.toNat * 3)).block, (aD.add (p.toNat * 3)).off + 1, none⟩ = some (.int .i64 (Xb D p).f1) ∧ w'.cell? ⟨(aD.add (p.toNat * 3)).block, (aD.add (p.toNat * 3)).off + 2, none⟩ = some (.slice BD (Xb D p).f2.length bD) ∧ w'.cell? (aM.add (p.toNat * 3)) = some (.int .i64 (Xb M p).f0) ∧ w'.cell? ⟨(aM.add (p.toNat * 3)).block, (aM.add (p.toNat * 3)).off + 1, none⟩ = some (.int .i64 (Xb M p).f1) ∧ w'.cell? ⟨(aM.add (p.toNat * 3)).block, (aM.add (p.toNat * 3)).off + 2, none⟩ = some (.slice BM (Xb M p).f2.length bM) ∧ w'.cell? (aR.add (p.toNat * 3)) = some (.int .i64 (Xb (XQ D L) p).f0) ∧ w'.cell? ⟨(aR.add (p.toNat * 3)).block, (aR.add (p.toNat * 3)).off + 1, none⟩ = some (.int .i64 (Xb (XQ D L) p).f1) ∧ w'.cell? ⟨(aR.add (p.toNat * 3)).block, (aR.add (p.toNat * 3)).off + 2, none⟩ = some (.slice BR (Xb (XQ D L) p).f2.length bR)) (ds := []) Xgg zb9 rfl rfl ⟨cc LW2.out x0, cc LW2.out x1, cc LW2.out x2, cc LW2.out x3, cc LW2.out x4, cc LW2.out YD.out.1, cc LW2.out YD.out.2.1, cc LW2.out YD.out.2.2, cc LW2.out YM.out.1, cc LW2.out YM.out.2.1, cc LW2.out YM.out.2.2, cc LW2.out YR.out.1, cc LW2.out YR.out.2.1, cc LW2.out YR.out.2.2⟩ (fun hHeld => ?_); refine XV Xj.XgI Xj.Q9 (fun HT_ HW_ => ?_)
                generalize wc.drew = w20 at LW2 hHeld ⊢; clear z0 z1 z2 z3 z4 LW; refine pu 0 131 Xgh HT_ ?_; refine tk 1 132 Xgi HT_ HW_ hHeld ?_; refine pu 2 133 Xgj HT_ ?_; refine pu 3 134 Xgk HT_ ?_; refine pu 4 135 Xgl HT_ ?_; refine tk 5 136 Xgm HT_ HW_ hHeld ?_; refine pu 6 137 Xgn HT_ ?_; refine Zy (i := 7) (N := some 138) Xgo rfl rfl (Y6 HT_.out zb9) (by decide) (fun K hK => ?_); refine YW Tryz.func47 zb9 rfl #[.slice A2 L.length c2, .int .i64 p] (by rfl) rfl rfl zb2 ?_
                with_reducible refine (X5.calls 1000 A2 c2 L p false _ (Kd.Xr CL.out LW2.out) HCL.out (hLd ▸ Ju hg2 p 1000 (by omega))).mono ?_
                rintro e w30 ⟨rfl, nd, hw⟩; refine ⟨_, rfl, ?_⟩
                have LW3 : Aside0 (Below w5.heap.size w5 w30) := ⟨zb86⟩
                clear hw nd LW2; refine hK.out _ _ ⟨cc LW3.out x0, cc LW3.out x1, cc LW3.out x2, cc LW3.out x3, cc LW3.out x4, cc LW3.out YD.out.1, cc LW3.out YD.out.2.1, cc LW3.out YD.out.2.2, cc LW3.out YM.out.1, cc LW3.out YM.out.2.1, cc LW3.out YM.out.2.2, cc LW3.out YR.out.1, cc LW3.out YR.out.2.1, cc LW3.out YR.out.2.2⟩ (fun hHeld => ?_); clear hK K; refine XZ (a' := ?_) ?_ ?_; rotate_left
                ·show Act.put _ (some 138) _ = _
                 simp only [Act.put, List.setIfInBounds_toArray, List.set_cons_zero, List.set_cons_succ, X9, XK]
                 rfl
                refine pu 8 139 Xgp HT_ ?_; refine pu 9 140 Xgq HT_ ?_; refine pu 10 141 Xgr HT_ ?_; refine tk 11 142 Xgs HT_ HW_ hHeld ?_; refine pu 12 143 Xgt HT_ ?_; refine pu 13 144 Xgu HT_ ?_; refine pu 14 145 Xgv HT_ ?_; refine tk 15 146 Xgw HT_ HW_ hHeld ?_; refine pu 16 147 Xgx HT_ ?_; refine tk 17 148 Xgy HT_ HW_ hHeld ?_; refine pu 18 149 Xgz HT_ ?_; refine pu 19 150 Xg0 HT_ ?_; refine pu 20 151 Xg1 HT_ ?_; refine tk 21 152 Xg2 HT_ HW_ hHeld ?_; refine pu 22 153 Xg3 HT_ ?_; refine pu 23 154 Xg4 HT_ ?_; refine pu 24 155 Xg5 HT_ ?_; refine pu 25 156 Xg6 HT_ ?_; refine tk 26 157 Xg7 HT_ HW_ hHeld ?_; refine pu 27 158 Xg8 HT_ ?_; refine Zy (i := 28) (N := some 159) Xg9 rfl rfl (Y6 HT_.out zb9) (by decide) (fun K hK => ?_); refine YW Tryz.func47 zb9 rfl #[.slice A2 L.length c2, .int .i64 p] (by rfl) rfl rfl zb2 ?_
                with_reducible refine (X5.calls 1000 A2 c2 L p false _ (Kd.Xr CL.out LW3.out) HCL.out (hLd ▸ Ju hg2 p 1000 (by omega))).mono ?_
                rintro e w40 ⟨rfl, nd, hw⟩; refine ⟨_, rfl, ?_⟩
                have LW4 : Aside0 (Below w5.heap.size w5 w40) := ⟨zb124⟩
                clear hw nd LW3; refine hK.out _ _ ⟨cc LW4.out x0, cc LW4.out x1, cc LW4.out x2, cc LW4.out x3, cc LW4.out x4, cc LW4.out YD.out.1, cc LW4.out YD.out.2.1, cc LW4.out YD.out.2.2, cc LW4.out YM.out.1, cc LW4.out YM.out.2.1, cc LW4.out YM.out.2.2, cc LW4.out YR.out.1, cc LW4.out YR.out.2.1, cc LW4.out YR.out.2.2⟩ (fun hHeld => ?_); clear hK K; refine XZ (a' := ?_) ?_ ?_; rotate_left
                ·show Act.put _ (some 159) _ = _
                 simp only [Act.put, List.setIfInBounds_toArray, List.set_cons_zero, List.set_cons_succ, X9, XK]
                 rfl
                refine pu 29 160 XgA HT_ ?_; refine pn 30 161 XgB HT_ ?_; refine pn 31 162 XgC HT_ ?_; refine pn 32 163 XgD HT_ ?_; refine pn 33 164 XgE HT_ ?_; refine pu 34 165 XgF HT_ ?_; refine pu 35 166 XgG HT_ ?_; refine pu 36 167 XgH HT_ ?_; refine pu 37 168 Qr HT_ ?_; refine tk 38 169 Qs HT_ HW_ hHeld ?_; refine pu 39 170 Qt HT_ ?_; refine pu 40 171 Qu HT_ ?_; refine pu 41 172 Qv HT_ ?_; refine tk 42 173 Qw HT_ HW_ hHeld ?_; refine pu 43 174 Qx HT_ ?_; refine pu 44 175 Qy HT_ ?_; refine pu 45 176 Qz HT_ ?_; refine pu 46 177 Q4 HT_ ?_; refine tk 47 178 Q5 HT_ HW_ hHeld ?_; refine pu 48 179 Q6 HT_ ?_; refine pu 49 180 Q7 HT_ ?_; refine pu 50 181 Q8 HT_ ?_; refine Zl (YT HT_.out zb9) ?_; clear hHeld
                go_wp2
                go_meet
                case rel => exact ⟨false, rfl, ⟨(fun h => absurd h (by simp))⟩, ⟨fun _ _ h => absurd h (by rw [hLd]; simp)⟩, LW4⟩
             | true =>
              cases hFr : DU D M L p with
              | false =>
               as_aux_lemma =>
                 have LW2 : Aside0 (Below w5.heap.size w5 wc.drew) := ⟨X6 LW.out⟩
                 refine Y5 (n := 51) (S := fun w' => w'.cell? ⟨w.heap.size, 0, none⟩ = some (.slice (some aD) D.length c0) ∧ w'.cell? ⟨w.heap.size, 1, none⟩ = some (.slice (some aM) M.length c1) ∧ w'.cell? ⟨w.heap.size, 2, none⟩ = some (.slice A2 L.length c2) ∧ w'.cell? ⟨w.heap.size, 3, none⟩ = some (.int .i64 s) ∧ w'.cell? ⟨w.heap.size, 4, none⟩ = some (.bool false) ∧ w'.cell? (aD.add (p.toNat * 3)) = some (.int .i64 (Xb D p).f0) ∧ w'.cell? ⟨(aD.add (p.toNat * 3)).block, (aD.add (p.toNat * 3)).off + 1, none⟩ = some (.int .i64 (Xb D p).f1) ∧ w'.cell? ⟨(aD.add (p.toNat * 3)).block, (aD.add (p.toNat * 3)).off + 2, none⟩ = some (.slice BD (Xb D p).f2.length bD) ∧ w'.cell? (aM.add (p.toNat * 3)) = some (.int .i64 (Xb M p).f0) ∧ w'.cell? ⟨(aM.add (p.toNat * 3)).block, (aM.add (p.toNat * 3)).off + 1, none⟩ = some (.int .i64 (Xb M p).f1) ∧ w'.cell? ⟨(aM.add (p.toNat * 3)).block, (aM.add (p.toNat * 3)).off + 2, none⟩ = some (.slice BM (Xb M p).f2.length bM) ∧ w'.cell? (aR.add (p.toNat * 3)) = some (.int .i64 (Xb (XQ D L) p).f0) ∧ w'.cell? ⟨(aR.add (p.toNat * 3)).block, (aR.add (p.toNat * 3)).off + 1, none⟩ = some (.int .i64 (Xb (XQ D L) p).f1) ∧ w'.cell? ⟨(aR.add (p.toNat * 3)).block, (aR.add (p.toNat * 3)).off + 2, none⟩ = some (.slice BR (Xb (XQ D L) p).f2.length bR)) (ds := []) Xgg zb9 rfl rfl ⟨cc LW2.out x0, cc LW2.out x1, cc LW2.out x2, cc LW2.out x3, cc LW2.out x4, cc LW2.out YD.out.1, cc LW2.out YD.out.2.1, cc LW2.out YD.out.2.2, cc LW2.out YM.out.1, cc LW2.out YM.out.2.1, cc LW2.out YM.out.2.2, cc LW2.out YR.out.1, cc LW2.out YR.out.2.1, cc LW2.out YR.out.2.2⟩ (fun hHeld => ?_); refine XV Xj.XgI Xj.Q9 (fun HT_ HW_ => ?_)
                 generalize wc.drew = w20 at LW2 hHeld ⊢; clear z0 z1 z2 z3 z4 LW; refine pu 0 131 Xgh HT_ ?_; refine tk 1 132 Xgi HT_ HW_ hHeld ?_; refine pu 2 133 Xgj HT_ ?_; refine pu 3 134 Xgk HT_ ?_; refine pu 4 135 Xgl HT_ ?_; refine tk 5 136 Xgm HT_ HW_ hHeld ?_; refine pu 6 137 Xgn HT_ ?_; refine Zy (i := 7) (N := some 138) Xgo rfl rfl (Y6 HT_.out zb9) (by decide) (fun K hK => ?_); refine YW Tryz.func47 zb9 rfl #[.slice A2 L.length c2, .int .i64 p] (by rfl) rfl rfl zb2 ?_
                 with_reducible refine (X5.calls 1000 A2 c2 L p true _ (Kd.Xr CL.out LW2.out) HCL.out (hLd ▸ Ju hg2 p 1000 (by omega))).mono ?_
                 rintro e w30 ⟨rfl, nd, hw⟩; refine ⟨_, rfl, ?_⟩
                 have LW3 : Aside0 (Below w5.heap.size w5 w30) := ⟨zb86⟩
                 clear hw nd LW2; refine hK.out _ _ ⟨cc LW3.out x0, cc LW3.out x1, cc LW3.out x2, cc LW3.out x3, cc LW3.out x4, cc LW3.out YD.out.1, cc LW3.out YD.out.2.1, cc LW3.out YD.out.2.2, cc LW3.out YM.out.1, cc LW3.out YM.out.2.1, cc LW3.out YM.out.2.2, cc LW3.out YR.out.1, cc LW3.out YR.out.2.1, cc LW3.out YR.out.2.2⟩ (fun hHeld => ?_); clear hK K; refine XZ (a' := ?_) ?_ ?_; rotate_left
                 ·show Act.put _ (some 138) _ = _
                  simp only [Act.put, List.setIfInBounds_toArray, List.set_cons_zero, List.set_cons_succ, X9, XK]
                  rfl
                 refine pu 8 139 Xgp HT_ ?_; refine pu 9 140 Xgq HT_ ?_; refine pn 10 141 Xgr HT_ ?_; refine pn 11 142 Xgs HT_ ?_; refine pn 12 143 Xgt HT_ ?_; refine pn 13 144 Xgu HT_ ?_; refine pn 14 145 Xgv HT_ ?_; refine pn 15 146 Xgw HT_ ?_; refine pn 16 147 Xgx HT_ ?_; refine pn 17 148 Xgy HT_ ?_; refine pn 18 149 Xgz HT_ ?_; refine pn 19 150 Xg0 HT_ ?_; refine pn 20 151 Xg1 HT_ ?_; refine pn 21 152 Xg2 HT_ ?_; refine pn 22 153 Xg3 HT_ ?_; refine pu 23 154 Xg4 HT_ ?_; refine pu 24 155 Xg5 HT_ ?_; refine pu 25 156 Xg6 HT_ ?_; refine tk 26 157 Xg7 HT_ HW_ hHeld ?_; refine pu 27 158 Xg8 HT_ ?_; refine Zy (i := 28) (N := some 159) Xg9 rfl rfl (Y6 HT_.out zb9) (by decide) (fun K hK => ?_); refine YW Tryz.func47 zb9 rfl #[.slice A2 L.length c2, .int .i64 p] (by rfl) rfl rfl zb2 ?_
                 with_reducible refine (X5.calls 1000 A2 c2 L p true _ (Kd.Xr CL.out LW3.out) HCL.out (hLd ▸ Ju hg2 p 1000 (by omega))).mono ?_
                 rintro e w40 ⟨rfl, nd, hw⟩; refine ⟨_, rfl, ?_⟩
                 have LW4 : Aside0 (Below w5.heap.size w5 w40) := ⟨zb124⟩
                 clear hw nd LW3; refine hK.out _ _ ⟨cc LW4.out x0, cc LW4.out x1, cc LW4.out x2, cc LW4.out x3, cc LW4.out x4, cc LW4.out YD.out.1, cc LW4.out YD.out.2.1, cc LW4.out YD.out.2.2, cc LW4.out YM.out.1, cc LW4.out YM.out.2.1, cc LW4.out YM.out.2.2, cc LW4.out YR.out.1, cc LW4.out YR.out.2.1, cc LW4.out YR.out.2.2⟩ (fun hHeld => ?_); clear hK K; refine XZ (a' := ?_) ?_ ?_; rotate_left
                 ·show Act.put _ (some 159) _ = _
                  simp only [Act.put, List.setIfInBounds_toArray, List.set_cons_zero, List.set_cons_succ, X9, XK]
                  rfl
                 refine pu 29 160 XgA HT_ ?_; refine tk 30 161 XgB HT_ HW_ hHeld ?_; refine pu 31 162 XgC HT_ ?_; refine Zy (i := 32) (N := some 163) XgD rfl rfl (Y6 HT_.out zb9) (by decide) (fun K hK => ?_); refine YW Tryz.func48 zb9 rfl #[.agg #[.slice (some aD) D.length c0, .slice (some aM) M.length c1, .slice A2 L.length c2, .int .i64 s, .bool false], .int .i64 p] (by rfl) rfl rfl zb2 ?_
                 with_reducible refine (Zb.calls 1000 (some aD) c0 D (some aM) c1 M A2 c2 L s false p false _ (Kd.Xr CD.out LW4.out) HCD.out (Kd.Xr CM.out LW4.out) HCM.out (Kd.Xr CL.out LW4.out) HCL.out (hFr ▸ PI hV.out hVM.out hg2 okD.out okM.out hp0 hp5 s false 1000 (by omega))).mono ?_
                 rintro e w50 ⟨rfl, hb⟩; refine ⟨_, rfl, ?_⟩; have LW5 := zz (Xc LW4.out hb); clear hb LW4; refine hK.out _ _ ⟨cc LW5.out x0, cc LW5.out x1, cc LW5.out x2, cc LW5.out x3, cc LW5.out x4, cc LW5.out YD.out.1, cc LW5.out YD.out.2.1, cc LW5.out YD.out.2.2, cc LW5.out YM.out.1, cc LW5.out YM.out.2.1, cc LW5.out YM.out.2.2, cc LW5.out YR.out.1, cc LW5.out YR.out.2.1, cc LW5.out YR.out.2.2⟩ (fun hHeld => ?_); clear hK K; refine XZ (a' := ?_) ?_ ?_; rotate_left
                 ·show Act.put _ (some 163) _ = _
                  simp only [Act.put, List.setIfInBounds_toArray, List.set_cons_zero, List.set_cons_succ, X9, XK]
                  rfl
                 refine pu 33 164 XgE HT_ ?_; refine pu 34 165 XgF HT_ ?_; refine pu 35 166 XgG HT_ ?_; refine pu 36 167 XgH HT_ ?_; refine pn 37 168 Qr HT_ ?_; refine pn 38 169 Qs HT_ ?_; refine pn 39 170 Qt HT_ ?_; refine pn 40 171 Qu HT_ ?_; refine pn 41 172 Qv HT_ ?_; refine pn 42 173 Qw HT_ ?_; refine pn 43 174 Qx HT_ ?_; refine pn 44 175 Qy HT_ ?_; refine pn 45 176 Qz HT_ ?_; refine pn 46 177 Q4 HT_ ?_; refine pn 47 178 Q5 HT_ ?_; refine pn 48 179 Q6 HT_ ?_; refine pu 49 180 Q7 HT_ ?_; refine pu 50 181 Q8 HT_ ?_; refine Zl (YT HT_.out zb9) ?_; clear hHeld
                 go_wp2
                 go_meet
                 case rel => exact ⟨true, rfl, ⟨fun _ => by unfold Vy; rw [if_neg (by simp), hLd, if_pos rfl, hFr]; simp⟩, ⟨(fun h => absurd h (by simp))⟩, LW5⟩
              | true =>
               cases c3b : ((Xb M p).f1 != (Xb (XQ D L) p).f1) with
               | true =>
                as_aux_lemma =>
                  have LW2 : Aside0 (Below w5.heap.size w5 wc.drew) := ⟨X6 LW.out⟩
                  refine Y5 (n := 51) (S := fun w' => w'.cell? ⟨w.heap.size, 0, none⟩ = some (.slice (some aD) D.length c0) ∧ w'.cell? ⟨w.heap.size, 1, none⟩ = some (.slice (some aM) M.length c1) ∧ w'.cell? ⟨w.heap.size, 2, none⟩ = some (.slice A2 L.length c2) ∧ w'.cell? ⟨w.heap.size, 3, none⟩ = some (.int .i64 s) ∧ w'.cell? ⟨w.heap.size, 4, none⟩ = some (.bool false) ∧ w'.cell? (aD.add (p.toNat * 3)) = some (.int .i64 (Xb D p).f0) ∧ w'.cell? ⟨(aD.add (p.toNat * 3)).block, (aD.add (p.toNat * 3)).off + 1, none⟩ = some (.int .i64 (Xb D p).f1) ∧ w'.cell? ⟨(aD.add (p.toNat * 3)).block, (aD.add (p.toNat * 3)).off + 2, none⟩ = some (.slice BD (Xb D p).f2.length bD) ∧ w'.cell? (aM.add (p.toNat * 3)) = some (.int .i64 (Xb M p).f0) ∧ w'.cell? ⟨(aM.add (p.toNat * 3)).block, (aM.add (p.toNat * 3)).off + 1, none⟩ = some (.int .i64 (Xb M p).f1) ∧ w'.cell? ⟨(aM.add (p.toNat * 3)).block, (aM.add (p.toNat * 3)).off + 2, none⟩ = some (.slice BM (Xb M p).f2.length bM) ∧ w'.cell? (aR.add (p.toNat * 3)) = some (.int .i64 (Xb (XQ D L) p).f0) ∧ w'.cell? ⟨(aR.add (p.toNat * 3)).block, (aR.add (p.toNat * 3)).off + 1, none⟩ = some (.int .i64 (Xb (XQ D L) p).f1) ∧ w'.cell? ⟨(aR.add (p.toNat * 3)).block, (aR.add (p.toNat * 3)).off + 2, none⟩ = some (.slice BR (Xb (XQ D L) p).f2.length bR)) (ds := []) Xgg zb9 rfl rfl ⟨cc LW2.out x0, cc LW2.out x1, cc LW2.out x2, cc LW2.out x3, cc LW2.out x4, cc LW2.out YD.out.1, cc LW2.out YD.out.2.1, cc LW2.out YD.out.2.2, cc LW2.out YM.out.1, cc LW2.out YM.out.2.1, cc LW2.out YM.out.2.2, cc LW2.out YR.out.1, cc LW2.out YR.out.2.1, cc LW2.out YR.out.2.2⟩ (fun hHeld => ?_); refine XV Xj.XgI Xj.Q9 (fun HT_ HW_ => ?_)
                  generalize wc.drew = w20 at LW2 hHeld ⊢; clear z0 z1 z2 z3 z4 LW; refine pu 0 131 Xgh HT_ ?_; refine tk 1 132 Xgi HT_ HW_ hHeld ?_; refine pu 2 133 Xgj HT_ ?_; refine pu 3 134 Xgk HT_ ?_; refine pu 4 135 Xgl HT_ ?_; refine tk 5 136 Xgm HT_ HW_ hHeld ?_; refine pu 6 137 Xgn HT_ ?_; refine Zy (i := 7) (N := some 138) Xgo rfl rfl (Y6 HT_.out zb9) (by decide) (fun K hK => ?_); refine YW Tryz.func47 zb9 rfl #[.slice A2 L.length c2, .int .i64 p] (by rfl) rfl rfl zb2 ?_
                  with_reducible refine (X5.calls 1000 A2 c2 L p true _ (Kd.Xr CL.out LW2.out) HCL.out (hLd ▸ Ju hg2 p 1000 (by omega))).mono ?_
                  rintro e w30 ⟨rfl, nd, hw⟩; refine ⟨_, rfl, ?_⟩
                  have LW3 : Aside0 (Below w5.heap.size w5 w30) := ⟨zb86⟩
                  clear hw nd LW2; refine hK.out _ _ ⟨cc LW3.out x0, cc LW3.out x1, cc LW3.out x2, cc LW3.out x3, cc LW3.out x4, cc LW3.out YD.out.1, cc LW3.out YD.out.2.1, cc LW3.out YD.out.2.2, cc LW3.out YM.out.1, cc LW3.out YM.out.2.1, cc LW3.out YM.out.2.2, cc LW3.out YR.out.1, cc LW3.out YR.out.2.1, cc LW3.out YR.out.2.2⟩ (fun hHeld => ?_); clear hK K; refine XZ (a' := ?_) ?_ ?_; rotate_left
                  ·show Act.put _ (some 138) _ = _
                   simp only [Act.put, List.setIfInBounds_toArray, List.set_cons_zero, List.set_cons_succ, X9, XK]
                   rfl
                  refine pu 8 139 Xgp HT_ ?_; refine pu 9 140 Xgq HT_ ?_; refine pn 10 141 Xgr HT_ ?_; refine pn 11 142 Xgs HT_ ?_; refine pn 12 143 Xgt HT_ ?_; refine pn 13 144 Xgu HT_ ?_; refine pn 14 145 Xgv HT_ ?_; refine pn 15 146 Xgw HT_ ?_; refine pn 16 147 Xgx HT_ ?_; refine pn 17 148 Xgy HT_ ?_; refine pn 18 149 Xgz HT_ ?_; refine pn 19 150 Xg0 HT_ ?_; refine pn 20 151 Xg1 HT_ ?_; refine pn 21 152 Xg2 HT_ ?_; refine pn 22 153 Xg3 HT_ ?_; refine pu 23 154 Xg4 HT_ ?_; refine pu 24 155 Xg5 HT_ ?_; refine pu 25 156 Xg6 HT_ ?_; refine tk 26 157 Xg7 HT_ HW_ hHeld ?_; refine pu 27 158 Xg8 HT_ ?_; refine Zy (i := 28) (N := some 159) Xg9 rfl rfl (Y6 HT_.out zb9) (by decide) (fun K hK => ?_); refine YW Tryz.func47 zb9 rfl #[.slice A2 L.length c2, .int .i64 p] (by rfl) rfl rfl zb2 ?_
                  with_reducible refine (X5.calls 1000 A2 c2 L p true _ (Kd.Xr CL.out LW3.out) HCL.out (hLd ▸ Ju hg2 p 1000 (by omega))).mono ?_
                  rintro e w40 ⟨rfl, nd, hw⟩; refine ⟨_, rfl, ?_⟩
                  have LW4 : Aside0 (Below w5.heap.size w5 w40) := ⟨zb124⟩
                  clear hw nd LW3; refine hK.out _ _ ⟨cc LW4.out x0, cc LW4.out x1, cc LW4.out x2, cc LW4.out x3, cc LW4.out x4, cc LW4.out YD.out.1, cc LW4.out YD.out.2.1, cc LW4.out YD.out.2.2, cc LW4.out YM.out.1, cc LW4.out YM.out.2.1, cc LW4.out YM.out.2.2, cc LW4.out YR.out.1, cc LW4.out YR.out.2.1, cc LW4.out YR.out.2.2⟩ (fun hHeld => ?_); clear hK K; refine XZ (a' := ?_) ?_ ?_; rotate_left
                  ·show Act.put _ (some 159) _ = _
                   simp only [Act.put, List.setIfInBounds_toArray, List.set_cons_zero, List.set_cons_succ, X9, XK]
                   rfl
                  refine pu 29 160 XgA HT_ ?_; refine tk 30 161 XgB HT_ HW_ hHeld ?_; refine pu 31 162 XgC HT_ ?_; refine Zy (i := 32) (N := some 163) XgD rfl rfl (Y6 HT_.out zb9) (by decide) (fun K hK => ?_); refine YW Tryz.func48 zb9 rfl #[.agg #[.slice (some aD) D.length c0, .slice (some aM) M.length c1, .slice A2 L.length c2, .int .i64 s, .bool false], .int .i64 p] (by rfl) rfl rfl zb2 ?_
                  with_reducible refine (Zb.calls 1000 (some aD) c0 D (some aM) c1 M A2 c2 L s false p true _ (Kd.Xr CD.out LW4.out) HCD.out (Kd.Xr CM.out LW4.out) HCM.out (Kd.Xr CL.out LW4.out) HCL.out (hFr ▸ PI hV.out hVM.out hg2 okD.out okM.out hp0 hp5 s false 1000 (by omega))).mono ?_
                  rintro e w50 ⟨rfl, hb⟩; refine ⟨_, rfl, ?_⟩; have LW5 := zz (Xc LW4.out hb); clear hb LW4; refine hK.out _ _ ⟨cc LW5.out x0, cc LW5.out x1, cc LW5.out x2, cc LW5.out x3, cc LW5.out x4, cc LW5.out YD.out.1, cc LW5.out YD.out.2.1, cc LW5.out YD.out.2.2, cc LW5.out YM.out.1, cc LW5.out YM.out.2.1, cc LW5.out YM.out.2.2, cc LW5.out YR.out.1, cc LW5.out YR.out.2.1, cc LW5.out YR.out.2.2⟩ (fun hHeld => ?_); clear hK K; refine XZ (a' := ?_) ?_ ?_; rotate_left
                  ·show Act.put _ (some 163) _ = _
                   simp only [Act.put, List.setIfInBounds_toArray, List.set_cons_zero, List.set_cons_succ, X9, XK]
                   rfl
                  refine pu 33 164 XgE HT_ ?_; refine pu 34 165 XgF HT_ ?_; refine pu 35 166 XgG HT_ ?_; refine pu 36 167 XgH HT_ ?_; refine pu 37 168 Qr HT_ ?_; refine tk 38 169 Qs HT_ HW_ hHeld ?_; refine pu 39 170 Qt HT_ ?_; refine pu 40 171 Qu HT_ ?_; refine pu 41 172 Qv HT_ ?_; refine tk 42 173 Qw HT_ HW_ hHeld ?_; refine pu 43 174 Qx HT_ ?_; refine pu 44 175 Qy HT_ ?_; refine pu 45 176 Qz HT_ ?_; refine pu 46 177 Q4 HT_ ?_; refine tk 47 178 Q5 HT_ HW_ hHeld ?_; refine pu 48 179 Q6 HT_ ?_; refine pu 49 180 Q7 HT_ ?_; refine pu 50 181 Q8 HT_ ?_; refine Zl (YT HT_.out zb9) ?_; clear hHeld
                  go_wp2
                  go_meet
                  case rel => exact ⟨true, rfl, ⟨fun _ => by unfold Vy; rw [if_neg (by simp), hLd, if_pos rfl, show ((pg M p).f1 == (pg (XQ D L) p).f1) = false from by have h_ := bne_iff_ne.mp c3b; exact beq_eq_false_iff_ne.mpr h_]; simp⟩, ⟨(fun h => absurd h (by simp))⟩, LW5⟩
               | false =>
                as_aux_lemma =>
                  have LW2 : Aside0 (Below w5.heap.size w5 wc.drew) := ⟨X6 LW.out⟩
                  refine Y5 (n := 51) (S := fun w' => w'.cell? ⟨w.heap.size, 0, none⟩ = some (.slice (some aD) D.length c0) ∧ w'.cell? ⟨w.heap.size, 1, none⟩ = some (.slice (some aM) M.length c1) ∧ w'.cell? ⟨w.heap.size, 2, none⟩ = some (.slice A2 L.length c2) ∧ w'.cell? ⟨w.heap.size, 3, none⟩ = some (.int .i64 s) ∧ w'.cell? ⟨w.heap.size, 4, none⟩ = some (.bool false) ∧ w'.cell? (aD.add (p.toNat * 3)) = some (.int .i64 (Xb D p).f0) ∧ w'.cell? ⟨(aD.add (p.toNat * 3)).block, (aD.add (p.toNat * 3)).off + 1, none⟩ = some (.int .i64 (Xb D p).f1) ∧ w'.cell? ⟨(aD.add (p.toNat * 3)).block, (aD.add (p.toNat * 3)).off + 2, none⟩ = some (.slice BD (Xb D p).f2.length bD) ∧ w'.cell? (aM.add (p.toNat * 3)) = some (.int .i64 (Xb M p).f0) ∧ w'.cell? ⟨(aM.add (p.toNat * 3)).block, (aM.add (p.toNat * 3)).off + 1, none⟩ = some (.int .i64 (Xb M p).f1) ∧ w'.cell? ⟨(aM.add (p.toNat * 3)).block, (aM.add (p.toNat * 3)).off + 2, none⟩ = some (.slice BM (Xb M p).f2.length bM) ∧ w'.cell? (aR.add (p.toNat * 3)) = some (.int .i64 (Xb (XQ D L) p).f0) ∧ w'.cell? ⟨(aR.add (p.toNat * 3)).block, (aR.add (p.toNat * 3)).off + 1, none⟩ = some (.int .i64 (Xb (XQ D L) p).f1) ∧ w'.cell? ⟨(aR.add (p.toNat * 3)).block, (aR.add (p.toNat * 3)).off + 2, none⟩ = some (.slice BR (Xb (XQ D L) p).f2.length bR)) (ds := []) Xgg zb9 rfl rfl ⟨cc LW2.out x0, cc LW2.out x1, cc LW2.out x2, cc LW2.out x3, cc LW2.out x4, cc LW2.out YD.out.1, cc LW2.out YD.out.2.1, cc LW2.out YD.out.2.2, cc LW2.out YM.out.1, cc LW2.out YM.out.2.1, cc LW2.out YM.out.2.2, cc LW2.out YR.out.1, cc LW2.out YR.out.2.1, cc LW2.out YR.out.2.2⟩ (fun hHeld => ?_); refine XV Xj.XgI Xj.Q9 (fun HT_ HW_ => ?_)
                  generalize wc.drew = w20 at LW2 hHeld ⊢; clear z0 z1 z2 z3 z4 LW; refine pu 0 131 Xgh HT_ ?_; refine tk 1 132 Xgi HT_ HW_ hHeld ?_; refine pu 2 133 Xgj HT_ ?_; refine pu 3 134 Xgk HT_ ?_; refine pu 4 135 Xgl HT_ ?_; refine tk 5 136 Xgm HT_ HW_ hHeld ?_; refine pu 6 137 Xgn HT_ ?_; refine Zy (i := 7) (N := some 138) Xgo rfl rfl (Y6 HT_.out zb9) (by decide) (fun K hK => ?_); refine YW Tryz.func47 zb9 rfl #[.slice A2 L.length c2, .int .i64 p] (by rfl) rfl rfl zb2 ?_
                  with_reducible refine (X5.calls 1000 A2 c2 L p true _ (Kd.Xr CL.out LW2.out) HCL.out (hLd ▸ Ju hg2 p 1000 (by omega))).mono ?_
                  rintro e w30 ⟨rfl, nd, hw⟩; refine ⟨_, rfl, ?_⟩
                  have LW3 : Aside0 (Below w5.heap.size w5 w30) := ⟨zb86⟩
                  clear hw nd LW2; refine hK.out _ _ ⟨cc LW3.out x0, cc LW3.out x1, cc LW3.out x2, cc LW3.out x3, cc LW3.out x4, cc LW3.out YD.out.1, cc LW3.out YD.out.2.1, cc LW3.out YD.out.2.2, cc LW3.out YM.out.1, cc LW3.out YM.out.2.1, cc LW3.out YM.out.2.2, cc LW3.out YR.out.1, cc LW3.out YR.out.2.1, cc LW3.out YR.out.2.2⟩ (fun hHeld => ?_); clear hK K; refine XZ (a' := ?_) ?_ ?_; rotate_left
                  ·show Act.put _ (some 138) _ = _
                   simp only [Act.put, List.setIfInBounds_toArray, List.set_cons_zero, List.set_cons_succ, X9, XK]
                   rfl
                  refine pu 8 139 Xgp HT_ ?_; refine pu 9 140 Xgq HT_ ?_; refine pn 10 141 Xgr HT_ ?_; refine pn 11 142 Xgs HT_ ?_; refine pn 12 143 Xgt HT_ ?_; refine pn 13 144 Xgu HT_ ?_; refine pn 14 145 Xgv HT_ ?_; refine pn 15 146 Xgw HT_ ?_; refine pn 16 147 Xgx HT_ ?_; refine pn 17 148 Xgy HT_ ?_; refine pn 18 149 Xgz HT_ ?_; refine pn 19 150 Xg0 HT_ ?_; refine pn 20 151 Xg1 HT_ ?_; refine pn 21 152 Xg2 HT_ ?_; refine pn 22 153 Xg3 HT_ ?_; refine pu 23 154 Xg4 HT_ ?_; refine pu 24 155 Xg5 HT_ ?_; refine pu 25 156 Xg6 HT_ ?_; refine tk 26 157 Xg7 HT_ HW_ hHeld ?_; refine pu 27 158 Xg8 HT_ ?_; refine Zy (i := 28) (N := some 159) Xg9 rfl rfl (Y6 HT_.out zb9) (by decide) (fun K hK => ?_); refine YW Tryz.func47 zb9 rfl #[.slice A2 L.length c2, .int .i64 p] (by rfl) rfl rfl zb2 ?_
                  with_reducible refine (X5.calls 1000 A2 c2 L p true _ (Kd.Xr CL.out LW3.out) HCL.out (hLd ▸ Ju hg2 p 1000 (by omega))).mono ?_
                  rintro e w40 ⟨rfl, nd, hw⟩; refine ⟨_, rfl, ?_⟩
                  have LW4 : Aside0 (Below w5.heap.size w5 w40) := ⟨zb124⟩
                  clear hw nd LW3; refine hK.out _ _ ⟨cc LW4.out x0, cc LW4.out x1, cc LW4.out x2, cc LW4.out x3, cc LW4.out x4, cc LW4.out YD.out.1, cc LW4.out YD.out.2.1, cc LW4.out YD.out.2.2, cc LW4.out YM.out.1, cc LW4.out YM.out.2.1, cc LW4.out YM.out.2.2, cc LW4.out YR.out.1, cc LW4.out YR.out.2.1, cc LW4.out YR.out.2.2⟩ (fun hHeld => ?_); clear hK K; refine XZ (a' := ?_) ?_ ?_; rotate_left
                  ·show Act.put _ (some 159) _ = _
                   simp only [Act.put, List.setIfInBounds_toArray, List.set_cons_zero, List.set_cons_succ, X9, XK]
                   rfl
                  refine pu 29 160 XgA HT_ ?_; refine tk 30 161 XgB HT_ HW_ hHeld ?_; refine pu 31 162 XgC HT_ ?_; refine Zy (i := 32) (N := some 163) XgD rfl rfl (Y6 HT_.out zb9) (by decide) (fun K hK => ?_); refine YW Tryz.func48 zb9 rfl #[.agg #[.slice (some aD) D.length c0, .slice (some aM) M.length c1, .slice A2 L.length c2, .int .i64 s, .bool false], .int .i64 p] (by rfl) rfl rfl zb2 ?_
                  with_reducible refine (Zb.calls 1000 (some aD) c0 D (some aM) c1 M A2 c2 L s false p true _ (Kd.Xr CD.out LW4.out) HCD.out (Kd.Xr CM.out LW4.out) HCM.out (Kd.Xr CL.out LW4.out) HCL.out (hFr ▸ PI hV.out hVM.out hg2 okD.out okM.out hp0 hp5 s false 1000 (by omega))).mono ?_
                  rintro e w50 ⟨rfl, hb⟩; refine ⟨_, rfl, ?_⟩; have LW5 := zz (Xc LW4.out hb); clear hb LW4; refine hK.out _ _ ⟨cc LW5.out x0, cc LW5.out x1, cc LW5.out x2, cc LW5.out x3, cc LW5.out x4, cc LW5.out YD.out.1, cc LW5.out YD.out.2.1, cc LW5.out YD.out.2.2, cc LW5.out YM.out.1, cc LW5.out YM.out.2.1, cc LW5.out YM.out.2.2, cc LW5.out YR.out.1, cc LW5.out YR.out.2.1, cc LW5.out YR.out.2.2⟩ (fun hHeld => ?_); clear hK K; refine XZ (a' := ?_) ?_ ?_; rotate_left
                  ·show Act.put _ (some 163) _ = _
                   simp only [Act.put, List.setIfInBounds_toArray, List.set_cons_zero, List.set_cons_succ, X9, XK]
                   rfl
                  refine pu 33 164 XgE HT_ ?_; refine pu 34 165 XgF HT_ ?_; refine pu 35 166 XgG HT_ ?_; refine pu 36 167 XgH HT_ ?_; refine pu 37 168 Qr HT_ ?_; refine tk 38 169 Qs HT_ HW_ hHeld ?_; refine pu 39 170 Qt HT_ ?_; refine pu 40 171 Qu HT_ ?_; refine pu 41 172 Qv HT_ ?_; refine tk 42 173 Qw HT_ HW_ hHeld ?_; refine pu 43 174 Qx HT_ ?_; refine pu 44 175 Qy HT_ ?_; refine pu 45 176 Qz HT_ ?_; refine pu 46 177 Q4 HT_ ?_; refine tk 47 178 Q5 HT_ HW_ hHeld ?_; refine pu 48 179 Q6 HT_ ?_; refine pu 49 180 Q7 HT_ ?_; refine pu 50 181 Q8 HT_ ?_; refine Zl (YT HT_.out zb9) ?_; clear hHeld
                  go_wp2
                  go_meet
                  case rel => exact ⟨false, rfl, ⟨(fun h => absurd h (by simp))⟩, ⟨fun _ _ _ => ⟨hFr, beq_iff_eq.mpr (bne_eq_false_iff_eq.mp c3b)⟩⟩, LW5⟩
           case rest =>
            clear LW z0 z1 z2 z3 z4; obtain ⟨b, rfl, hb1, hb2, LW⟩ := hcut; have z0 := cc LW.out x0; have z1 := cc LW.out x1; have z2 := cc LW.out x2; have z3 := cc LW.out x3; have z4 := cc LW.out x4
            cases b with
            | true =>
             go_wp2
             go_ret
             exact ⟨by rw [Sn p.toNat (by omega) (by rw [hnp.out]; exact hb1.out (by simp))]; first | done | rfl, Xc LB5.out LW.out⟩
            | false =>
             have hb3 := hb2.out (by simp); clear hb1 hb2
             go_wp2
             go_loopg [7, 8] 3 (fun kq v7 v8 w' => ∃ (n tx : Int), v7 = .int .i64 n ∧ v8 = .int .i64 tx ∧ Aside0 (1 ≤ tx ∧ tx.toNat + kq = 4) ∧ Aside0 (n = (Wl L p (tx.toNat - 1) : Int)) ∧ Aside0 (0 ≤ n ∧ n + (kq : Int) ≤ 3) ∧ Aside0 (Below w5.heap.size w5 w'))
             case atStart => exact ⟨0, 1, rfl, rfl, ⟨by omega, by omega⟩, ⟨rfl⟩, ⟨by omega, by omega⟩, LW⟩
             case round =>
              clear LW z0 z1 z2 z3 z4; obtain ⟨n, tx, rfl, rfl, ht, hn, hn3, LW⟩ := hrel; have z0 := cc LW.out x0; have z1 := cc LW.out x1; have z2 := cc LW.out x2; have z3 := cc LW.out x3; have z4 := cc LW.out x4; have ht1 : 1 ≤ tx := ht.out.1
              cases gk with
              | succ k2 =>
               have qt : decide (tx ≤ 3) = true := decide_eq_true (by have := ht.out; omega)
               have ht3 : tx ≤ 3 := by have := ht.out; omega
               have hn30 : 0 ≤ n := hn3.out.1
               have hn33 : n ≤ 3 := by have := hn3.out; omega
               have hwt : wrap64 (tx + 1) = tx + 1 := T.wrap_small (by omega) (by omega); have hwt2 : IntKind.i64.wrap (tx + 1) = tx + 1 := (X9 _).trans hwt; have hwn : wrap64 (n + 1) = n + 1 := T.wrap_small (by omega) (by omega); have hwn2 : IntKind.i64.wrap (n + 1) = n + 1 := (X9 _).trans hwn
               go_wp2_with fail
               refine (Zz.calls 1000 A2 c2 L tx p (hasB L tx p) _ (Kd.Xr CL.out LW.out) HCL.out (XeC hg2 tx p 1000 (by omega))).mono ?_; rintro e w30 ⟨rfl, nd, hw⟩
               have LW3 : Aside0 (Below w5.heap.size w5 w30) := ⟨by rw [hw]; exact Yh LW.out nd⟩
               clear hw nd LW z0 z1 z2 z3 z4; have hstep := zz (Xgb L p tx ht1)
               cases hh : hasB L tx p with
               | true =>
                go_wp2
                go_roundg k2
                case measure => omega
                case rel => exact ⟨n + 1, tx + 1, rfl, rfl, ⟨by omega, by have := ht.out; omega⟩, ⟨by rw [hstep.out, hn.out, hh, if_pos rfl]; omega⟩, ⟨by omega, by have := hn3.out; omega⟩, LW3⟩
               | false =>
                go_wp2
                go_roundg k2
                case measure => omega
                case rel => exact ⟨n, tx + 1, rfl, rfl, ⟨by omega, by have := ht.out; omega⟩, ⟨by rw [hstep.out, hn.out, hh, if_neg (by simp)]; omega⟩, ⟨by omega, by have := hn3.out; omega⟩, LW3⟩
              | zero =>
               have qt : decide (tx ≤ 3) = false := decide_eq_false (by have := ht.out; omega)
               have hn4 : Aside0 (n = (Uq L p : Int)) := ⟨by rw [hn.out, show tx.toNat - 1 = 3 by have := ht.out; omega, XqK]⟩
               by_cases c5 : n > 1
               ·have c5b : decide (1 < n) = true := decide_eq_true c5
                go_wp2
                go_ret
                exact ⟨by rw [Sn p.toNat (by omega) (by rw [hnp.out]; unfold Vy; rw [decide_eq_false (show ¬ Uq L p ≤ 1 by have := hn4.out; omega)]; simp)]; first | done | rfl, Xc LB5.out LW.out⟩
               ·have c5b : decide (1 < n) = false := decide_eq_false c5
                have hwp : wrap64 (p + 1) = p + 1 := T.wrap_small (by omega) (by omega); have hwp2 : IntKind.i64.wrap (p + 1) = p + 1 := (X9 _).trans hwp
                go_wp2
                go_roundg k1
                case measure => omega
                case rel => exact ⟨p + 1, rfl, ⟨by omega, by have := hp.out; omega⟩, ⟨fun m h1 h2 => by
                 by_cases e : (m : Int) = p
                 ·rw [e]; exact XoO k1_ (by have := hn4.out; omega) k2_ k3_ hb3
                 ·exact hB.out m h1 (by omega)⟩, LW⟩
end Go.Proofs.YtphnphmbfogmlaaGreat.Pr
