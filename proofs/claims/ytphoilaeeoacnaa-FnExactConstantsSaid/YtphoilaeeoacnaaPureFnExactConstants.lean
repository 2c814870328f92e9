/- Proved here: the program's Constants has the values of the reference: every exported constant is compared and is right. No conditions. -/
import Derived.Test.YtphoilaeeoacnaaPFnExactConstantsx1
namespace Go.Proofs.Ytphoilaeeoacnaa.Pure
open Go.RowKit Go.Proofs.Ytphoilaeeoacnaa.PFnExactConstants Go.Proofs.YtphoilaeeoacnaaW.PrintWords Go.Proofs.YtphoilaeeoacnaaW.PrintLast

/-- YOURS: laws_FnExactConstants.f  = some true
What it reaches (each with k first where it has rounds; `.mono`: more rounds tell the same; `.l0`, ..: its loops, with `.mono_l`): laws_FnExactConstants.f -/
theorem FnExactConstants : laws_FnExactConstants.Pure := by
  rfl

end Go.Proofs.Ytphoilaeeoacnaa.Pure
