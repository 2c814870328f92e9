/- Proved here: the program's PageNew returns what the reference's returns, in new memory. No conditions. -/
import Derived.Test.YtphoilaeeoacnaaPFnExactPageNewx1
namespace Go.Proofs.Ytphoilaeeoacnaa.Pure
open Go.RowKit Go.Proofs.Ytphoilaeeoacnaa.PFnExactPageNew Go.Proofs.YtphoilaeeoacnaaW.PrintWords Go.Proofs.YtphoilaeeoacnaaW.PrintLast

/-- YOURS: ∃ k, laws_FnExactPageNew.f k  = some true
What it reaches (each with k first where it has rounds; `.mono`: more rounds tell the same; `.l0`, ..: its loops, with `.mono_l`): spec_PageNew.f, impl_PageNew.f, laws_eqIntS.f, laws_eqPage.f, laws_markIntS.f, laws_markPage.f, laws_heldIntS.f, laws_heldPage.f, laws_FnExactPageNew.f -/
theorem FnExactPageNew : laws_FnExactPageNew.Pure := by
  exact ⟨8, by decide +kernel⟩

end Go.Proofs.Ytphoilaeeoacnaa.Pure
