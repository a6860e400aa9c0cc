/- The program's Constants law returns true: no condition. -/
import Derived.Test.YtkofpnbacgccnaaPFnExactConstantsx1
namespace Go.Proofs.Ytkofpnbacgccnaa.Pure
open Go.RowKit Go.Proofs.Ytkofpnbacgccnaa.PFnExactConstants Go.Proofs.YtkofpnbacgccnaaW.PrintWords Go.Proofs.YtkofpnbacgccnaaW.PrintLast

theorem FnExactConstants : laws_FnExactConstants.Pure := rfl

end Go.Proofs.Ytkofpnbacgccnaa.Pure
