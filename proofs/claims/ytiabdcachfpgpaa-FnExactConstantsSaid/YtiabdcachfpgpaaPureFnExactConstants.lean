/- The program's constants are those of the document; no condition. -/
import Derived.Test.YtiabdcachfpgpaaPFnExactConstantsx1
import Derived.Test.YtiabdcachfpgpaaBase
namespace Go.Proofs.Ytiabdcachfpgpaa.Pure
open Go.RowKit Go.Proofs.Ytiabdcachfpgpaa.PFnExactConstants Go.Proofs.Ytiabdcachfpgpaa.Base Go.Proofs.YtiabdcachfpgpaaW.PrintWords Go.Proofs.YtiabdcachfpgpaaW.PrintLast
set_option linter.unusedVariables false
set_option linter.unusedSimpArgs false

theorem FnExactConstants : laws_FnExactConstants.Pure := rfl

end Go.Proofs.Ytiabdcachfpgpaa.Pure
