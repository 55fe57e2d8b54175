/- The law FnExactConstants returns true (its printed function does, at no argument). -/
import Derived.Test.YtkfolpcmehmmlaaPFnExactConstantsx1
import Derived.Test.YtkfolpcmehmmlaaKit
namespace Go.Proofs.Ytkfolpcmehmmlaa.Pure
open Go.RowKit Go.Proofs.Ytkfolpcmehmmlaa.PFnExactConstants Go.Proofs.YtkfolpcmehmmlaaW.PrintWords Go.Proofs.YtkfolpcmehmmlaaW.PrintLast Go.Proofs.YtkfolpcmehmmlaaW.PrintMore Go.Proofs.Ytkfolpcmehmmlaa.Kit
set_option linter.unusedVariables false
set_option linter.unusedSimpArgs false

theorem FnExactConstants : laws_FnExactConstants.Pure := rfl

end Go.Proofs.Ytkfolpcmehmmlaa.Pure
