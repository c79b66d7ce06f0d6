/- FnExactConstants of the program answers as the reference does, whatever is given: the pure part of the proof. No condition. -/
import Derived.Test.YtndondallbkkgaaPFnExactConstantsx0
import Derived.Test.YtndondallbkkgaaPFnExactConstantsx1
import Derived.Test.YtndondallbkkgaaMath
set_option linter.unusedVariables false
set_option linter.unusedSimpArgs false
namespace Go.Proofs.Ytndondallbkkgaa.Pure
open Go.RowKit Go.Proofs.Ytndondallbkkgaa.PFnExactConstants Go.Proofs.YtndondallbkkgaaW.PrintWords Go.Proofs.YtndondallbkkgaaW.PrintLast Go.Proofs.YtndondallbkkgaaW.PrintMore Go.Proofs.Ytndondallbkkgaa.Math

/-! laws_FnExactConstants -/
theorem FnExactConstants : laws_FnExactConstants.Pure := rfl

end Go.Proofs.Ytndondallbkkgaa.Pure
