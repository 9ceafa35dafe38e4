/- A part. -/
import Derived.Test.YtegbnddjgifcdaaGreatDoorDataTerm
import Derived.Test.YtegbnddjgifcdaaGreatDoorC1Eqs
set_option linter.unusedVariables false
set_option linter.unusedSectionVars false
set_option linter.unusedSimpArgs false
namespace Go.Proofs.YtegbnddjgifcdaaGreatDoor.Abs
open Go Go.Proofs
end Go.Proofs.YtegbnddjgifcdaaGreatDoor.Abs
