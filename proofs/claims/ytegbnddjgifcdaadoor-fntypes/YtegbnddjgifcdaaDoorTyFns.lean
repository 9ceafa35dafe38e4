/- Types: what is made of them, and their sizes. -/
import Derived.Test.YtegbnddjgifcdaaDoorData
import Derived.Test.YtegbnddjgifcdaaDoorT1Eqs
set_option linter.unusedVariables false
set_option linter.unusedSectionVars false
set_option linter.unusedSimpArgs false
namespace Go.Proofs.YtegbnddjgifcdaaDoor.Abs
open Go Go.Proofs
end Go.Proofs.YtegbnddjgifcdaaDoor.Abs
