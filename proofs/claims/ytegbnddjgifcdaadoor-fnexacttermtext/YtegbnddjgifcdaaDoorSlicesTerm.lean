/- Searching a slice of Term with a function, and comparing two. -/
import Derived.Test.YtegbnddjgifcdaaDoorDataTerm
import Derived.Test.YtegbnddjgifcdaaDoorU1Eqs
set_option linter.unusedVariables false
set_option linter.unusedSectionVars false
set_option linter.unusedSimpArgs false
namespace Go.Proofs.YtegbnddjgifcdaaDoor.Abs
open Go Go.Proofs

end Go.Proofs.YtegbnddjgifcdaaDoor.Abs
