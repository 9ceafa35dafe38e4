/- Copies of types: all the function's own. -/
import Derived.Test.YtegbnddjgifcdaaDoorTyFns
set_option linter.unusedVariables false
set_option linter.unusedSimpArgs false
set_option maxRecDepth 100000
namespace Go.Proofs.YtegbnddjgifcdaaDoor.Abs
open Go Go.Proofs
theorem all1_enc (t : Ty) : [t.enc].all (CVal.fits true 3) = true := by simp

end Go.Proofs.YtegbnddjgifcdaaDoor.Abs
