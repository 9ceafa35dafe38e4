/- A part. -/
import Derived.Test.YtegbnddjgifcdaaGreatDoorTyFns
set_option linter.unusedVariables false
set_option linter.unusedSimpArgs false
set_option maxRecDepth 100000
namespace Go.Proofs.YtegbnddjgifcdaaGreatDoor.Abs
open Go Go.Proofs
end Go.Proofs.YtegbnddjgifcdaaGreatDoor.Abs
