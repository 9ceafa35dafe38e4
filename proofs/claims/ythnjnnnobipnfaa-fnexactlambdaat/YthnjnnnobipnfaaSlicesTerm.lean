/- Searching a slice of Term with a function, and comparing two. -/
import Derived.Test.YthnjnnnobipnfaaDataTerm
import Derived.Test.YthnjnnnobipnfaaD1Eqs
set_option linter.unusedVariables false
set_option linter.unusedSectionVars false
set_option linter.unusedSimpArgs false
namespace Go.Proofs.Ythnjnnnobipnfaa.Abs
open Go Go.Proofs

end Go.Proofs.Ythnjnnnobipnfaa.Abs
