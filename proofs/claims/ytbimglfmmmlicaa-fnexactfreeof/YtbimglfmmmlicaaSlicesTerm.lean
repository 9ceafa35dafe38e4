/- Searching a slice of Term with a function, and comparing two. -/
import Derived.Test.YtbimglfmmmlicaaDataTerm
import Derived.Test.YtbimglfmmmlicaaH1Eqs
set_option linter.unusedVariables false
set_option linter.unusedSectionVars false
set_option linter.unusedSimpArgs false
namespace Go.Proofs.Ytbimglfmmmlicaa.Abs
open Go Go.Proofs

end Go.Proofs.Ytbimglfmmmlicaa.Abs
