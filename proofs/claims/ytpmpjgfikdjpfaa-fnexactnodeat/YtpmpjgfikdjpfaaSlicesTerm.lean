/- Searching a slice of Term with a function, and comparing two. -/
import Derived.Test.YtpmpjgfikdjpfaaDataTerm
import Derived.Test.YtpmpjgfikdjpfaaN1Eqs
set_option linter.unusedVariables false
set_option linter.unusedSectionVars false
set_option linter.unusedSimpArgs false
namespace Go.Proofs.Ytpmpjgfikdjpfaa.Abs
open Go Go.Proofs

end Go.Proofs.Ytpmpjgfikdjpfaa.Abs
