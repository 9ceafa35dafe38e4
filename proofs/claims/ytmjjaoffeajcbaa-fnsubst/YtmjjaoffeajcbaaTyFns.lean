/- Types: what is made of them, and their sizes. -/
import Derived.Test.YtmjjaoffeajcbaaData
import Derived.Test.YtmjjaoffeajcbaaF1Eqs
set_option linter.unusedVariables false
set_option linter.unusedSectionVars false
set_option linter.unusedSimpArgs false
namespace Go.Proofs.Ytmjjaoffeajcbaa.Abs
open Go Go.Proofs
end Go.Proofs.Ytmjjaoffeajcbaa.Abs
