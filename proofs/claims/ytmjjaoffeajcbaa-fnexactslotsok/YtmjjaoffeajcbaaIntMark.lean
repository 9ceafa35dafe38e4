/- Marks in lists of numbers. -/
import Derived.Test.YtmjjaoffeajcbaaData
import Derived.Test.YtmjjaoffeajcbaaL5Eqs
set_option linter.unusedVariables false
set_option linter.unusedSimpArgs false
set_option maxRecDepth 100000
namespace Go.Proofs.Ytmjjaoffeajcbaa.Abs
open Go Go.Proofs

/-- So many marks. -/
def markIL : Nat → Int → List Int
  | 0, _ => []
  | n + 1, k => k :: markIL n (k + 1)
@[simp] theorem markIL_len : ∀ (n : Nat) (k : Int), (markIL n k).length = n
  | 0, _ => rfl
  | n + 1, k => by simp [markIL, markIL_len n]
end Go.Proofs.Ytmjjaoffeajcbaa.Abs
