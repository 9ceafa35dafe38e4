/- Numbers as texts. -/
import Derived.Test.YthnjnnnobipnfaaInLaws
import Derived.Lib.ItoaLen
set_option linter.unusedVariables false
set_option linter.unusedSectionVars false
set_option linter.unusedSimpArgs false
namespace Go.Proofs.Ythnjnnnobipnfaa.Abs
open Go Go.Proofs

theorem itoa_len (n : Int) (h : i64 n) : (Lib.itoa n).length ≤ 21 := by
  unfold i64 at h
  exact Lib.itoa_length_le n (by omega) (by omega)
end Go.Proofs.Ythnjnnnobipnfaa.Abs
