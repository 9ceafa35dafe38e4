/- The functions that are not entered do as their laws say. -/
import Derived.Test.YtbimglfmmmlicaaQ2Eqs
import Derived.Test.YtbimglfmmmlicaaLib
set_option linter.unusedVariables false
namespace Go.Proofs.Ytbimglfmmmlicaa.Abs
open Go Go.Proofs

theorem primOk : PrimOk E := by
  refine ⟨fun _ => rfl, fun g p hg args pbs ret hr => ?_⟩
  unfold E at hg
  simp only at hg
  split at hg
  · cases hg; exact xSort_ok hr
  · cases hg; exact xCompact_ok hr
  · cases hg; exact xClone_ok hr
  · cases hg; exact xContains_ok hr
  · cases hg
end Go.Proofs.Ytbimglfmmmlicaa.Abs
