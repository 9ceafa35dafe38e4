/- Reading types: the reference's way. -/
import Derived.Test.YtegbnddjgifcdaaDoorParseI
set_option linter.unusedVariables false
set_option linter.unusedSimpArgs false
set_option linter.unusedSectionVars false
set_option maxRecDepth 100000
namespace Go.Proofs.YtegbnddjgifcdaaDoor.Abs
open Go Go.Proofs
open Classical

theorem kw_cases {w : List UInt8} {k n : Int} (h : kw w = some (k, n)) : (w = [105] ∧ k = 1 ∧ n = 0) ∨ (w = [98] ∧ k = 2 ∧ n = 0) ∨ (w = [118, 48] ∧ k = 3 ∧ n = 0) ∨ (w = [118, 49] ∧ k = 3 ∧ n = 1) ∨ (w = [102] ∧ k = 4 ∧ n = 0) ∨ (w = [112] ∧ k = 5 ∧ n = 0) ∨ (w = [108] ∧ k = 6 ∧ n = 0) := by
  unfold kw at h
  repeat' split at h
  all_goals first | (cases h; done) | (simp only [Option.some.injEq, Prod.mk.injEq] at h; obtain ⟨rfl, rfl⟩ := h; subst_vars; simp)
theorem kw_none {w : List UInt8} (h : kw w = none) : w ≠ [105] ∧ w ≠ [98] ∧ w ≠ [118, 48] ∧ w ≠ [118, 49] ∧ w ≠ [102] ∧ w ≠ [112] ∧ w ≠ [108] := by
  unfold kw at h
  repeat' split at h
  all_goals first | (cases h; done) | skip
  refine ⟨?_, ?_, ?_, ?_, ?_, ?_, ?_⟩ <;> assumption
end Go.Proofs.YtegbnddjgifcdaaDoor.Abs
