/- Values. -/
import Derived.Test.YtdbgiclddcphfaaTermFns
set_option linter.unusedVariables false
set_option linter.unusedSectionVars false
set_option linter.unusedSimpArgs false
namespace Go.Proofs.Ytdbgiclddcphfaa.Abs
open Go Go.Proofs

def isValueB (k : Int) : Bool := decide (k = 1) || (decide (k = 2) || (decide (k = 3) || (decide (k = 4) || decide (k = 12))))
theorem or_step' {a b : Bool} : (br a (some (true, PUnit.unit)) (some (b, PUnit.unit)) : Option (Bool × PUnit)) = some (a || b, PUnit.unit) := by cases a <;> rfl
theorem isValue_i (t : Term) : CC f_i_isValue [.v t.enc] [] = some (.bool (isValueB t.k), []) := by
  rw [Term.enc_def]
  apply go_i_isValue
  unfold nf_i_isValue isValueB
  simp only [or_step', Option.bind_some]
theorem IsValue_i {t : Term} (hok : t.ok) : CC f_i_IsValue [.v t.enc] [] = some (.bool (isValueB t.k), []) := by
  have h := isValue_i t
  rw [Term.enc_def]
  apply go_i_IsValue
  unfold nf_i_IsValue
  simp only [Term.enc_eta, h, Option.bind_some]
theorem IsValue_s {t : Term} (hok : t.ok) : CC f_s_IsValue [.v t.enc] [] = some (.bool (isValueB t.k), []) := by
  rw [Term.enc_def]
  apply go_s_IsValue
  unfold nf_s_IsValue isValueB
  simp only [or_step', Option.bind_some]
end Go.Proofs.Ytdbgiclddcphfaa.Abs
