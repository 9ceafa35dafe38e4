/- Outcome: what is made of it, and its size. -/
import Derived.Test.YtlgonbonnjkekaaDataOutcome
import Derived.Test.YtlgonbonnjkekaaA1Eqs
set_option linter.unusedVariables false
set_option linter.unusedSectionVars false
set_option linter.unusedSimpArgs false
namespace Go.Proofs.Ytlgonbonnjkekaa.Abs
open Go Go.Proofs

def SzOutcome (t : Outcome) : Prop := ∀ l : Int, 0 ≤ l → l ≤ 1048576 → CC f_l_szOutcome [.v t.enc, .v (.int .i64 l)] [] = some (.int .i64 (left l t.sz), [])
theorem szOutcome_law : ∀ t : Outcome, t.wt → SzOutcome t := fun t hw l h0 h1 => by
  have hw := (Outcome.wt_def t).1 hw
  have hsz := Outcome.sz_def t
  rw [Outcome.enc_def]
  apply go_l_szOutcome
  unfold nf_l_szOutcome
  have w0 : IntKind.i64.wrap (l - (t.s.length : Int)) = l - (t.s.length : Int) := by
    have := hw.2.2
    unfold maxLen at this
    rw [wrap_i64] <;> omega
  rw [w0]
  by_cases g0 : l < (t.s.length : Int)
  · rw [show decide (l - (t.s.length : Int) < 0) = true from decide_eq_true (by omega), br_true']
    have : left l t.sz = -1 := by unfold left; rw [if_pos (by omega)]
    rw [this]
  rw [show decide (l - (t.s.length : Int) < 0) = false from decide_eq_false (by omega), br_false']
  have : left l t.sz = (l - (t.s.length : Int)) := by unfold left; rw [if_neg (by omega)]; omega
  rw [this]
theorem toOutcome_law : ∀ t : Outcome, t.ok → CC f_l_toOutcome [.v t.enc] [] = some (t.enc, []) := fun t hok => by
  rw [Outcome.enc_def]
  apply go_l_toOutcome
  unfold nf_l_toOutcome
  simp only [Option.bind_some, isFlat_sl, Bool.and_true, br_true']
end Go.Proofs.Ytlgonbonnjkekaa.Abs
