/- Laws on data. -/
import Derived.Test.YtomkegeojknihaaCodeLaws3
set_option linter.unusedVariables false
set_option linter.unusedSectionVars false
set_option linter.unusedSimpArgs false
namespace Go.Proofs.Ytomkegeojknihaa.Abs
open Go Go.Proofs
open Classical

theorem primOk : PrimOk E := ⟨fun _ => rfl, fun g p h => by cases h⟩
theorem law_CodeOk {t : Code} (hw : t.wt) : CC f_l_FnExactCodeOk [.v t.enc] [] = some (.bool true, []) := by
  have hs := szCode_law t hw 1048576 (by omega) (by omega)
  have e := Code.enc_def t
  by_cases hn : (1048576 : Int) < (t.sz : Int)
  · have h1 : left 1048576 t.sz < 0 := (left_neg (by omega)).2 hn
    rw [e]
    apply go_l_FnExactCodeOk
    unfold nf_l_FnExactCodeOk
    simp only [← e, hs, Option.bind_some, asInt_int, h1, decide_true, br_true']
  · have hok : t.ok := ⟨hw, by omega⟩
    have h1 : ¬ left 1048576 t.sz < 0 := fun h => hn ((left_neg (by omega)).1 h)
    have hS := CodeOk_s hok
    have hI := CodeOk_i hok
    rw [e]
    apply go_l_FnExactCodeOk
    unfold nf_l_FnExactCodeOk
    simp only [← e, hs, Option.bind_some, asInt_int, h1, decide_false, br_false', toCode_law t hok, hS, hI, eqCode_law t hok, Code.enc_isAggN, Code.enc_cell0, Code.enc_cell1, Code.enc_cell2, Code.enc_cell3, Code.enc_cell4, Code.enc_eta, br_true', asBool_bool, asStr_str, br_not, decide_true, beq_self_eq_true, Piece.enc_eta]
theorem law_Count {t : Code} (hw : t.wt) : CC f_l_FnExactCount [.v t.enc] [] = some (.bool true, []) := by
  have hs := szCode_law t hw 1048576 (by omega) (by omega)
  have e := Code.enc_def t
  by_cases hn : (1048576 : Int) < (t.sz : Int)
  · have h1 : left 1048576 t.sz < 0 := (left_neg (by omega)).2 hn
    rw [e]
    apply go_l_FnExactCount
    unfold nf_l_FnExactCount
    simp only [← e, hs, Option.bind_some, asInt_int, h1, decide_true, br_true']
  · have hok : t.ok := ⟨hw, by omega⟩
    have h1 : ¬ left 1048576 t.sz < 0 := fun h => hn ((left_neg (by omega)).1 h)
    have hS := Count_s hok
    have hI := Count_i hok
    rw [e]
    apply go_l_FnExactCount
    unfold nf_l_FnExactCount
    simp only [← e, hs, Option.bind_some, asInt_int, h1, decide_false, br_false', toCode_law t hok, hS, hI, eqCode_law t hok, Code.enc_isAggN, Code.enc_cell0, Code.enc_cell1, Code.enc_cell2, Code.enc_cell3, Code.enc_cell4, Code.enc_eta, br_true', asBool_bool, asStr_str, br_not, decide_true, beq_self_eq_true, Piece.enc_eta]
end Go.Proofs.Ytomkegeojknihaa.Abs
