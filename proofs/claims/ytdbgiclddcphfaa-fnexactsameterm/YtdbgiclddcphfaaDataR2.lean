/- Laws on data. -/
import Derived.Test.YtdbgiclddcphfaaValueLaws
import Derived.Test.YtdbgiclddcphfaaGuardLaws
import Derived.Test.YtdbgiclddcphfaaTermAny
import Derived.Test.YtdbgiclddcphfaaPieceFns
import Derived.Test.YtdbgiclddcphfaaTermSame
set_option linter.unusedVariables false
set_option linter.unusedSectionVars false
set_option linter.unusedSimpArgs false
namespace Go.Proofs.Ytdbgiclddcphfaa.Abs
open Go Go.Proofs
open Classical

theorem primOk : PrimOk E := fun g p h => by cases h
theorem law_IsValue {t : Term} (hw : t.wt) : CC f_l_FnExactIsValue [.v t.enc] [] = some (.bool true, []) := by
  have hs := szTerm_law t hw 1048576 (by omega) (by omega)
  have e := Term.enc_def t
  by_cases hn : (1048576 : Int) < (t.sz : Int)
  · have h1 : left 1048576 t.sz < 0 := (left_neg (by omega)).2 hn
    rw [e]
    apply go_l_FnExactIsValue
    unfold nf_l_FnExactIsValue
    simp only [← e, hs, Option.bind_some, asInt_int, h1, decide_true, br_true']
  · have hok : t.ok := ⟨hw, by omega⟩
    have h1 : ¬ left 1048576 t.sz < 0 := fun h => hn ((left_neg (by omega)).1 h)
    have hS := IsValue_s hok
    have hI := IsValue_i hok
    rw [e]
    apply go_l_FnExactIsValue
    unfold nf_l_FnExactIsValue
    simp only [← e, hs, Option.bind_some, asInt_int, h1, decide_false, br_false', toTerm_law t hok, hS, hI, eqTerm_law t hok, Term.enc_isAggN, Term.enc_cell0, Term.enc_cell1, Term.enc_cell2, Term.enc_cell3, Term.enc_cell4, Term.enc_cell5, Term.enc_cell6, Term.enc_cell7, Term.enc_cell8, Term.enc_eta, br_true', asBool_bool, asStr_str, br_not, decide_true, beq_self_eq_true, Ty.enc_eta]
theorem law_Guard {t : Piece} (hw : t.wt) {n0 : Int} (_ : i64 n0) : CC f_l_FnExactGuard [.v t.enc, .v (.int .i64 n0)] [] = some (.bool true, []) := by
  have hs := szPiece_law t hw 1048576 (by omega) (by omega)
  have e := Piece.enc_def t
  by_cases hn : (1048576 : Int) < (t.sz : Int)
  · have h1 : left 1048576 t.sz < 0 := (left_neg (by omega)).2 hn
    rw [e]
    apply go_l_FnExactGuard
    unfold nf_l_FnExactGuard
    simp only [← e, hs, Option.bind_some, asInt_int, h1, decide_true, br_true']
  · have hok : t.ok := ⟨hw, by omega⟩
    have h1 : ¬ left 1048576 t.sz < 0 := fun h => hn ((left_neg (by omega)).1 h)
    have hS := Guard_s hok n0
    have hI := Guard_i hok n0
    rw [e]
    apply go_l_FnExactGuard
    unfold nf_l_FnExactGuard
    simp only [← e, hs, Option.bind_some, asInt_int, h1, decide_false, br_false', toPiece_law t hok, hS, hI, eqPiece_law t hok, Piece.enc_isAggN, Piece.enc_cell0, Piece.enc_cell1, Piece.enc_cell2, Piece.enc_cell3, Piece.enc_eta, br_true', asBool_bool, asStr_str, br_not, decide_true, beq_self_eq_true]
theorem law_TermOk {t : Term} (hw : t.wt) : CC f_l_FnExactTermOk [.v t.enc] [] = some (.bool true, []) := by
  have hs := szTerm_law t hw 1048576 (by omega) (by omega)
  have e := Term.enc_def t
  by_cases hn : (1048576 : Int) < (t.sz : Int)
  · have h1 : left 1048576 t.sz < 0 := (left_neg (by omega)).2 hn
    rw [e]
    apply go_l_FnExactTermOk
    unfold nf_l_FnExactTermOk
    simp only [← e, hs, Option.bind_some, asInt_int, h1, decide_true, br_true']
  · have hok : t.ok := ⟨hw, by omega⟩
    have h1 : ¬ left 1048576 t.sz < 0 := fun h => hn ((left_neg (by omega)).1 h)
    have hS := TermOk_s hok
    have hI := TermOk_i hok
    rw [e]
    apply go_l_FnExactTermOk
    unfold nf_l_FnExactTermOk
    simp only [← e, hs, Option.bind_some, asInt_int, h1, decide_false, br_false', toTerm_law t hok, hS, hI, eqTerm_law t hok, Term.enc_isAggN, Term.enc_cell0, Term.enc_cell1, Term.enc_cell2, Term.enc_cell3, Term.enc_cell4, Term.enc_cell5, Term.enc_cell6, Term.enc_cell7, Term.enc_cell8, Term.enc_eta, br_true', asBool_bool, asStr_str, br_not, decide_true, beq_self_eq_true, Ty.enc_eta]
theorem law_NodesOf {t : Term} (hw : t.wt) : CC f_l_FnExactNodesOf [.v t.enc] [] = some (.bool true, []) := by
  have hs := szTerm_law t hw 1048576 (by omega) (by omega)
  have e := Term.enc_def t
  by_cases hn : (1048576 : Int) < (t.sz : Int)
  · have h1 : left 1048576 t.sz < 0 := (left_neg (by omega)).2 hn
    rw [e]
    apply go_l_FnExactNodesOf
    unfold nf_l_FnExactNodesOf
    simp only [← e, hs, Option.bind_some, asInt_int, h1, decide_true, br_true']
  · have hok : t.ok := ⟨hw, by omega⟩
    have h1 : ¬ left 1048576 t.sz < 0 := fun h => hn ((left_neg (by omega)).1 h)
    have hS := NodesOf_s hok
    have hI := NodesOf_i hok
    rw [e]
    apply go_l_FnExactNodesOf
    unfold nf_l_FnExactNodesOf
    simp only [← e, hs, Option.bind_some, asInt_int, h1, decide_false, br_false', toTerm_law t hok, hS, hI, eqTerm_law t hok, Term.enc_isAggN, Term.enc_cell0, Term.enc_cell1, Term.enc_cell2, Term.enc_cell3, Term.enc_cell4, Term.enc_cell5, Term.enc_cell6, Term.enc_cell7, Term.enc_cell8, Term.enc_eta, br_true', asBool_bool, asStr_str, br_not, decide_true, beq_self_eq_true, Ty.enc_eta]
theorem law_VarsOf {t : Ty} (hw : t.wt) : CC f_l_FnExactVarsOf [.v t.enc] [] = some (.bool true, []) := by
  have hs := szTy_law t hw 1048576 (by omega) (by omega)
  have e := Ty.enc_def t
  by_cases hn : (1048576 : Int) < (t.sz : Int)
  · have h1 : left 1048576 t.sz < 0 := (left_neg (by omega)).2 hn
    rw [e]
    apply go_l_FnExactVarsOf
    unfold nf_l_FnExactVarsOf
    simp only [← e, hs, Option.bind_some, asInt_int, h1, decide_true, br_true']
  · have hok : t.ok := ⟨hw, by omega⟩
    have h1 : ¬ left 1048576 t.sz < 0 := fun h => hn ((left_neg (by omega)).1 h)
    have hS := VarsOf_s hok
    have hI := VarsOf_i hok
    rw [e]
    apply go_l_FnExactVarsOf
    unfold nf_l_FnExactVarsOf
    simp only [← e, hs, Option.bind_some, asInt_int, h1, decide_false, br_false', toTy_law t hok, hS, hI, eqTy_law t hok, Ty.enc_isAggN, Ty.enc_cell0, Ty.enc_cell1, Ty.enc_cell2, Ty.enc_eta, br_true', asBool_bool, asStr_str, br_not, decide_true, beq_self_eq_true]
theorem law_Ground {t : Ty} (hw : t.wt) : CC f_l_FnExactGround [.v t.enc] [] = some (.bool true, []) := by
  have hs := szTy_law t hw 1048576 (by omega) (by omega)
  have e := Ty.enc_def t
  by_cases hn : (1048576 : Int) < (t.sz : Int)
  · have h1 : left 1048576 t.sz < 0 := (left_neg (by omega)).2 hn
    rw [e]
    apply go_l_FnExactGround
    unfold nf_l_FnExactGround
    simp only [← e, hs, Option.bind_some, asInt_int, h1, decide_true, br_true']
  · have hok : t.ok := ⟨hw, by omega⟩
    have h1 : ¬ left 1048576 t.sz < 0 := fun h => hn ((left_neg (by omega)).1 h)
    have hS := Ground_s hok
    have hI := Ground_i hok
    rw [e]
    apply go_l_FnExactGround
    unfold nf_l_FnExactGround
    simp only [← e, hs, Option.bind_some, asInt_int, h1, decide_false, br_false', toTy_law t hok, hS, hI, eqTy_law t hok, Ty.enc_isAggN, Ty.enc_cell0, Ty.enc_cell1, Ty.enc_cell2, Ty.enc_eta, br_true', asBool_bool, asStr_str, br_not, decide_true, beq_self_eq_true]
theorem law_IsMono {t : Term} (hw : t.wt) : CC f_l_FnExactIsMono [.v t.enc] [] = some (.bool true, []) := by
  have hs := szTerm_law t hw 1048576 (by omega) (by omega)
  have e := Term.enc_def t
  by_cases hn : (1048576 : Int) < (t.sz : Int)
  · have h1 : left 1048576 t.sz < 0 := (left_neg (by omega)).2 hn
    rw [e]
    apply go_l_FnExactIsMono
    unfold nf_l_FnExactIsMono
    simp only [← e, hs, Option.bind_some, asInt_int, h1, decide_true, br_true']
  · have hok : t.ok := ⟨hw, by omega⟩
    have h1 : ¬ left 1048576 t.sz < 0 := fun h => hn ((left_neg (by omega)).1 h)
    have hS := IsMono_s hok
    have hI := IsMono_i hok
    rw [e]
    apply go_l_FnExactIsMono
    unfold nf_l_FnExactIsMono
    simp only [← e, hs, Option.bind_some, asInt_int, h1, decide_false, br_false', toTerm_law t hok, hS, hI, eqTerm_law t hok, Term.enc_isAggN, Term.enc_cell0, Term.enc_cell1, Term.enc_cell2, Term.enc_cell3, Term.enc_cell4, Term.enc_cell5, Term.enc_cell6, Term.enc_cell7, Term.enc_cell8, Term.enc_eta, br_true', asBool_bool, asStr_str, br_not, decide_true, beq_self_eq_true, Ty.enc_eta]
end Go.Proofs.Ytdbgiclddcphfaa.Abs
