/- FnExactTermText on data. -/
import Derived.Test.YtegbnddjgifcdaaDoorTermText
set_option linter.unusedVariables false
set_option linter.unusedSectionVars false
set_option linter.unusedSimpArgs false
set_option maxRecDepth 100000
namespace Go.Proofs.YtegbnddjgifcdaaDoor.Abs
open Go Go.Proofs
open Classical

theorem primOk : PrimOk E := ⟨fun _ => rfl, fun g p hg args pbs ret hr => by
  have hg : (match g with | 34 => some xJoin | 65 => some xItoa | _ => none : Option _) = some p := hg
  split at hg
  · cases hg; exact xJoin_ok hr
  · cases hg; exact xItoa_ok hr
  · cases hg⟩
theorem law_TermText {t : Term} (hw : t.wt) : CC f_l_FnExactTermText [.v t.enc] [] = some (.bool true, []) := by
  have hs := szTerm_law t hw 1048576 (by omega) (by omega)
  have e := Term.enc_def t
  by_cases hn : (1048576 : Int) < (t.sz : Int)
  · have h1 : left 1048576 t.sz < 0 := (left_neg (by omega)).2 hn
    rw [e]
    apply go_l_FnExactTermText
    unfold nf_l_FnExactTermText
    simp only [← e, hs, Option.bind_some, asInt_int, h1, decide_true, br_true']
  · have hok : t.ok := ⟨hw, by omega⟩
    have h1 : ¬ left 1048576 t.sz < 0 := fun h => hn ((left_neg (by omega)).1 h)
    obtain ⟨v, hS, hI⟩ : ∃ v : List UInt8, CC f_s_TermText [.v t.enc] [] = some (.str v, []) ∧ CC f_i_TermText [.v t.enc] [] = some (.str v, []) := ⟨_, TermText_s hok, TermText_i hok⟩
    have hT := toTerm_law t hok
    have hE1 := eqTerm_law t hok
    rw [e]
    apply go_l_FnExactTermText
    unfold nf_l_FnExactTermText
    simp only [← e, hs, hT, hS, hI, Option.bind_some, asInt_int, h1, decide_true, decide_false, br_true', br_false', Term.enc_isAggN, Term.enc_cell0, Term.enc_cell1, Term.enc_cell2, Term.enc_cell3, Term.enc_cell4, Term.enc_cell5, Term.enc_cell6, Term.enc_cell7, Term.enc_cell8, asSl_sl, isFlat_sl, Term.enc_eta, Bool.not_true, hE1, scalar_bool, scalar_str, asBool_bool, asStr_str]
end Go.Proofs.YtegbnddjgifcdaaDoor.Abs
