/- Laws on data. -/
import Derived.Test.YtomkegeojknihaaDoorTyText
set_option linter.unusedVariables false
set_option linter.unusedSectionVars false
set_option linter.unusedSimpArgs false
namespace Go.Proofs.YtomkegeojknihaaDoor.Abs
open Go Go.Proofs
open Classical

theorem primOk : PrimOk E := ⟨fun _ => rfl, fun g p hg => by
  revert hg
  show (match g with | 38 => some xItoa | 32 => some xJoin | _ => none) = some p → _
  split
  · intro hg args pbs ret hr; cases hg; exact xItoa_ok hr
  · intro hg args pbs ret hr; cases hg; exact xJoin_ok hr
  · intro hg; cases hg⟩
theorem law_TyText {t : Ty} (hw : t.wt) : CC f_l_FnExactTyText [.v t.enc] [] = some (.bool true, []) := by
  have hs := szTy_law t hw 1048576 (by omega) (by omega)
  have e := Ty.enc_def t
  by_cases hn : (1048576 : Int) < (t.sz : Int)
  · have h1 : left 1048576 t.sz < 0 := (left_neg (by omega)).2 hn
    rw [e]
    apply go_l_FnExactTyText
    unfold nf_l_FnExactTyText
    simp only [← e, hs, Option.bind_some, asInt_int, h1, decide_true, br_true']
  · have hok : t.ok := ⟨hw, by omega⟩
    have h1 : ¬ left 1048576 t.sz < 0 := fun h => hn ((left_neg (by omega)).1 h)
    have hS := TyText_s hok
    have hI := TyText_i hok
    rw [e]
    apply go_l_FnExactTyText
    unfold nf_l_FnExactTyText
    simp only [← e, hs, Option.bind_some, asInt_int, h1, decide_false, br_false', toTy_law t hok, hS, hI, eqTy_law t hok, Ty.enc_isAggN, Ty.enc_cell0, Ty.enc_cell1, Ty.enc_cell2, Ty.enc_eta, br_true', asBool_bool, asStr_str, br_not, decide_true, beq_self_eq_true]
end Go.Proofs.YtomkegeojknihaaDoor.Abs
