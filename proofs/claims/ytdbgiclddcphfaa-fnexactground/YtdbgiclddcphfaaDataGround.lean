/- The laws on types, on data. -/
import Derived.Test.YtdbgiclddcphfaaTyMore
set_option linter.unusedVariables false
set_option linter.unusedSectionVars false
set_option linter.unusedSimpArgs false
namespace Go.Proofs.Ytdbgiclddcphfaa.Abs
open Go Go.Proofs
open Classical

theorem primOk : PrimOk E := fun g p h => by cases h

theorem law_Ground {t : Ty} (hw : t.wt) : CC f_l_FnExactGround [.v t.enc] [] = some (.bool true, []) := by
  have hs := szTy_law t hw 1048576 (by omega) (by omega)
  by_cases hn : (1048576 : Int) < (t.sz : Int)
  · have h1 : left 1048576 t.sz < 0 := (left_neg (by omega)).2 hn
    rw [Ty.enc_def] at hs ⊢
    apply go_l_FnExactGround
    unfold nf_l_FnExactGround
    simp only [hs, Option.bind_some, asInt_int, h1, decide_true, br_true']
  · have hok : t.ok := ⟨hw, by omega⟩
    have h1 : ¬ left 1048576 t.sz < 0 := fun h => hn ((left_neg (by omega)).1 h)
    have h2 := toTy_law t hok
    have h3 := Ground_s hok
    have h4 := Ground_i hok
    have h5 := eqTy_law t hok
    have e := Ty.enc_def t
    rw [e]
    apply go_l_FnExactGround
    unfold nf_l_FnExactGround
    simp only [← e, hs, Option.bind_some, asInt_int, h1, decide_false, br_false', h2, h3, h4, h5, Ty.enc_isAggN, Ty.enc_cell0, Ty.enc_cell1, Ty.enc_cell2, Ty.enc_eta, br_true', asBool_bool, br_not, beq_self_eq_true]

theorem law_VarsOf {t : Ty} (hw : t.wt) : CC f_l_FnExactVarsOf [.v t.enc] [] = some (.bool true, []) := by
  have hs := szTy_law t hw 1048576 (by omega) (by omega)
  by_cases hn : (1048576 : Int) < (t.sz : Int)
  · have h1 : left 1048576 t.sz < 0 := (left_neg (by omega)).2 hn
    rw [Ty.enc_def] at hs ⊢
    apply go_l_FnExactVarsOf
    unfold nf_l_FnExactVarsOf
    simp only [hs, Option.bind_some, asInt_int, h1, decide_true, br_true']
  · have hok : t.ok := ⟨hw, by omega⟩
    have h1 : ¬ left 1048576 t.sz < 0 := fun h => hn ((left_neg (by omega)).1 h)
    have h2 := toTy_law t hok
    have h3 := VarsOf_s hok
    have h4 := VarsOf_i hok
    have h5 := eqTy_law t hok
    have e := Ty.enc_def t
    rw [e]
    apply go_l_FnExactVarsOf
    unfold nf_l_FnExactVarsOf
    simp only [← e, hs, Option.bind_some, asInt_int, h1, decide_false, br_false', h2, h3, h4, h5, Ty.enc_isAggN, Ty.enc_cell0, Ty.enc_cell1, Ty.enc_cell2, Ty.enc_eta, br_true', asBool_bool, br_not, decide_true]
end Go.Proofs.Ytdbgiclddcphfaa.Abs
