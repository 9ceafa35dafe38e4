/- The law FnExactBinders on data. -/
import Derived.Test.YtbimglfmmmlicaaBinders
import Derived.Test.YtbimglfmmmlicaaTermMark
import Derived.Test.YtbimglfmmmlicaaStrsFns
set_option linter.unusedVariables false
set_option linter.unusedSimpArgs false
set_option maxRecDepth 100000
namespace Go.Proofs.Ytbimglfmmmlicaa.Abs
open Go Go.Proofs
open Classical
theorem primOk : PrimOk E := ⟨fun _ => rfl, fun g p h => by cases h⟩
theorem plain_strs : ∀ l : List (List UInt8), plainL (l.map CVal.str) = true
  | [] => rfl
  | s :: l => by simp [plainL, CVal.plain, plain_strs l]
theorem law_Binders {t : Term} (hw : t.wt) : CC f_l_FnExactBinders [.v t.enc] [] = some (.bool true, []) := by
  have hs := szTerm_law t hw 1048576 (by omega) (by omega)
  have e := Term.enc_def t
  by_cases hn : (1048576 : Int) < (t.sz : Int)
  · have h1 : left 1048576 t.sz < 0 := (left_neg (by omega)).2 hn
    rw [e]
    apply go_l_FnExactBinders
    unfold nf_l_FnExactBinders
    simp only [← e, hs, Option.bind_some, asInt_int, h1, decide_true, br_true']
  · have hok : t.ok := ⟨hw, by omega⟩
    have h1 : ¬ left 1048576 t.sz < 0 := fun h => hn ((left_neg (by omega)).1 h)
    have hS := Binders_s hok
    have hI := Binders_i hok
    have hlen := binders_len t
    have hT := toTerm_law t hok
    have hE1 := eqTerm_law t hok
    have hE2 := eqStringS_law (l := t.binders) (by omega)
    have b1 := numTm_sz t
    have b2 := hok.2
    have m1 := markTerm_law hok 1 (by omega) (by omega)
    have m2 := markStringS_law (l := t.binders) (by omega) 1 (by omega) (by omega)
    have m3 := heldStringS_law t.binders.length (by omega) 1 (by omega) (by omega)
    have hp : CVal.plain (.sl (t.binders.map .str)) = true := by simp [CVal.plain, plain_strs]
    have n1 : ¬ (1 + (numTL t.t.a : Int) + (numTL t.ts : Int) + (numTmL t.a : Int) < 0) := by omega
    have n2 : ¬ (1 + (t.binders.length : Int) < 0) := by omega
    rw [e]
    apply go_l_FnExactBinders
    unfold nf_l_FnExactBinders
    simp only [← e, hs, hT, hS, hI, Option.bind_some, asInt_int, h1, decide_true, decide_false, br_true', br_false', List.getElem?_cons_zero, List.getElem?_cons_succ, Term.enc_isAggN, Term.enc_cell0, Term.enc_cell1, Term.enc_cell2, Term.enc_cell3, Term.enc_cell4, Term.enc_cell5, Term.enc_cell6, Term.enc_cell7, Term.enc_cell8, asSl_sl, isFlat_sl, Term.enc_eta, hp, Bool.not_true, hE1, hE2, scalar_bool, scalar_int, asBool_bool, m1, m2, m3, n1, n2]
end Go.Proofs.Ytbimglfmmmlicaa.Abs
