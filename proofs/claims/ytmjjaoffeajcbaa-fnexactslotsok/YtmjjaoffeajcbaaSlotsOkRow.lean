/- The law FnExactSlotsOk on data. -/
import Derived.Test.YtmjjaoffeajcbaaSlotsOkLaw
set_option linter.unusedVariables false
set_option linter.unusedSimpArgs false
set_option linter.unusedSectionVars false
set_option maxRecDepth 100000
namespace Go.Proofs.Ytmjjaoffeajcbaa.Abs
open Go Go.Proofs

theorem law_SlotsOk {t : Piece} (hw : t.wt) {S : List Int} (hv : S.length ≤ maxLen ∧ ∀ i ∈ S, i64 i) : CC f_l_FnExactSlotsOk [.v t.enc, .v (.sl (S.map (.int .i64)))] [] = some (.bool true, []) := by
  have hs := szPiece_law t hw 1048576 (by omega) (by omega)
  have e := Piece.enc_def t
  by_cases hb : (1048576 : Int) < (S.length : Int)
  · rw [e]
    apply go_l_FnExactSlotsOk
    unfold nf_l_FnExactSlotsOk
    simp only [← e, hs, Option.bind_some, asInt_int, List.length_map, hb, decide_true, br_true', br_self]
  by_cases hn : (1048576 : Int) < (t.sz : Int)
  · have h1 : left 1048576 t.sz < 0 := (left_neg (by omega)).2 hn
    rw [e]
    apply go_l_FnExactSlotsOk
    unfold nf_l_FnExactSlotsOk
    simp only [← e, hs, Option.bind_some, asInt_int, List.length_map, hb, h1, decide_true, decide_false, br_true', br_false', br_self]
  · have hok : t.ok := ⟨hw, by omega⟩
    have h1 : ¬ left 1048576 t.sz < 0 := fun h => hn ((left_neg (by omega)).1 h)
    have hll : S.length ≤ 1048576 := by omega
    have hT := toPiece_law t hok
    have hT2 := toIntS_law hll
    have hE1 := eqPiece_law t hok
    have hE2 := eqIntS_law hll
    obtain ⟨o, hI, hS⟩ := SlotsOk_both hok hll
    have q : ∀ b : Bool, (!b == b) = false := fun b => by cases b <;> rfl
    have hae : CVal.agg [.int .i64 t.lam, .int .i64 t.inn, .int .i64 t.regs, .sl (t.ins.map Ins.enc)] = t.enc := Piece.enc_eta t
    rw [e]
    apply go_l_FnExactSlotsOk
    unfold nf_l_FnExactSlotsOk
    simp only [← e, hs, hT, hT2, hS, Option.bind_some, asInt_int, List.length_map, hb, h1, decide_false, br_false', Piece.enc_isAggN, Piece.enc_cell0, Piece.enc_cell1, Piece.enc_cell2, Piece.enc_cell3, asSl_sl, isFlat_sl, br_true', scalar_bool, Bool.not_true, asBool_bool]
    simp only [hae, hI, hS, hE1, hE2, Option.bind_some, scalar_bool, Bool.not_true, br_false', br_true', asBool_bool, q, asSl_sl, isFlat_sl, beq_self_eq_true]
end Go.Proofs.Ytmjjaoffeajcbaa.Abs
