/- The law FnExactLiveOk on data. -/
import Derived.Test.YtmjjaoffeajcbaaLiveOkLaw2
set_option linter.unusedVariables false
set_option linter.unusedSimpArgs false
set_option maxRecDepth 100000
namespace Go.Proofs.Ytmjjaoffeajcbaa.Abs
open Go Go.Proofs

/-- Lists that there can be. -/
def wtSS (l : List (List Int)) : Prop := l.length ≤ maxLen ∧ ∀ t ∈ l, t.length ≤ maxLen
theorem law_LiveOk {t : Piece} (hw : t.wt) {lv : List (List Int)} (hv : wtSS lv) : CC f_l_FnExactLiveOk [.v t.enc, .v (.sl (lv.map ei))] [] = some (.bool true, []) := by
  have hs := szPiece_law t hw 1048576 (by omega) (by omega)
  have e := Piece.enc_def t
  by_cases hn : (1048576 : Int) < (t.sz : Int)
  · have h1 : left 1048576 t.sz < 0 := (left_neg (by omega)).2 hn
    rw [e]
    apply go_l_FnExactLiveOk
    unfold nf_l_FnExactLiveOk
    simp only [← e, hs, Option.bind_some, asInt_int, h1, decide_true, br_true']
  · have hok : t.ok := ⟨hw, by omega⟩
    have h1 : ¬ left 1048576 t.sz < 0 := fun h => hn ((left_neg (by omega)).1 h)
    have hl0 := left_ok hn
    have hs2 := szIntSS_law hv.1 hv.2 (left 1048576 t.sz) (by omega) (by omega)
    by_cases hn2 : left 1048576 t.sz < ((lv.length + SzSS lv : Nat) : Int)
    · have h2 : left (left 1048576 t.sz) (lv.length + SzSS lv) < 0 := (left_neg (by omega)).2 hn2
      rw [e]
      apply go_l_FnExactLiveOk
      unfold nf_l_FnExactLiveOk
      simp only [← e, hs, Option.bind_some, asInt_int, h1, decide_false, br_false', hs2, h2, decide_true, br_true']
    · have h2 : ¬ left (left 1048576 t.sz) (lv.length + SzSS lv) < 0 := fun h => hn2 ((left_neg (by omega)).1 h)
      have hll : lv.length ≤ 1048576 := by omega
      have hlt : ∀ x ∈ lv, x.length ≤ 1048576 := fun x hx => by have := SzSS_mem hx; omega
      have hT := toPiece_law t hok
      have hT2 := toIntSS_law hll hlt
      have hE1 := eqPiece_law t hok
      have hE2 := eqIntSS_law hll hlt
      have hS := LiveOk_s hok hll hlt
      have hI := LiveOk_i hok hll hlt
      generalize (pieceB t && (decide (lv.length = t.ins.length) && (goodAll t.regs lv && rowsFrom t.regs.toNat (wantB t (lvB lv)) (lvB lv) 0 t.ins.length))) = o at hS hI
      rw [e]
      apply go_l_FnExactLiveOk
      unfold nf_l_FnExactLiveOk
      simp only [← e, hs, hs2, hT, hT2, hS, hI, Option.bind_some, asInt_int, h1, h2, decide_false, br_false', Piece.enc_isAggN, Piece.enc_cell0, Piece.enc_cell1, Piece.enc_cell2, Piece.enc_cell3, asSl_sl, br_true', scalar_bool, Bool.not_true, asBool_bool]
      have q : ∀ b : Bool, (!b == b) = false := fun b => by cases b <;> rfl
      have hae : CVal.agg [.int .i64 t.lam, .int .i64 t.inn, .int .i64 t.regs, .sl (t.ins.map Ins.enc)] = t.enc := Piece.enc_eta t
      simp only [hae, hI, hE1, hE2, Option.bind_some, scalar_bool, Bool.not_true, br_false', asBool_bool, q, beq_self_eq_true]
end Go.Proofs.Ytmjjaoffeajcbaa.Abs
