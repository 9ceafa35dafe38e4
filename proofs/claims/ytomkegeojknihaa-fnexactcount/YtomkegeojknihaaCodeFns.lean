/- Code: what is made of it, and its size. -/
import Derived.Test.YtomkegeojknihaaDataCode
import Derived.Test.YtomkegeojknihaaU1Eqs
import Derived.Test.YtomkegeojknihaaPieceFns
set_option linter.unusedVariables false
set_option linter.unusedSectionVars false
set_option linter.unusedSimpArgs false
namespace Go.Proofs.Ytomkegeojknihaa.Abs
open Go Go.Proofs

def SzCode (t : Code) : Prop := ∀ l : Int, 0 ≤ l → l ≤ 1048576 → CC f_l_szCode [.v t.enc, .v (.int .i64 l)] [] = some (.int .i64 (left l t.sz), [])
theorem szCode_law : ∀ t : Code, t.wt → SzCode t := fun t hw l h0 h1 => by
  have hw := (Code.wt_def t).1 hw
  have hsz := Code.sz_def t
  rw [Code.enc_def]
  apply go_l_szCode
  unfold nf_l_szCode
  have c0 := szPieceS_law (hw.1).1 (fun u hu => szPiece_law u ((hw.1).2 u hu)) (l) (by omega) (by omega)
  simp only [c0, Option.bind_some, asInt_int]
  by_cases g0 : l < (((t.funs.length + Piece.szL t.funs) : Nat) : Int)
  · rw [show decide (left (l) (t.funs.length + Piece.szL t.funs) < 0) = true from decide_eq_true ((left_neg (by omega)).2 g0), br_true']
    have : left l t.sz = -1 := by unfold left; rw [if_pos (by omega)]
    rw [this]
  rw [show decide (left (l) (t.funs.length + Piece.szL t.funs) < 0) = false from decide_eq_false (fun hc => g0 ((left_neg (by omega)).1 hc)), br_false', left_ok g0]
  have c1 := szPiece_law t.main (hw.2) ((l - (((t.funs.length + Piece.szL t.funs) : Nat) : Int))) (by omega) (by omega)
  simp only [Piece.enc_eta, c1, Option.bind_some, asInt_int]
  by_cases g1 : (l - (((t.funs.length + Piece.szL t.funs) : Nat) : Int)) < ((t.main.sz : Nat) : Int)
  · rw [show decide (left ((l - (((t.funs.length + Piece.szL t.funs) : Nat) : Int))) t.main.sz < 0) = true from decide_eq_true ((left_neg (by omega)).2 g1), br_true']
    have : left l t.sz = -1 := by unfold left; rw [if_pos (by omega)]
    rw [this]
  rw [show decide (left ((l - (((t.funs.length + Piece.szL t.funs) : Nat) : Int))) t.main.sz < 0) = false from decide_eq_false (fun hc => g1 ((left_neg (by omega)).1 hc)), br_false', left_ok g1]
  have : left l t.sz = ((l - (((t.funs.length + Piece.szL t.funs) : Nat) : Int)) - ((t.main.sz : Nat) : Int)) := by unfold left; rw [if_neg (by omega)]; omega
  rw [this]
theorem toCode_law : ∀ t : Code, t.ok → CC f_l_toCode [.v t.enc] [] = some (t.enc, []) := fun t hok => by
  have h0 := toPieceS_law hok.funs_len (fun u hu => toPiece_law u (hok.funs hu))
  have h1 := toPiece_law t.main hok.main
  rw [Code.enc_def]
  apply go_l_toCode
  unfold nf_l_toCode
  simp only [h0, h1, Option.bind_some, isFlat_sl, Bool.and_true, br_true', Piece.enc_eta, Piece.enc_isAggN, Piece.enc_fits, Piece.enc_cell0, Piece.enc_cell1, Piece.enc_cell2, Piece.enc_cell3]
theorem eqCode_law : ∀ t : Code, t.ok → CC f_l_eqCode [.v t.enc, .v t.enc] [] = some (.bool true, []) := fun t hok => by
  have h0 := eqPieceS_law hok.funs_len (fun u hu => eqPiece_law u (hok.funs hu))
  have h1 := eqPiece_law t.main hok.main
  rw [Code.enc_def]
  apply go_l_eqCode
  unfold nf_l_eqCode
  simp only [h0, h1, Option.bind_some, decide_true, Bool.not_true, br_false', br_true', asBool_bool, Piece.enc_eta]
end Go.Proofs.Ytomkegeojknihaa.Abs
