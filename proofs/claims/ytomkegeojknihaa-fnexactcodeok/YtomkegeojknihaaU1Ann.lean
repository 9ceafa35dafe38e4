/- How the abstract machine takes the functions that laws.FnExactCodeOk, laws.FnExactCount reaches. -/
import Derived.Test.YtomkegeojknihaaOmega
import Derived.Test.YtomkegeojknihaaProg
set_option linter.unusedVariables false
set_option maxRecDepth 100000
namespace Go.Proofs.Ytomkegeojknihaa.Abs
open Go Go.Proofs
def f_l_FnExactCodeOk : FuncId := 3
def f_l_FnExactCount : FuncId := 4
def f_l_szCode : FuncId := 7
def f_l_toCode : FuncId := 9
def f_s_CodeOk : FuncId := 8
def f_i_CodeOk : FuncId := 10
def f_l_eqCode : FuncId := 11
def f_s_Count : FuncId := 12
def f_i_Count : FuncId := 13
def f_l_szPieceS : FuncId := 24
def f_l_szPiece : FuncId := 25
def f_l_toPieceS : FuncId := 28
def f_l_toPiece : FuncId := 29
def f_s_l9Piece : FuncId := 26
def f_s_l9Lams : FuncId := 27
def f_i_pieceOk : FuncId := 30
def f_i_lamsOk : FuncId := 31
def f_i_in : FuncId := 32
def f_l_eqPieceS : FuncId := 33
def f_l_eqPiece : FuncId := 34
def f_l_szInsS : FuncId := 67
def f_l_toInsS : FuncId := 70
def f_s_l1In : FuncId := 37
def f_s_l9Ins : FuncId := 68
def f_s_l9Fun : FuncId := 69
def f_i_lamOk : FuncId := 71
def f_slices_ContainsFunc_Ins : FuncId := 72
def f_i_pieceOk_1 : FuncId := 73
def f_i_lamsOk_1 : FuncId := 75
def f_l_eqInsS : FuncId := 77
def f_l_szIns : FuncId := 102
def f_l_toIns : FuncId := 105
def f_s_l9Uses : FuncId := 103
def f_s_l9Reg : FuncId := 104
def f_slices_IndexFunc_Ins : FuncId := 106
def f_i_insOk : FuncId := 74
def f_i_pieceAt : FuncId := 76
def f_l_eqIns : FuncId := 115
def f_l_szIntS : FuncId := 80
def f_l_toIntS : FuncId := 86
def f_i_insForm : FuncId := 107
def f_i_numOk : FuncId := 108
def f_i_hasPart : FuncId := 110
def f_i_fieldOk : FuncId := 109
def f_slices_ContainsFunc_int : FuncId := 111
def f_i_insOk_1 : FuncId := 112
def f_slices_IndexFunc_Piece : FuncId := 113
def f_i_pieceAt_1 : FuncId := 114
def f_l_eqIntS : FuncId := 94
def f_slices_Contains_byte : FuncId := 141
def f_slices_IndexFunc_int : FuncId := 142
def f_slices_Index_byte : FuncId := 160
@[reducible] def k_s_CodeOk_0 : LK := ⟨[(1, .lp 0), (3, .int .i64)], [.box [.sl, .int .i64, .int .i64, .int .i64, .sl]]⟩
@[reducible] def k_i_CodeOk_0 : LK := ⟨[(1, .lp 0), (35, .sl), (36, .int .i64), (37, .int .i64)], [.box [.sl, .int .i64, .int .i64, .int .i64, .sl]]⟩
@[reducible] def k_s_Count_0 : LK := ⟨[(1, .lp 0), (3, .int .i64), (4, .int .i64)], [.box [.sl, .int .i64, .int .i64, .int .i64, .sl]]⟩
@[reducible] def k_i_Count_0 : LK := ⟨[(3, .int .i64), (14, .sl), (15, .int .i64), (16, .int .i64)], []⟩
@[reducible] def k_l_szPieceS_0 : LK := ⟨[(0, .sl), (1, .int .i64), (5, .int .i64)], []⟩
@[reducible] def k_l_toPieceS_0 : LK := ⟨[(0, .sl), (3, .lr 0), (4, .int .i64)], [.arr 4]⟩
@[reducible] def k_s_l9Piece_0 : LK := ⟨[(1, .cv), (3, .int .i64), (4, .int .i64)], []⟩
@[reducible] def k_s_l9Lams_2 : LK := ⟨[(2, .cv), (3, .lp 0), (5, .int .i64), (6, .lp 1), (8, .int .i64)], [.box [.int .i64, .int .i64, .int .i64, .sl], .box [.int .i64, .int .i64, .int .i64, .int .i64, .int .i64, .sl, .int .i64]]⟩
@[reducible] def k_s_l9Lams_0 : LK := ⟨[(2, .cv), (3, .lp 0), (5, .int .i64)], [.box [.int .i64, .int .i64, .int .i64, .sl]]⟩
@[reducible] def k_l_eqPieceS_0 : LK := ⟨[(0, .sl), (1, .sl), (5, .int .i64)], []⟩
@[reducible] def k_l_szInsS_0 : LK := ⟨[(0, .sl), (1, .int .i64), (5, .int .i64)], []⟩
@[reducible] def k_l_toInsS_0 : LK := ⟨[(0, .sl), (3, .lr 0), (4, .int .i64)], [.arr 7]⟩
@[reducible] def k_s_l9Ins_1 : LK := ⟨[(2, .cv), (3, .lp 0), (6, .int .i64)], [.box [.int .i64, .int .i64, .int .i64, .int .i64, .int .i64, .sl, .int .i64]]⟩
@[reducible] def k_s_l9Ins_3 : LK := ⟨[(3, .lp 0), (7, .int .i64)], [.box [.int .i64, .int .i64, .int .i64, .int .i64, .int .i64, .sl, .int .i64]]⟩
@[reducible] def k_s_l9Fun_0 : LK := ⟨[(1, .int .i64), (2, .cv), (5, .int .i64)], []⟩
@[reducible] def k_i_lamsOk_1_0 : LK := ⟨[(1, .cv), (2, .lp 0), (30, .sl), (31, .int .i64), (32, .int .i64)], [.box [.int .i64, .int .i64, .int .i64, .int .i64, .int .i64, .sl, .int .i64]]⟩
@[reducible] def k_l_eqInsS_0 : LK := ⟨[(0, .sl), (1, .sl), (5, .int .i64)], []⟩
@[reducible] def k_slices_IndexFunc_Ins_0 : LK := ⟨[(0, .sl), (1, .cv), (7, .int .i64), (8, .int .i64)], []⟩
@[reducible] def k_i_insOk_0 : LK := ⟨[(3, .lp 0), (74, .sl), (75, .int .i64), (76, .int .i64)], [.box [.int .i64, .int .i64, .int .i64, .int .i64, .int .i64, .sl, .int .i64]]⟩
@[reducible] def k_l_toIntS_0 : LK := ⟨[(0, .sl), (3, .lr 0), (4, .int .i64)], [.arr 1]⟩
@[reducible] def k_slices_IndexFunc_Piece_0 : LK := ⟨[(0, .sl), (1, .cv), (7, .int .i64), (8, .int .i64)], []⟩
@[reducible] def k_l_eqIntS_0 : LK := ⟨[(0, .sl), (1, .sl), (5, .int .i64)], []⟩
@[reducible] def k_slices_IndexFunc_int_0 : LK := ⟨[(0, .sl), (1, .cv), (7, .int .i64), (8, .int .i64)], []⟩
@[reducible] def k_slices_Index_byte_0 : LK := ⟨[(0, .sl), (1, .int .u8), (7, .int .i64), (8, .int .i64)], []⟩
noncomputable def lc_s_CodeOk_0 : Code := loopCode Try.prog 8 0
noncomputable def lc_i_CodeOk_0 : Code := loopCode Try.prog 10 0
noncomputable def lc_s_Count_0 : Code := loopCode Try.prog 12 0
noncomputable def lc_i_Count_0 : Code := loopCode Try.prog 13 0
noncomputable def lc_l_szPieceS_0 : Code := loopCode Try.prog 24 0
noncomputable def lc_l_toPieceS_0 : Code := loopCode Try.prog 28 0
noncomputable def lc_s_l9Piece_0 : Code := loopCode Try.prog 26 0
noncomputable def lc_s_l9Lams_2 : Code := loopCode Try.prog 27 2
noncomputable def lc_s_l9Lams_0 : Code := loopCode Try.prog 27 0
noncomputable def lc_l_eqPieceS_0 : Code := loopCode Try.prog 33 0
noncomputable def lc_l_szInsS_0 : Code := loopCode Try.prog 67 0
noncomputable def lc_l_toInsS_0 : Code := loopCode Try.prog 70 0
noncomputable def lc_s_l9Ins_1 : Code := loopCode Try.prog 68 1
noncomputable def lc_s_l9Ins_3 : Code := loopCode Try.prog 68 3
noncomputable def lc_s_l9Fun_0 : Code := loopCode Try.prog 69 0
noncomputable def lc_i_lamsOk_1_0 : Code := loopCode Try.prog 75 0
noncomputable def lc_l_eqInsS_0 : Code := loopCode Try.prog 77 0
noncomputable def lc_slices_IndexFunc_Ins_0 : Code := loopCode Try.prog 106 0
noncomputable def lc_i_insOk_0 : Code := loopCode Try.prog 74 0
noncomputable def lc_l_toIntS_0 : Code := loopCode Try.prog 86 0
noncomputable def lc_slices_IndexFunc_Piece_0 : Code := loopCode Try.prog 113 0
noncomputable def lc_l_eqIntS_0 : Code := loopCode Try.prog 94 0
noncomputable def lc_slices_IndexFunc_int_0 : Code := loopCode Try.prog 142 0
noncomputable def lc_slices_Index_byte_0 : Code := loopCode Try.prog 160 0
noncomputable def E : Env where
  P := Try.prog
  pm := fun _ _ => .cls
  rm := fun _ => none
  frz := fun _ => none
  frzB := fun o => match o.op, o.dst with | .box 33 (.tmp _), some 1 => some true | .box 33 (.tmp _), some 2 => some true | .box 35 (.tmp _), some 2 => some true | .box 3 (.tmp _), some 3 => some false | _, _ => none
  ext := fun _ => none
  prim := fun _ => none
def N : Ann where
  loop := fun f b => match f, b with
  | 8, 0 => some k_s_CodeOk_0
  | 10, 0 => some k_i_CodeOk_0
  | 12, 0 => some k_s_Count_0
  | 13, 0 => some k_i_Count_0
  | 24, 0 => some k_l_szPieceS_0
  | 28, 0 => some k_l_toPieceS_0
  | 26, 0 => some k_s_l9Piece_0
  | 27, 2 => some k_s_l9Lams_2
  | 27, 0 => some k_s_l9Lams_0
  | 33, 0 => some k_l_eqPieceS_0
  | 67, 0 => some k_l_szInsS_0
  | 70, 0 => some k_l_toInsS_0
  | 68, 1 => some k_s_l9Ins_1
  | 68, 3 => some k_s_l9Ins_3
  | 69, 0 => some k_s_l9Fun_0
  | 75, 0 => some k_i_lamsOk_1_0
  | 77, 0 => some k_l_eqInsS_0
  | 106, 0 => some k_slices_IndexFunc_Ins_0
  | 74, 0 => some k_i_insOk_0
  | 86, 0 => some k_l_toIntS_0
  | 113, 0 => some k_slices_IndexFunc_Piece_0
  | 94, 0 => some k_l_eqIntS_0
  | 142, 0 => some k_slices_IndexFunc_int_0
  | 160, 0 => some k_slices_Index_byte_0
  | _, _ => none
  join := fun _ _ => none
  reg := fun f b => match f, b with
  | 8, 7 => some [(69, .bool)]
  | 8, 1 => some [(27, .bool)]
  | 10, 6 => some [(77, .bool)]
  | 10, 1 => some [(33, .bool)]
  | 26, 9 => some [(2, .bool)]
  | 26, 2 => some [(49, .bool)]
  | 27, 10 => some [(52, .bool)]
  | 27, 7 => some [(42, .bool)]
  | 30, 4 => some [(2, .bool)]
  | 30, 2 => some [(28, .bool)]
  | 32, 1 => some [(6, .bool)]
  | 37, 1 => some [(6, .bool)]
  | 68, 19 => some [(4, .bool)]
  | 68, 26 => some [(4, .bool)]
  | 68, 4 => some [(82, .bool)]
  | 68, 2 => some [(68, .bool)]
  | 71, 1 => some [(2, .bool)]
  | 75, 7 => some [(59, .bool)]
  | 75, 3 => some [(3, .bool)]
  | 74, 11 => some [(103, .bool)]
  | 74, 4 => some [(64, .bool)]
  | 74, 2 => some [(33, .bool)]
  | 108, 9 => some [(2, .bool)]
  | 109, 2 => some [(6, .bool)]
  | _, _ => none
noncomputable instance : Glob where
  ids := fun _ => False
  ok := fun _ => True
  keep := fun _ _ => trivial
noncomputable abbrev CC : CallT := Cw E N
noncomputable abbrev LL : LoopT := Lw E N
end Go.Proofs.Ytomkegeojknihaa.Abs
