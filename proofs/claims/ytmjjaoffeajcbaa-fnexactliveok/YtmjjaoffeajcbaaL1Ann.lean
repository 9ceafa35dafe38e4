/- How the abstract machine takes the functions that laws.FnExactLiveOk, laws.FnExactLive reaches. -/
import Derived.Test.YtmjjaoffeajcbaaOmega
import Derived.Test.YtmjjaoffeajcbaaProg
import Derived.Test.YtmjjaoffeajcbaaLib
set_option linter.unusedVariables false
set_option maxRecDepth 100000
namespace Go.Proofs.Ytmjjaoffeajcbaa.Abs
open Go Go.Proofs
def f_l_FnExactLiveOk : FuncId := 4
def f_l_FnExactLive : FuncId := 7
def f_l_szPiece : FuncId := 17
def f_l_szIntSS : FuncId := 18
def f_l_toPiece : FuncId := 20
def f_l_toIntSS : FuncId := 21
def f_s_LiveOk : FuncId := 19
def f_i_LiveOk : FuncId := 22
def f_l_eqPiece : FuncId := 23
def f_l_eqIntSS : FuncId := 24
def f_s_Live : FuncId := 35
def f_i_Live : FuncId := 36
def f_l_markPiece : FuncId := 32
def f_l_markIntSS : FuncId := 37
def f_l_heldIntSS : FuncId := 38
def f_l_szInsS : FuncId := 57
def f_l_szIntS : FuncId := 58
def f_l_toInsS : FuncId := 63
def f_l_toIntS : FuncId := 26
def f_s_l9Piece : FuncId := 59
def f_s_l10New : FuncId := 60
def f_s_l1In : FuncId := 61
def f_s_l10Node : FuncId := 62
def f_i_pieceOk : FuncId := 64
def f_i_in : FuncId := 65
def f_i_wanted : FuncId := 66
def f_l_eqInsS : FuncId := 67
def f_l_eqIntS : FuncId := 28
def f_s_l10Solve : FuncId := 75
def f_s_l10Lists : FuncId := 74
def f_i_liveSets : FuncId := 76
def f_i_things : FuncId := 77
def f_l_markInsS : FuncId := 73
def f_l_markIntS : FuncId := 41
def f_l_heldIntS : FuncId := 42
def f_l_szIns : FuncId := 90
def f_l_toIns : FuncId := 99
def f_s_l9Ins : FuncId := 91
def f_s_Reads : FuncId := 92
def f_s_l10Set : FuncId := 93
def f_s_Writes : FuncId := 94
def f_s_l10Normal : FuncId := 95
def f_s_l10From : FuncId := 96
def f_s_l10Guard : FuncId := 97
def f_s_l10May : FuncId := 98
def f_i_lamOk : FuncId := 100
def f_slices_ContainsFunc_Ins : FuncId := 101
def f_i_pieceOk_1 : FuncId := 102
def f_i_ways : FuncId := 105
def f_i_Writes : FuncId := 106
def f_i_guardOf : FuncId := 107
def f_i_raises : FuncId := 108
def f_i_Reads : FuncId := 109
def f_i_wanted_1 : FuncId := 104
def f_l_eqIns : FuncId := 110
def f_slices_Equal_bool : FuncId := 116
def f_s_l9Uses : FuncId := 120
def f_s_l9Reg : FuncId := 121
def f_s_l10Add : FuncId := 122
def f_slices_IndexFunc_Ins : FuncId := 123
def f_i_insOk : FuncId := 103
def f_i_hasPart : FuncId := 127
def f_i_insForm : FuncId := 124
def f_i_numOk : FuncId := 125
def f_i_fieldOk : FuncId := 126
def f_slices_ContainsFunc_int : FuncId := 128
def f_i_insOk_1 : FuncId := 129
def f_slices_Contains_byte : FuncId := 132
def f_slices_IndexFunc_int : FuncId := 133
def f_slices_Index_byte : FuncId := 136
def f_slices_Sort_int : FuncId := 130
def f_slices_Compact_int : FuncId := 131
@[reducible] def k_l_szIntSS_0 : LK := ⟨[(0, .sl), (1, .int .i64), (5, .int .i64)], []⟩
@[reducible] def k_l_toIntSS_0 : LK := ⟨[(0, .sl), (3, .lr 0), (4, .int .i64)], [.arr true false 1]⟩
@[reducible] def k_s_LiveOk_4 : LK := ⟨[(2, .lp 0), (5, .lp 1), (8, .int .i64)], [.box [.int .i64, .int .i64, .int .i64, .sl], .box [.int .i64, .int .i64, .int .i64, .sl, .lr 2, .bool], .arr true false 1]⟩
@[reducible] def k_s_LiveOk_2 : LK := ⟨[(1, .sl), (2, .lp 0), (5, .lp 1), (6, .int .i64), (7, .int .i64)], [.box [.int .i64, .int .i64, .int .i64, .sl], .box [.int .i64, .int .i64, .int .i64, .sl, .lr 2, .bool], .arr true false 1]⟩
@[reducible] def k_s_LiveOk_0 : LK := ⟨[(1, .sl), (2, .lp 0), (5, .lp 1), (6, .int .i64)], [.box [.int .i64, .int .i64, .int .i64, .sl], .box [.int .i64, .int .i64, .int .i64, .sl, .lr 2, .bool], .arr true false 1]⟩
@[reducible] def k_i_LiveOk_6 : LK := ⟨[(2, .lp 0), (5, .lr 1), (11, .int .i64), (72, .int .i64), (73, .int .i64), (79, .lr 2), (80, .int .i64), (81, .int .i64)], [.box [.int .i64, .int .i64, .int .i64, .sl], .arr true false 1, .arr true false 1]⟩
@[reducible] def k_i_LiveOk_4 : LK := ⟨[(2, .lp 0), (5, .lr 1), (72, .int .i64), (73, .int .i64)], [.box [.int .i64, .int .i64, .int .i64, .sl], .arr true false 1]⟩
@[reducible] def k_i_LiveOk_2 : LK := ⟨[(2, .lp 0), (5, .lr 1), (7, .sl), (8, .lr 2), (26, .sl), (27, .int .i64), (28, .int .i64), (35, .sl), (36, .int .i64), (37, .int .i64)], [.box [.int .i64, .int .i64, .int .i64, .sl], .arr true false 1, .arr true false 1]⟩
@[reducible] def k_i_LiveOk_0 : LK := ⟨[(2, .lp 0), (5, .lr 1), (26, .sl), (27, .int .i64), (28, .int .i64)], [.box [.int .i64, .int .i64, .int .i64, .sl], .arr true false 1]⟩
@[reducible] def k_l_eqIntSS_0 : LK := ⟨[(0, .sl), (1, .sl), (5, .int .i64)], []⟩
@[reducible] def k_i_Live_0 : LK := ⟨[(3, .lr 0), (11, .sl), (12, .int .i64), (13, .int .i64)], [.arr true false 1]⟩
@[reducible] def k_l_markIntSS_0 : LK := ⟨[(0, .lr 0), (1, .int .i64), (5, .int .i64)], [.arr true true 1]⟩
@[reducible] def k_l_heldIntSS_0 : LK := ⟨[(0, .sl), (1, .int .i64), (5, .int .i64)], []⟩
@[reducible] def k_l_szInsS_0 : LK := ⟨[(0, .sl), (1, .int .i64), (5, .int .i64)], []⟩
@[reducible] def k_l_toInsS_0 : LK := ⟨[(0, .sl), (3, .lr 0), (4, .int .i64)], [.arr true false 7]⟩
@[reducible] def k_l_toIntS_0 : LK := ⟨[(0, .sl), (3, .lr 0), (4, .int .i64)], [.arr true false 1]⟩
@[reducible] def k_s_l9Piece_0 : LK := ⟨[(1, .cv), (3, .int .i64), (4, .int .i64)], []⟩
@[reducible] def k_s_l10New_0 : LK := ⟨[(1, .cv), (3, .lp 0), (4, .int .i64)], [.box [.int .i64, .int .i64, .int .i64, .sl, .lr 1, .bool], .arr true false 1]⟩
@[reducible] def k_s_l10Node_2 : LK := ⟨[(0, .lp 0), (1, .int .i64), (6, .int .i64), (7, .sl), (8, .int .i64)], [.box [.int .i64, .int .i64, .int .i64, .sl, .lr 2, .bool], .gone, .arr true false 1]⟩
@[reducible] def k_s_l10Node_0 : LK := ⟨[(0, .lp 0), (1, .int .i64), (4, .sl), (5, .int .i64)], [.box [.int .i64, .int .i64, .int .i64, .sl, .lr 2, .bool], .gone, .arr true false 1]⟩
@[reducible] def k_i_wanted_2 : LK := ⟨[(7, .lp 0), (63, .sl), (64, .int .i64), (65, .int .i64)], [.box [.lr 1], .arr true false 1]⟩
@[reducible] def k_i_wanted_0 : LK := ⟨[(1, .int .i64), (3, .lp 0), (7, .lp 1), (8, .lp 3), (9, .clo 104 [none, some 1]), (26, .sl), (27, .int .i64), (28, .int .i64)], [.box [.int .i64, .int .i64, .int .i64, .sl], .box [.lr 2], .arr true false 1, .box [.int .i64, .int .i64, .int .i64, .int .i64, .int .i64, .sl, .int .i64]]⟩
@[reducible] def k_l_eqInsS_0 : LK := ⟨[(0, .sl), (1, .sl), (5, .int .i64)], []⟩
@[reducible] def k_l_eqIntS_0 : LK := ⟨[(0, .sl), (1, .sl), (5, .int .i64)], []⟩
@[reducible] def k_s_l10Solve_2 : LK := ⟨[(1, .cv), (3, .lp 0), (4, .int .i64)], [.box [.int .i64, .int .i64, .int .i64, .sl, .lr 1, .bool], .arr true false 1]⟩
@[reducible] def k_s_l10Solve_0 : LK := ⟨[(1, .cv), (3, .lp 0)], [.box [.int .i64, .int .i64, .int .i64, .sl, .lr 1, .bool], .arr true false 1]⟩
@[reducible] def k_s_l10Lists_2 : LK := ⟨[(0, .sl), (3, .lr 0), (4, .int .i64), (5, .lr 1), (6, .int .i64)], [.arr true false 1, .arr true false 1]⟩
@[reducible] def k_s_l10Lists_0 : LK := ⟨[(0, .sl), (3, .lr 0), (4, .int .i64)], [.arr true false 1]⟩
@[reducible] def k_i_liveSets_4 : LK := ⟨[(1, .cv), (3, .lr 0), (4, .bool), (5, .int .i64)], [.arr true false 1]⟩
@[reducible] def k_i_liveSets_2 : LK := ⟨[(1, .cv), (3, .lr 0), (4, .bool)], [.arr true false 1]⟩
@[reducible] def k_i_liveSets_0 : LK := ⟨[(1, .cv), (3, .lr 0), (10, .int .i64), (11, .int .i64)], [.arr true false 1]⟩
@[reducible] def k_i_things_0 : LK := ⟨[(3, .lr 0), (7, .sl), (8, .int .i64), (9, .int .i64)], [.arr true false 1]⟩
@[reducible] def k_l_markInsS_0 : LK := ⟨[(0, .lr 0), (1, .int .i64), (5, .int .i64)], [.arr true true 7]⟩
@[reducible] def k_l_markIntS_0 : LK := ⟨[(0, .lr 0), (1, .int .i64), (5, .int .i64)], [.arr true true 1]⟩
@[reducible] def k_l_heldIntS_0 : LK := ⟨[(0, .sl), (1, .int .i64), (5, .int .i64)], []⟩
@[reducible] def k_s_l9Ins_1 : LK := ⟨[(2, .lp 0), (3, .lp 1), (6, .int .i64)], [.box [.int .i64, .int .i64, .int .i64, .sl], .box [.int .i64, .int .i64, .int .i64, .int .i64, .int .i64, .sl, .int .i64]]⟩
@[reducible] def k_s_l9Ins_3 : LK := ⟨[(3, .lp 0), (7, .int .i64)], [.box [.int .i64, .int .i64, .int .i64, .int .i64, .int .i64, .sl, .int .i64]]⟩
@[reducible] def k_s_Reads_0 : LK := ⟨[(1, .lp 0), (4, .sl), (5, .int .i64)], [.box [.int .i64, .int .i64, .int .i64, .int .i64, .int .i64, .sl, .int .i64]]⟩
@[reducible] def k_s_l10From_0 : LK := ⟨[(0, .lp 0), (1, .int .i64), (2, .int .i64), (3, .int .i64), (8, .int .i64)], [.box [.int .i64, .int .i64, .int .i64, .sl, .lr 2, .bool], .gone, .arr true false 1]⟩
@[reducible] def k_s_l10Guard_0 : LK := ⟨[(1, .int .i64), (2, .lp 0), (5, .lr 1), (6, .int .i64)], [.box [.int .i64, .int .i64, .int .i64, .sl], .arr true false 1]⟩
@[reducible] def k_i_guardOf_0 : LK := ⟨[(5, .lr 0), (19, .sl), (20, .int .i64), (21, .int .i64)], [.arr true false 1]⟩
@[reducible] def k_i_wanted_1_0 : LK := ⟨[(1, .int .i64), (3, .lp 0), (11, .sl), (12, .int .i64), (13, .int .i64)], [.box [.lr 2], .gone, .arr true false 1]⟩
@[reducible] def k_slices_Equal_bool_0 : LK := ⟨[(0, .sl), (1, .sl), (12, .int .i64), (13, .int .i64)], []⟩
@[reducible] def k_s_l10Add_0 : LK := ⟨[(0, .sl), (1, .int .i64), (5, .lr 0), (6, .bool), (7, .int .i64)], [.arr true false 1]⟩
@[reducible] def k_slices_IndexFunc_Ins_0 : LK := ⟨[(0, .sl), (1, .cv), (7, .int .i64), (8, .int .i64)], []⟩
@[reducible] def k_i_insOk_0 : LK := ⟨[(3, .lp 0), (74, .sl), (75, .int .i64), (76, .int .i64)], [.box [.int .i64, .int .i64, .int .i64, .int .i64, .int .i64, .sl, .int .i64]]⟩
@[reducible] def k_slices_IndexFunc_int_0 : LK := ⟨[(0, .sl), (1, .cv), (7, .int .i64), (8, .int .i64)], []⟩
@[reducible] def k_slices_Index_byte_0 : LK := ⟨[(0, .sl), (1, .int .u8), (7, .int .i64), (8, .int .i64)], []⟩
noncomputable def lc_l_szIntSS_0 : Code := loopCode Try.prog 18 0
noncomputable def lc_l_toIntSS_0 : Code := loopCode Try.prog 21 0
noncomputable def lc_s_LiveOk_4 : Code := loopCode Try.prog 19 4
noncomputable def lc_s_LiveOk_2 : Code := loopCode Try.prog 19 2
noncomputable def lc_s_LiveOk_0 : Code := loopCode Try.prog 19 0
noncomputable def lc_i_LiveOk_6 : Code := loopCode Try.prog 22 6
noncomputable def lc_i_LiveOk_4 : Code := loopCode Try.prog 22 4
noncomputable def lc_i_LiveOk_2 : Code := loopCode Try.prog 22 2
noncomputable def lc_i_LiveOk_0 : Code := loopCode Try.prog 22 0
noncomputable def lc_l_eqIntSS_0 : Code := loopCode Try.prog 24 0
noncomputable def lc_i_Live_0 : Code := loopCode Try.prog 36 0
noncomputable def lc_l_markIntSS_0 : Code := loopCode Try.prog 37 0
noncomputable def lc_l_heldIntSS_0 : Code := loopCode Try.prog 38 0
noncomputable def lc_l_szInsS_0 : Code := loopCode Try.prog 57 0
noncomputable def lc_l_toInsS_0 : Code := loopCode Try.prog 63 0
noncomputable def lc_l_toIntS_0 : Code := loopCode Try.prog 26 0
noncomputable def lc_s_l9Piece_0 : Code := loopCode Try.prog 59 0
noncomputable def lc_s_l10New_0 : Code := loopCode Try.prog 60 0
noncomputable def lc_s_l10Node_2 : Code := loopCode Try.prog 62 2
noncomputable def lc_s_l10Node_0 : Code := loopCode Try.prog 62 0
noncomputable def lc_i_wanted_2 : Code := loopCode Try.prog 66 2
noncomputable def lc_i_wanted_0 : Code := loopCode Try.prog 66 0
noncomputable def lc_l_eqInsS_0 : Code := loopCode Try.prog 67 0
noncomputable def lc_l_eqIntS_0 : Code := loopCode Try.prog 28 0
noncomputable def lc_s_l10Solve_2 : Code := loopCode Try.prog 75 2
noncomputable def lc_s_l10Solve_0 : Code := loopCode Try.prog 75 0
noncomputable def lc_s_l10Lists_2 : Code := loopCode Try.prog 74 2
noncomputable def lc_s_l10Lists_0 : Code := loopCode Try.prog 74 0
noncomputable def lc_i_liveSets_4 : Code := loopCode Try.prog 76 4
noncomputable def lc_i_liveSets_2 : Code := loopCode Try.prog 76 2
noncomputable def lc_i_liveSets_0 : Code := loopCode Try.prog 76 0
noncomputable def lc_i_things_0 : Code := loopCode Try.prog 77 0
noncomputable def lc_l_markInsS_0 : Code := loopCode Try.prog 73 0
noncomputable def lc_l_markIntS_0 : Code := loopCode Try.prog 41 0
noncomputable def lc_l_heldIntS_0 : Code := loopCode Try.prog 42 0
noncomputable def lc_s_l9Ins_1 : Code := loopCode Try.prog 91 1
noncomputable def lc_s_l9Ins_3 : Code := loopCode Try.prog 91 3
noncomputable def lc_s_Reads_0 : Code := loopCode Try.prog 92 0
noncomputable def lc_s_l10From_0 : Code := loopCode Try.prog 96 0
noncomputable def lc_s_l10Guard_0 : Code := loopCode Try.prog 97 0
noncomputable def lc_i_guardOf_0 : Code := loopCode Try.prog 107 0
noncomputable def lc_i_wanted_1_0 : Code := loopCode Try.prog 104 0
noncomputable def lc_slices_Equal_bool_0 : Code := loopCode Try.prog 116 0
noncomputable def lc_s_l10Add_0 : Code := loopCode Try.prog 122 0
noncomputable def lc_slices_IndexFunc_Ins_0 : Code := loopCode Try.prog 123 0
noncomputable def lc_i_insOk_0 : Code := loopCode Try.prog 103 0
noncomputable def lc_slices_IndexFunc_int_0 : Code := loopCode Try.prog 133 0
noncomputable def lc_slices_Index_byte_0 : Code := loopCode Try.prog 136 0
def clT : Nat → Callee → Bool := fun d c => match d, c with | 17, .value (.func 20) => true | 21, .value (.func 20) => true | 26, .value (.func 105) => true | 29, .value (.func 20) => true | 37, .value (.func 20) => true | 55, .value (.func 20) => true | 63, .value (.func 109) => true | _, _ => false
noncomputable def E : Env where
  P := Try.prog
  pm := fun g j => match g, j with | 4, 0 => .bor | 4, 1 => .bor | 7, 0 => .bor | 17, 0 => .bor | 17, 1 => .bor | 18, 0 => .bor | 18, 1 => .bor | 19, 0 => .bor | 19, 1 => .bor | 22, 0 => .bor | 22, 1 => .bor | 23, 0 => .bor | 23, 1 => .bor | 24, 0 => .bor | 24, 1 => .bor | 38, 0 => .bor | 38, 1 => .bor | 57, 0 => .bor | 57, 1 => .bor | 58, 0 => .bor | 58, 1 => .bor | 59, 0 => .bor | 61, 0 => .bor | 61, 1 => .bor | 61, 2 => .bor | 64, 0 => .bor | 65, 0 => .bor | 65, 1 => .bor | 65, 2 => .bor | 67, 0 => .bor | 67, 1 => .bor | 28, 0 => .bor | 28, 1 => .bor | 42, 0 => .bor | 42, 1 => .bor | 90, 0 => .bor | 90, 1 => .bor | 91, 0 => .bor | 91, 1 => .bor | 94, 0 => .bor | 97, 0 => .bor | 97, 1 => .bor | 98, 0 => .bor | 100, 0 => .bor | 101, 0 => .bor | 101, 1 => .bor | 106, 0 => .bor | 107, 0 => .bor | 107, 1 => .bor | 108, 0 => .bor | 110, 0 => .bor | 110, 1 => .bor | 116, 0 => .bor | 116, 1 => .bor | 121, 0 => .bor | 121, 1 => .bor | 121, 2 => .bor | 123, 0 => .bor | 123, 1 => .bor | 103, 0 => .bor | 103, 1 => .bor | 127, 0 => .bor | 127, 1 => .bor | 125, 0 => .bor | 126, 0 => .bor | 126, 1 => .bor | 126, 2 => .bor | 128, 0 => .bor | 128, 1 => .bor | 132, 0 => .bor | 132, 1 => .bor | 133, 0 => .bor | 133, 1 => .bor | 136, 0 => .bor | 136, 1 => .bor | 32, 0 => .inp | 36, 0 => .bor | 37, 0 => .inp | 41, 0 => .inp | 66, 0 => .bor | 66, 2 => .bor | 73, 0 => .inp | 77, 0 => .bor | 105, 0 => .bor | 109, 0 => .bor | 130, 0 => .inp | 131, 0 => .pass | _, _ => .cls
  rm := fun g => match g with | 131 => some 0 | _ => none
  ow := fun g => match g with | 20 => some [43] | 26 => some [49] | 36 => some [37] | 60 => some [268435531] | 63 => some [41] | 66 => some [78] | 77 => some [49] | 99 => some [110] | 105 => some [49] | 109 => some [49] | _ => none
  cl := fun o => match o.op, o.dst with | .call c, some d => clT d c.callee | _, _ => false
  deep := fun t => match t with | 26 => true | 110 => true | 43 => true | 78 => true | 49 => true | _ => false
  frz := fun g => match g with | 129 => some [true] | _ => none
  frzB := fun o => match o.op, o.dst with | .box 43 (.tmp _), some 1 => some true | .box 79 (.tmp _), some 5 => some false | _, _ => none
  ext := fun g => match g with | 130 => some xSort | 131 => some xCompact | _ => none
  prim := fun _ => none
def N : Ann where
  loop := fun f b => match f, b with
  | 18, 0 => some k_l_szIntSS_0
  | 21, 0 => some k_l_toIntSS_0
  | 19, 4 => some k_s_LiveOk_4
  | 19, 2 => some k_s_LiveOk_2
  | 19, 0 => some k_s_LiveOk_0
  | 22, 6 => some k_i_LiveOk_6
  | 22, 4 => some k_i_LiveOk_4
  | 22, 2 => some k_i_LiveOk_2
  | 22, 0 => some k_i_LiveOk_0
  | 24, 0 => some k_l_eqIntSS_0
  | 36, 0 => some k_i_Live_0
  | 37, 0 => some k_l_markIntSS_0
  | 38, 0 => some k_l_heldIntSS_0
  | 57, 0 => some k_l_szInsS_0
  | 63, 0 => some k_l_toInsS_0
  | 26, 0 => some k_l_toIntS_0
  | 59, 0 => some k_s_l9Piece_0
  | 60, 0 => some k_s_l10New_0
  | 62, 2 => some k_s_l10Node_2
  | 62, 0 => some k_s_l10Node_0
  | 66, 2 => some k_i_wanted_2
  | 66, 0 => some k_i_wanted_0
  | 67, 0 => some k_l_eqInsS_0
  | 28, 0 => some k_l_eqIntS_0
  | 75, 2 => some k_s_l10Solve_2
  | 75, 0 => some k_s_l10Solve_0
  | 74, 2 => some k_s_l10Lists_2
  | 74, 0 => some k_s_l10Lists_0
  | 76, 4 => some k_i_liveSets_4
  | 76, 2 => some k_i_liveSets_2
  | 76, 0 => some k_i_liveSets_0
  | 77, 0 => some k_i_things_0
  | 73, 0 => some k_l_markInsS_0
  | 41, 0 => some k_l_markIntS_0
  | 42, 0 => some k_l_heldIntS_0
  | 91, 1 => some k_s_l9Ins_1
  | 91, 3 => some k_s_l9Ins_3
  | 92, 0 => some k_s_Reads_0
  | 96, 0 => some k_s_l10From_0
  | 97, 0 => some k_s_l10Guard_0
  | 107, 0 => some k_i_guardOf_0
  | 104, 0 => some k_i_wanted_1_0
  | 116, 0 => some k_slices_Equal_bool_0
  | 122, 0 => some k_s_l10Add_0
  | 123, 0 => some k_slices_IndexFunc_Ins_0
  | 103, 0 => some k_i_insOk_0
  | 133, 0 => some k_slices_IndexFunc_int_0
  | 136, 0 => some k_slices_Index_byte_0
  | _, _ => none
  join := fun _ _ => none
  reg := fun f b => match f, b with
  | 7, 14 => some [(42, .bool)]
  | 19, 10 => some [(70, .bool)]
  | 19, 1 => some [(19, .bool)]
  | 22, 23 => some [(96, .bool)]
  | 22, 11 => some [(60, .bool)]
  | 22, 1 => some [(24, .bool)]
  | 59, 9 => some [(2, .bool)]
  | 59, 2 => some [(49, .bool)]
  | 61, 1 => some [(6, .bool)]
  | 62, 12 => some [(80, .bool)]
  | 64, 4 => some [(2, .bool)]
  | 64, 2 => some [(28, .bool)]
  | 65, 1 => some [(6, .bool)]
  | 66, 10 => some [(47, .bool)]
  | 91, 19 => some [(4, .bool)]
  | 91, 26 => some [(4, .bool)]
  | 91, 4 => some [(82, .bool)]
  | 91, 2 => some [(68, .bool)]
  | 92, 8 => some [(31, .bool)]
  | 94, 1 => some [(12, .bool)]
  | 96, 3 => some [(32, .bool)]
  | 97, 11 => some [(53, .bool)]
  | 97, 3 => some [(17, .bool)]
  | 100, 1 => some [(2, .bool)]
  | 105, 5 => some [(43, .bool)]
  | 105, 3 => some [(25, .bool)]
  | 106, 1 => some [(10, .bool)]
  | 122, 6 => some [(24, .bool)]
  | 103, 11 => some [(103, .bool)]
  | 103, 4 => some [(64, .bool)]
  | 103, 2 => some [(33, .bool)]
  | 125, 9 => some [(2, .bool)]
  | 126, 2 => some [(6, .bool)]
  | _, _ => none
noncomputable instance : Glob where
  ids := fun _ => False
  ok := fun _ => True
  keep := fun _ _ => trivial
noncomputable abbrev CC : CallT := Cw E N
noncomputable abbrev LL : LoopT := Lw E N
end Go.Proofs.Ytmjjaoffeajcbaa.Abs
