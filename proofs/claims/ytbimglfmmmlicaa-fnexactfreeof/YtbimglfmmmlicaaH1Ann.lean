/- How the abstract machine takes the functions that laws.FnExactFreeOf reaches. -/
import Derived.Test.YtbimglfmmmlicaaOmega
import Derived.Test.YtbimglfmmmlicaaProg
import Derived.Test.YtbimglfmmmlicaaLib
set_option linter.unusedVariables false
set_option maxRecDepth 100000
namespace Go.Proofs.Ytbimglfmmmlicaa.Abs
open Go Go.Proofs
def f_l_FnExactFreeOf : FuncId := 5
def f_l_szTerm : FuncId := 8
def f_l_toTerm : FuncId := 10
def f_s_FreeOf : FuncId := 19
def f_i_FreeOf : FuncId := 20
def f_l_eqStringS : FuncId := 15
def f_l_eqTerm : FuncId := 12
def f_l_markTerm : FuncId := 16
def f_l_markStringS : FuncId := 17
def f_l_heldStringS : FuncId := 18
def f_l_szTy : FuncId := 31
def f_l_szTyS : FuncId := 32
def f_l_szTermS : FuncId := 33
def f_l_toTy : FuncId := 36
def f_l_toTyS : FuncId := 37
def f_l_toTermS : FuncId := 38
def f_s_TermOk : FuncId := 34
def f_s_l2Free : FuncId := 52
def f_i_TermOk : FuncId := 39
def f_i_freeIn : FuncId := 53
def f_l_eqTy : FuncId := 43
def f_l_eqTyS : FuncId := 44
def f_l_eqTermS : FuncId := 45
def f_l_markTy : FuncId := 48
def f_l_markTyS : FuncId := 49
def f_l_markTermS : FuncId := 50
def f_l_markText : FuncId := 51
def f_s_l2Look : FuncId := 72
def f_s_l2Has : FuncId := 54
def f_s_l2Binds : FuncId := 80
def f_i_termSize : FuncId := 74
def f_slices_Contains_string : FuncId := 81
def f_i_boundIn : FuncId := 83
def f_slices_Concat_string : FuncId := 82
def f_s_l2One : FuncId := 96
def f_i_headOk : FuncId := 98
def f_slices_Index_string : FuncId := 101
def f_s_l2Of : FuncId := 116
def f_s_l2Number : FuncId := 117
def f_s_l2Name : FuncId := 73
def f_s_TyOk : FuncId := 64
def f_s_SameTy : FuncId := 118
def f_i_parts : FuncId := 119
def f_i_numberOk : FuncId := 120
def f_i_namesOk : FuncId := 121
def f_i_hasT : FuncId := 122
def f_i_TyOk : FuncId := 29
def f_i_SameTy : FuncId := 30
def f_slices_ContainsFunc_Ty : FuncId := 61
def f_i_headOk_1 : FuncId := 123
def f_s_l1In : FuncId := 97
def f_s_l1Look : FuncId := 92
def f_i_in : FuncId := 134
def f_i_isName : FuncId := 135
def f_i_bindsS : FuncId := 79
def f_i_measure : FuncId := 70
def f_slices_EqualFunc_Ty : FuncId := 71
def f_slices_IndexFunc_Ty : FuncId := 90
def f_s_l1Args : FuncId := 114
def f_i_tyParts : FuncId := 95
def f_slices_Sort_string : FuncId := 55
def f_slices_Compact_string : FuncId := 56
def f_slices_Clone_string : FuncId := 57
def f_strings_Contains : FuncId := 42
def f_slices_Grow_string : FuncId := 102
@[reducible] def k_l_eqStringS_0 : LK := ⟨[(0, .sl), (1, .sl), (5, .int .i64)], []⟩
@[reducible] def k_l_markStringS_0 : LK := ⟨[(0, .lr 0), (1, .int .i64), (5, .int .i64)], [.arr true true 1]⟩
@[reducible] def k_l_heldStringS_0 : LK := ⟨[(0, .sl), (1, .int .i64), (5, .int .i64)], []⟩
@[reducible] def k_l_szTyS_0 : LK := ⟨[(0, .sl), (1, .int .i64), (5, .int .i64)], []⟩
@[reducible] def k_l_szTermS_0 : LK := ⟨[(0, .sl), (1, .int .i64), (5, .int .i64)], []⟩
@[reducible] def k_l_toTyS_0 : LK := ⟨[(0, .sl), (3, .lr 0), (4, .int .i64)], [.arr true false 3]⟩
@[reducible] def k_l_toTermS_0 : LK := ⟨[(0, .sl), (3, .lr 0), (4, .int .i64)], [.arr true false 9]⟩
@[reducible] def k_s_l2Free_0 : LK := ⟨[(1, .sl), (2, .lr 0), (3, .lp 1), (7, .int .i64)], [.arr true false 1, .box [.int .i64, .int .i64, .str, .str, .int .i64, .int .i64, .sl, .sl, .sl]]⟩
@[reducible] def k_i_freeIn_0 : LK := ⟨[(1, .sl), (2, .lr 0), (3, .lp 1), (32, .sl), (33, .int .i64), (34, .int .i64)], [.arr true false 1, .box [.int .i64, .int .i64, .str, .str, .int .i64, .int .i64, .sl, .sl, .sl]]⟩
@[reducible] def k_l_eqTyS_0 : LK := ⟨[(0, .sl), (1, .sl), (5, .int .i64)], []⟩
@[reducible] def k_l_eqTermS_0 : LK := ⟨[(0, .sl), (1, .sl), (5, .int .i64)], []⟩
@[reducible] def k_l_markTyS_0 : LK := ⟨[(0, .lr 0), (1, .int .i64), (5, .int .i64)], [.arr true true 3]⟩
@[reducible] def k_l_markTermS_0 : LK := ⟨[(0, .lr 0), (1, .int .i64), (5, .int .i64)], [.arr true true 9]⟩
@[reducible] def k_l_markText_0 : LK := ⟨[(0, .int .i64), (3, .str)], []⟩
@[reducible] def k_s_l2Look_0 : LK := ⟨[(1, .int .i64), (2, .lp 0), (3, .lp 1), (7, .int .i64)], [.box [.int .i64], .box [.int .i64, .int .i64, .str, .str, .int .i64, .int .i64, .sl, .sl, .sl]]⟩
@[reducible] def k_s_l2Has_0 : LK := ⟨[(0, .sl), (1, .str), (5, .int .i64)], []⟩
@[reducible] def k_i_termSize_0 : LK := ⟨[(5, .int .i64), (6, .int .i64), (16, .sl), (17, .int .i64), (18, .int .i64)], []⟩
@[reducible] def k_slices_Concat_string_2 : LK := ⟨[(6, .lr 0), (25, .sl), (26, .int .i64), (27, .int .i64)], [.arr true false 1]⟩
@[reducible] def k_slices_Concat_string_0 : LK := ⟨[(0, .sl), (3, .int .i64), (9, .sl), (10, .int .i64), (11, .int .i64)], []⟩
@[reducible] def k_s_l2One_0 : LK := ⟨[(1, .lp 0), (4, .int .i64)], [.box [.int .i64, .int .i64, .str, .str, .int .i64, .int .i64, .sl, .sl, .sl]]⟩
@[reducible] def k_slices_Index_string_0 : LK := ⟨[(0, .sl), (1, .str), (7, .int .i64), (8, .int .i64)], []⟩
@[reducible] def k_s_l2Name_0 : LK := ⟨[(0, .str), (1, .bool), (5, .int .i64)], []⟩
@[reducible] def k_s_SameTy_0 : LK := ⟨[(2, .lp 0), (3, .lp 1), (5, .int .i64)], [.box [.int .i64, .int .i64, .sl], .box [.int .i64, .int .i64, .sl]]⟩
@[reducible] def k_s_l1Look_0 : LK := ⟨[(1, .int .i64), (2, .lp 0), (3, .lp 1), (7, .int .i64)], [.box [.int .i64], .box [.int .i64, .int .i64, .sl]]⟩
@[reducible] def k_i_isName_0 : LK := ⟨[(0, .str), (7, .int .i64), (8, .int .i64)], []⟩
@[reducible] def k_i_measure_0 : LK := ⟨[(5, .int .i64), (6, .int .i64), (35, .sl), (36, .int .i64), (37, .int .i64)], []⟩
@[reducible] def k_slices_EqualFunc_Ty_0 : LK := ⟨[(1, .sl), (2, .cv), (15, .sl), (16, .int .i64), (17, .int .i64)], []⟩
@[reducible] def k_slices_IndexFunc_Ty_0 : LK := ⟨[(0, .sl), (1, .cv), (7, .int .i64), (8, .int .i64)], []⟩
noncomputable def lc_l_eqStringS_0 : Code := loopCode Try.prog 15 0
noncomputable def lc_l_markStringS_0 : Code := loopCode Try.prog 17 0
noncomputable def lc_l_heldStringS_0 : Code := loopCode Try.prog 18 0
noncomputable def lc_l_szTyS_0 : Code := loopCode Try.prog 32 0
noncomputable def lc_l_szTermS_0 : Code := loopCode Try.prog 33 0
noncomputable def lc_l_toTyS_0 : Code := loopCode Try.prog 37 0
noncomputable def lc_l_toTermS_0 : Code := loopCode Try.prog 38 0
noncomputable def lc_s_l2Free_0 : Code := loopCode Try.prog 52 0
noncomputable def lc_i_freeIn_0 : Code := loopCode Try.prog 53 0
noncomputable def lc_l_eqTyS_0 : Code := loopCode Try.prog 44 0
noncomputable def lc_l_eqTermS_0 : Code := loopCode Try.prog 45 0
noncomputable def lc_l_markTyS_0 : Code := loopCode Try.prog 49 0
noncomputable def lc_l_markTermS_0 : Code := loopCode Try.prog 50 0
noncomputable def lc_l_markText_0 : Code := loopCode Try.prog 51 0
noncomputable def lc_s_l2Look_0 : Code := loopCode Try.prog 72 0
noncomputable def lc_s_l2Has_0 : Code := loopCode Try.prog 54 0
noncomputable def lc_i_termSize_0 : Code := loopCode Try.prog 74 0
noncomputable def lc_slices_Concat_string_2 : Code := loopCode Try.prog 82 2
noncomputable def lc_slices_Concat_string_0 : Code := loopCode Try.prog 82 0
noncomputable def lc_s_l2One_0 : Code := loopCode Try.prog 96 0
noncomputable def lc_slices_Index_string_0 : Code := loopCode Try.prog 101 0
noncomputable def lc_s_l2Name_0 : Code := loopCode Try.prog 73 0
noncomputable def lc_s_SameTy_0 : Code := loopCode Try.prog 118 0
noncomputable def lc_s_l1Look_0 : Code := loopCode Try.prog 92 0
noncomputable def lc_i_isName_0 : Code := loopCode Try.prog 135 0
noncomputable def lc_i_measure_0 : Code := loopCode Try.prog 70 0
noncomputable def lc_slices_EqualFunc_Ty_0 : Code := loopCode Try.prog 71 0
noncomputable def lc_slices_IndexFunc_Ty_0 : Code := loopCode Try.prog 90 0
def clT : Nat → Callee → Bool := fun d c => match d, c with | 17, .value (.func 10) => true | 29, .value (.func 10) => true | 55, .value (.func 10) => true | _, _ => false
noncomputable def E : Env where
  P := Try.prog
  pm := fun g j => match g, j with | 5, 0 => .bor | 8, 0 => .bor | 8, 1 => .bor | 15, 0 => .bor | 15, 1 => .bor | 12, 0 => .bor | 12, 1 => .bor | 18, 0 => .bor | 18, 1 => .bor | 31, 0 => .bor | 31, 1 => .bor | 32, 0 => .bor | 32, 1 => .bor | 33, 0 => .bor | 33, 1 => .bor | 34, 0 => .bor | 39, 0 => .bor | 43, 0 => .bor | 43, 1 => .bor | 44, 0 => .bor | 44, 1 => .bor | 45, 0 => .bor | 45, 1 => .bor | 51, 0 => .bor | 54, 0 => .bor | 54, 1 => .bor | 81, 0 => .bor | 81, 1 => .bor | 96, 0 => .bor | 98, 0 => .bor | 101, 0 => .bor | 101, 1 => .bor | 117, 0 => .bor | 73, 0 => .bor | 73, 1 => .bor | 64, 0 => .bor | 118, 0 => .bor | 118, 1 => .bor | 119, 0 => .bor | 120, 0 => .bor | 120, 1 => .bor | 121, 0 => .bor | 121, 1 => .bor | 121, 2 => .bor | 122, 0 => .bor | 29, 0 => .bor | 30, 0 => .bor | 30, 1 => .bor | 61, 0 => .bor | 61, 1 => .bor | 123, 0 => .bor | 97, 0 => .bor | 97, 1 => .bor | 97, 2 => .bor | 134, 0 => .bor | 134, 1 => .bor | 134, 2 => .bor | 135, 0 => .bor | 79, 0 => .bor | 71, 0 => .bor | 71, 1 => .bor | 71, 2 => .bor | 90, 0 => .bor | 90, 1 => .bor | 114, 0 => .bor | 95, 0 => .bor | 16, 0 => .inp | 17, 0 => .inp | 20, 0 => .bor | 48, 0 => .inp | 49, 0 => .inp | 50, 0 => .inp | 52, 2 => .pass | 53, 2 => .pass | 55, 0 => .inp | 56, 0 => .pass | 57, 0 => .bor | 82, 0 => .bor | 102, 0 => .nil | _, _ => .cls
  rm := fun g => match g with | 52 => some 0 | 53 => some 0 | 56 => some 0 | _ => none
  ow := fun g => match g with | 10 => some [35] | 20 => some [39] | 36 => some [32] | 37 => some [30] | 38 => some [33] | 57 => some [39] | 82 => some [39] | 102 => some [39] | _ => none
  cl := fun o => match o.op, o.dst with | .call c, some d => clT d c.callee | _, _ => false
  deep := fun t => match t with | 32 => true | 35 => true | _ => false
  frz := fun _ => none
  frzB := fun _ => none
  ext := fun g => match g with | 55 => some xSort | 56 => some xCompact | 57 => some xClone | 42 => some xContains | 102 => some xGrow | _ => none
  prim := fun _ => none
def N : Ann where
  loop := fun f b => match f, b with
  | 15, 0 => some k_l_eqStringS_0
  | 17, 0 => some k_l_markStringS_0
  | 18, 0 => some k_l_heldStringS_0
  | 32, 0 => some k_l_szTyS_0
  | 33, 0 => some k_l_szTermS_0
  | 37, 0 => some k_l_toTyS_0
  | 38, 0 => some k_l_toTermS_0
  | 52, 0 => some k_s_l2Free_0
  | 53, 0 => some k_i_freeIn_0
  | 44, 0 => some k_l_eqTyS_0
  | 45, 0 => some k_l_eqTermS_0
  | 49, 0 => some k_l_markTyS_0
  | 50, 0 => some k_l_markTermS_0
  | 51, 0 => some k_l_markText_0
  | 72, 0 => some k_s_l2Look_0
  | 54, 0 => some k_s_l2Has_0
  | 74, 0 => some k_i_termSize_0
  | 82, 2 => some k_slices_Concat_string_2
  | 82, 0 => some k_slices_Concat_string_0
  | 96, 0 => some k_s_l2One_0
  | 101, 0 => some k_slices_Index_string_0
  | 73, 0 => some k_s_l2Name_0
  | 118, 0 => some k_s_SameTy_0
  | 92, 0 => some k_s_l1Look_0
  | 135, 0 => some k_i_isName_0
  | 70, 0 => some k_i_measure_0
  | 71, 0 => some k_slices_EqualFunc_Ty_0
  | 90, 0 => some k_slices_IndexFunc_Ty_0
  | _, _ => none
  join := fun _ _ => none
  reg := fun f b => match f, b with
  | 5, 14 => some [(42, .bool)]
  | 52, 1 => some [(24, .bool)]
  | 39, 2 => some [(2, .bool)]
  | 53, 1 => some [(25, .bool)]
  | 72, 2 => some [(26, .bool)]
  | 80, 3 => some [(35, .bool)]
  | 80, 1 => some [(5, .bool)]
  | 83, 3 => some [(31, .bool)]
  | 83, 1 => some [(5, .bool)]
  | 96, 11 => some [(2, .bool)]
  | 96, 4 => some [(100, .bool)]
  | 96, 2 => some [(65, .bool)]
  | 98, 8 => some [(2, .bool)]
  | 98, 3 => some [(61, .bool)]
  | 98, 1 => some [(41, .bool)]
  | 73, 7 => some [(42, .bool)]
  | 73, 1 => some [(17, .bool)]
  | 118, 1 => some [(26, .bool)]
  | 121, 3 => some [(6, .bool)]
  | 121, 2 => some [(6, .bool)]
  | 122, 1 => some [(2, .bool)]
  | 29, 2 => some [(2, .bool)]
  | 30, 1 => some [(4, .bool)]
  | 97, 1 => some [(6, .bool)]
  | 92, 2 => some [(51, .bool)]
  | 134, 1 => some [(6, .bool)]
  | 135, 6 => some [(37, .bool)]
  | 135, 5 => some [(5, .bool)]
  | 79, 1 => some [(2, .bool)]
  | 70, 1 => some [(33, .bool)]
  | _, _ => none
noncomputable instance : Glob where
  ids := fun _ => False
  ok := fun _ => True
  keep := fun _ _ => trivial
noncomputable abbrev CC : CallT := Cw E N
noncomputable abbrev LL : LoopT := Lw E N
end Go.Proofs.Ytbimglfmmmlicaa.Abs
