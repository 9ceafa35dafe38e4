/- How the abstract machine takes the functions that laws.FnExactTermText reaches. -/
import Derived.Test.YtegbnddjgifcdaaDoorOmega
import Derived.Test.YtegbnddjgifcdaaDoorProg
import Derived.Test.YtegbnddjgifcdaaDoorLibT
set_option linter.unusedVariables false
set_option maxRecDepth 100000
namespace Go.Proofs.YtegbnddjgifcdaaDoor.Abs
open Go Go.Proofs
def f_l_FnExactTermText : FuncId := 5
def f_l_szTerm : FuncId := 20
def f_l_toTerm : FuncId := 22
def f_s_TermText : FuncId := 21
def f_i_TermText : FuncId := 23
def f_l_eqTerm : FuncId := 24
def f_l_szTy : FuncId := 42
def f_l_szTyS : FuncId := 43
def f_l_szTermS : FuncId := 44
def f_l_toTy : FuncId := 47
def f_l_toTyS : FuncId := 48
def f_l_toTermS : FuncId := 49
def f_s_TermOk : FuncId := 45
def f_s_l2Text : FuncId := 46
def f_i_TermOk : FuncId := 50
def f_i_termTokens : FuncId := 51
def f_l_eqTy : FuncId := 8
def f_l_eqTyS : FuncId := 29
def f_l_eqTermS : FuncId := 52
def f_s_l2Look : FuncId := 69
def f_s_l2Word : FuncId := 70
def f_s_l2Int : FuncId := 71
def f_s_l1Text : FuncId := 72
def f_i_termSize : FuncId := 73
def f_i_headTokens : FuncId := 74
def f_s_l2One : FuncId := 85
def f_i_headOk : FuncId := 86
def f_i_boolWord : FuncId := 87
def f_i_termWords : FuncId := 88
def f_i_opSigns : FuncId := 89
def f_i_tyTokens : FuncId := 35
def f_i_hasT : FuncId := 90
def f_s_l2Of : FuncId := 99
def f_s_l2Number : FuncId := 100
def f_s_l2Name : FuncId := 101
def f_s_TyOk : FuncId := 15
def f_s_SameTy : FuncId := 102
def f_i_parts : FuncId := 103
def f_i_numberOk : FuncId := 104
def f_i_namesOk : FuncId := 105
def f_i_TyOk : FuncId := 16
def f_i_SameTy : FuncId := 17
def f_slices_ContainsFunc_Ty : FuncId := 67
def f_i_headOk_1 : FuncId := 106
def f_s_l1In : FuncId := 66
def f_s_l1Look : FuncId := 37
def f_i_in : FuncId := 116
def f_i_isName : FuncId := 117
def f_i_bindsS : FuncId := 118
def f_i_measure : FuncId := 36
def f_slices_EqualFunc_Ty : FuncId := 38
def f_slices_IndexFunc_Ty : FuncId := 84
def f_s_l1Args : FuncId := 54
def f_i_tyParts : FuncId := 58
def f_strings_Join : FuncId := 34
def f_strconv_Itoa : FuncId := 65
@[reducible] def k_l_szTyS_0 : LK := ⟨[(0, .sl), (1, .int .i64), (5, .int .i64)], []⟩
@[reducible] def k_l_szTermS_0 : LK := ⟨[(0, .sl), (1, .int .i64), (5, .int .i64)], []⟩
@[reducible] def k_l_toTyS_0 : LK := ⟨[(0, .sl), (3, .lr 0), (4, .int .i64)], [.arr true false 3]⟩
@[reducible] def k_l_toTermS_0 : LK := ⟨[(0, .sl), (3, .lr 0), (4, .int .i64)], [.arr true false 9]⟩
@[reducible] def k_s_l2Text_3 : LK := ⟨[(1, .lp 0), (3, .str), (5, .int .i64)], [.box [.int .i64, .int .i64, .str, .str, .int .i64, .int .i64, .sl, .sl, .sl]]⟩
@[reducible] def k_s_l2Text_1 : LK := ⟨[(1, .lp 0), (3, .str), (4, .int .i64)], [.box [.int .i64, .int .i64, .str, .str, .int .i64, .int .i64, .sl, .sl, .sl]]⟩
@[reducible] def kj_s_l2Text_0 : LK := ⟨[(1, .lp 0), (3, .str)], [.box [.int .i64, .int .i64, .str, .str, .int .i64, .int .i64, .sl, .sl, .sl]]⟩
@[reducible] def k_i_termTokens_0 : LK := ⟨[(0, .lr 0), (12, .sl), (13, .int .i64), (14, .int .i64)], [.arr true false 1]⟩
@[reducible] def k_l_eqTyS_0 : LK := ⟨[(0, .sl), (1, .sl), (5, .int .i64)], []⟩
@[reducible] def k_l_eqTermS_0 : LK := ⟨[(0, .sl), (1, .sl), (5, .int .i64)], []⟩
@[reducible] def k_s_l2Look_0 : LK := ⟨[(1, .int .i64), (2, .lp 0), (3, .lp 1), (7, .int .i64)], [.box [.int .i64], .box [.int .i64, .int .i64, .str, .str, .int .i64, .int .i64, .sl, .sl, .sl]]⟩
@[reducible] def k_s_l1Text_0 : LK := ⟨[(1, .lp 0), (3, .str), (4, .int .i64)], [.box [.int .i64, .int .i64, .sl]]⟩
@[reducible] def k_i_termSize_0 : LK := ⟨[(5, .int .i64), (6, .int .i64), (16, .sl), (17, .int .i64), (18, .int .i64)], []⟩
@[reducible] def k_i_headTokens_1 : LK := ⟨[(1, .lp 0), (3, .lr 1), (67, .sl), (68, .int .i64), (69, .int .i64)], [.box [.int .i64, .int .i64, .str, .str, .int .i64, .int .i64, .sl, .sl, .sl], .arr true false 1]⟩
@[reducible] def kj_i_headTokens_0 : LK := ⟨[(1, .lp 0), (3, .lr 1)], [.box [.int .i64, .int .i64, .str, .str, .int .i64, .int .i64, .sl, .sl, .sl], .arr true false 1]⟩
@[reducible] def k_s_l2One_0 : LK := ⟨[(1, .lp 0), (4, .int .i64)], [.box [.int .i64, .int .i64, .str, .str, .int .i64, .int .i64, .sl, .sl, .sl]]⟩
@[reducible] def k_i_tyTokens_0 : LK := ⟨[(0, .lr 0), (26, .sl), (27, .int .i64), (28, .int .i64)], [.arr true false 1]⟩
@[reducible] def k_s_l2Name_0 : LK := ⟨[(0, .str), (1, .bool), (5, .int .i64)], []⟩
@[reducible] def k_s_SameTy_0 : LK := ⟨[(2, .lp 0), (3, .lp 1), (5, .int .i64)], [.box [.int .i64, .int .i64, .sl], .box [.int .i64, .int .i64, .sl]]⟩
@[reducible] def k_s_l1Look_0 : LK := ⟨[(1, .int .i64), (2, .lp 0), (3, .lp 1), (7, .int .i64)], [.box [.int .i64], .box [.int .i64, .int .i64, .sl]]⟩
@[reducible] def k_i_isName_0 : LK := ⟨[(0, .str), (7, .int .i64), (8, .int .i64)], []⟩
@[reducible] def k_i_measure_0 : LK := ⟨[(5, .int .i64), (6, .int .i64), (35, .sl), (36, .int .i64), (37, .int .i64)], []⟩
@[reducible] def k_slices_EqualFunc_Ty_0 : LK := ⟨[(1, .sl), (2, .cv), (15, .sl), (16, .int .i64), (17, .int .i64)], []⟩
@[reducible] def k_slices_IndexFunc_Ty_0 : LK := ⟨[(0, .sl), (1, .cv), (7, .int .i64), (8, .int .i64)], []⟩
noncomputable def lc_l_szTyS_0 : Code := loopCode Tryd.prog 43 0
noncomputable def lc_l_szTermS_0 : Code := loopCode Tryd.prog 44 0
noncomputable def lc_l_toTyS_0 : Code := loopCode Tryd.prog 48 0
noncomputable def lc_l_toTermS_0 : Code := loopCode Tryd.prog 49 0
noncomputable def lc_s_l2Text_3 : Code := loopCode Tryd.prog 46 3
noncomputable def lc_s_l2Text_1 : Code := loopCode Tryd.prog 46 1
noncomputable def lc_i_termTokens_0 : Code := loopCode Tryd.prog 51 0
noncomputable def lc_l_eqTyS_0 : Code := loopCode Tryd.prog 29 0
noncomputable def lc_l_eqTermS_0 : Code := loopCode Tryd.prog 52 0
noncomputable def lc_s_l2Look_0 : Code := loopCode Tryd.prog 69 0
noncomputable def lc_s_l1Text_0 : Code := loopCode Tryd.prog 72 0
noncomputable def lc_i_termSize_0 : Code := loopCode Tryd.prog 73 0
noncomputable def lc_i_headTokens_1 : Code := loopCode Tryd.prog 74 1
noncomputable def lc_s_l2One_0 : Code := loopCode Tryd.prog 85 0
noncomputable def lc_i_tyTokens_0 : Code := loopCode Tryd.prog 35 0
noncomputable def lc_s_l2Name_0 : Code := loopCode Tryd.prog 101 0
noncomputable def lc_s_SameTy_0 : Code := loopCode Tryd.prog 102 0
noncomputable def lc_s_l1Look_0 : Code := loopCode Tryd.prog 37 0
noncomputable def lc_i_isName_0 : Code := loopCode Tryd.prog 117 0
noncomputable def lc_i_measure_0 : Code := loopCode Tryd.prog 36 0
noncomputable def lc_slices_EqualFunc_Ty_0 : Code := loopCode Tryd.prog 38 0
noncomputable def lc_slices_IndexFunc_Ty_0 : Code := loopCode Tryd.prog 84 0
def clT : Nat → Callee → Bool := fun d c => match d, c with | 13, .value (.func 22) => true | 24, .value (.func 22) => true | _, _ => false
noncomputable def E : Env where
  P := Tryd.prog
  pm := fun g j => match g, j with | 5, 0 => .bor | 20, 0 => .bor | 20, 1 => .bor | 21, 0 => .bor | 23, 0 => .bor | 24, 0 => .bor | 24, 1 => .bor | 42, 0 => .bor | 42, 1 => .bor | 43, 0 => .bor | 43, 1 => .bor | 44, 0 => .bor | 44, 1 => .bor | 45, 0 => .bor | 46, 0 => .bor | 50, 0 => .bor | 8, 0 => .bor | 8, 1 => .bor | 29, 0 => .bor | 29, 1 => .bor | 52, 0 => .bor | 52, 1 => .bor | 70, 0 => .bor | 71, 0 => .bor | 72, 0 => .bor | 85, 0 => .bor | 86, 0 => .bor | 87, 0 => .bor | 90, 0 => .bor | 100, 0 => .bor | 101, 0 => .bor | 101, 1 => .bor | 15, 0 => .bor | 102, 0 => .bor | 102, 1 => .bor | 103, 0 => .bor | 104, 0 => .bor | 104, 1 => .bor | 105, 0 => .bor | 105, 1 => .bor | 105, 2 => .bor | 16, 0 => .bor | 17, 0 => .bor | 17, 1 => .bor | 67, 0 => .bor | 67, 1 => .bor | 106, 0 => .bor | 66, 0 => .bor | 66, 1 => .bor | 66, 2 => .bor | 116, 0 => .bor | 116, 1 => .bor | 116, 2 => .bor | 117, 0 => .bor | 118, 0 => .bor | 38, 0 => .bor | 38, 1 => .bor | 38, 2 => .bor | 84, 0 => .bor | 84, 1 => .bor | 54, 0 => .bor | 58, 0 => .bor | 35, 0 => .pass | 51, 0 => .pass | _, _ => .cls
  rm := fun g => match g with | 35 => some 0 | 51 => some 0 | _ => none
  ow := fun g => match g with | 22 => some [46] | 47 => some [24] | 48 => some [22] | 49 => some [44] | _ => none
  cl := fun o => match o.op, o.dst with | .call c, some d => clT d c.callee | _, _ => false
  deep := fun t => match t with | 24 => true | 46 => true | 110 => true | _ => false
  frz := fun _ => none
  frzB := fun _ => none
  ext := fun g => match g with | 34 => some xJoin | 65 => some xItoa | _ => none
  prim := fun _ => none
def N : Ann where
  loop := fun f b => match f, b with
  | 43, 0 => some k_l_szTyS_0
  | 44, 0 => some k_l_szTermS_0
  | 48, 0 => some k_l_toTyS_0
  | 49, 0 => some k_l_toTermS_0
  | 46, 3 => some k_s_l2Text_3
  | 46, 1 => some k_s_l2Text_1
  | 51, 0 => some k_i_termTokens_0
  | 29, 0 => some k_l_eqTyS_0
  | 52, 0 => some k_l_eqTermS_0
  | 69, 0 => some k_s_l2Look_0
  | 72, 0 => some k_s_l1Text_0
  | 73, 0 => some k_i_termSize_0
  | 74, 1 => some k_i_headTokens_1
  | 85, 0 => some k_s_l2One_0
  | 35, 0 => some k_i_tyTokens_0
  | 101, 0 => some k_s_l2Name_0
  | 102, 0 => some k_s_SameTy_0
  | 37, 0 => some k_s_l1Look_0
  | 117, 0 => some k_i_isName_0
  | 36, 0 => some k_i_measure_0
  | 38, 0 => some k_slices_EqualFunc_Ty_0
  | 84, 0 => some k_slices_IndexFunc_Ty_0
  | _, _ => none
  join := fun f b => match f, b with
  | 46, 0 => some kj_s_l2Text_0
  | 74, 0 => some kj_i_headTokens_0
  | _, _ => none
  reg := fun f b => match f, b with
  | 46, 14 => some [(57, .bool)]
  | 50, 2 => some [(2, .bool)]
  | 69, 2 => some [(26, .bool)]
  | 85, 11 => some [(2, .bool)]
  | 85, 4 => some [(100, .bool)]
  | 85, 2 => some [(65, .bool)]
  | 86, 8 => some [(2, .bool)]
  | 86, 3 => some [(61, .bool)]
  | 86, 1 => some [(41, .bool)]
  | 90, 1 => some [(2, .bool)]
  | 101, 7 => some [(42, .bool)]
  | 101, 1 => some [(17, .bool)]
  | 102, 1 => some [(26, .bool)]
  | 105, 3 => some [(6, .bool)]
  | 105, 2 => some [(6, .bool)]
  | 16, 2 => some [(2, .bool)]
  | 17, 1 => some [(4, .bool)]
  | 66, 1 => some [(6, .bool)]
  | 37, 2 => some [(51, .bool)]
  | 116, 1 => some [(6, .bool)]
  | 117, 6 => some [(37, .bool)]
  | 117, 5 => some [(5, .bool)]
  | 118, 1 => some [(2, .bool)]
  | 36, 1 => some [(33, .bool)]
  | _, _ => none
noncomputable abbrev CC : CallT := Cw E N
noncomputable abbrev LL : LoopT := Lw E N
end Go.Proofs.YtegbnddjgifcdaaDoor.Abs
