/- How the abstract machine takes the functions that laws.FnTypes reaches. -/
import Derived.Test.YtegbnddjgifcdaaDoorOmega
import Derived.Test.YtegbnddjgifcdaaDoorProg
import Derived.Test.YtegbnddjgifcdaaDoorLibT
set_option linter.unusedVariables false
set_option maxRecDepth 100000
namespace Go.Proofs.YtegbnddjgifcdaaDoor.Abs
open Go Go.Proofs
def f_l_FnTypes : FuncId := 4
def f_l_big : FuncId := 11
def f_s_DrawTyText : FuncId := 12
def f_i_TyText : FuncId := 13
def f_i_TyNodes : FuncId := 14
def f_s_TyOk : FuncId := 15
def f_i_TyOk : FuncId := 16
def f_i_ParseTy : FuncId := 7
def f_i_SameTy : FuncId := 17
def f_i_VarsOf : FuncId := 18
def f_i_Ground : FuncId := 19
def f_s_l1New : FuncId := 32
def f_s_l1Any : FuncId := 33
def f_i_tyTokens : FuncId := 35
def f_i_measure : FuncId := 36
def f_s_l1Look : FuncId := 37
def f_i_tokens_ty : FuncId := 28
def f_slices_EqualFunc_Ty : FuncId := 38
def f_i_varsOf : FuncId := 39
def f_i_anyTy : FuncId := 40
def f_i_Ground_1 : FuncId := 41
def f_s_l1Ty : FuncId := 59
def f_s_l1Once : FuncId := 60
def f_s_l1Bend : FuncId := 61
def f_i_tyParts : FuncId := 58
def f_s_l1Args : FuncId := 54
def f_s_l1In : FuncId := 66
def f_i_tokens_next : FuncId := 56
def f_slices_Index_string : FuncId := 57
def f_slices_ContainsFunc_Ty : FuncId := 67
def f_i_anyTy_1 : FuncId := 68
def f_s_l1Int : FuncId := 78
def f_s_l1Below : FuncId := 79
def f_s_l1Copy : FuncId := 80
def f_slices_IndexFunc_Ty : FuncId := 84
def f_s_l1Byte : FuncId := 95
def f_strings_Split : FuncId := 27
def f_strings_Join : FuncId := 34
def f_strconv_Itoa : FuncId := 65
@[reducible] def k_s_l1New_0 : LK := ⟨[(0, .sl), (3, .int .i64), (4, .int .i64)], []⟩
@[reducible] def k_i_tyTokens_0 : LK := ⟨[(0, .lr 0), (26, .sl), (27, .int .i64), (28, .int .i64)], [.arr true false 1]⟩
@[reducible] def k_i_measure_0 : LK := ⟨[(5, .int .i64), (6, .int .i64), (35, .sl), (36, .int .i64), (37, .int .i64)], []⟩
@[reducible] def k_s_l1Look_0 : LK := ⟨[(1, .int .i64), (2, .lp 0), (3, .lp 1), (7, .int .i64)], [.box [.int .i64], .box [.int .i64, .int .i64, .sl]]⟩
@[reducible] def k_i_tokens_ty_0 : LK := ⟨[(0, .lp 0), (1, .int .i64), (4, .lp 1), (7, .lp 3), (37, .int .i64), (38, .int .i64)], [.box [.sl, .bool], .box [.int .i64, .int .i64, .lr 2], .arr false false 3, .box [.int .i64, .int .i64, .lr 4], .arr false false 3]⟩
@[reducible] def k_slices_EqualFunc_Ty_0 : LK := ⟨[(1, .sl), (2, .cv), (15, .sl), (16, .int .i64), (17, .int .i64)], []⟩
@[reducible] def k_i_varsOf_0 : LK := ⟨[(3, .int .i64), (13, .sl), (14, .int .i64), (15, .int .i64)], []⟩
@[reducible] def k_s_l1Ty_0 : LK := ⟨[(0, .lp 0), (1, .int .i64), (2, .int .i64), (6, .lp 1), (7, .int .i64), (8, .lp 3), (9, .int .i64)], [.box [.sl, .int .i64, .int .i64], .box [.int .i64, .int .i64, .lr 2], .arr false false 3, .box [.int .i64, .int .i64, .lr 4], .arr false false 3]⟩
@[reducible] def k_s_l1Bend_1 : LK := ⟨[(3, .lp 1), (4, .lp 3), (6, .int .i64)], [.box [.sl, .int .i64, .int .i64], .box [.int .i64, .int .i64, .lr 2], .arr false false 3, .box [.int .i64, .int .i64, .lr 4], .arr false false 3]⟩
@[reducible] def k_slices_Index_string_0 : LK := ⟨[(0, .sl), (1, .str), (7, .int .i64), (8, .int .i64)], []⟩
@[reducible] def k_s_l1Copy_0 : LK := ⟨[(1, .lp 0), (2, .lp 1), (3, .lp 3), (4, .int .i64)], [.box [.int .i64, .int .i64, .sl], .box [.int .i64, .int .i64, .lr 2], .arr false false 3, .box [.int .i64, .int .i64, .lr 4], .arr false false 3]⟩
@[reducible] def k_slices_IndexFunc_Ty_0 : LK := ⟨[(0, .sl), (1, .cv), (7, .int .i64), (8, .int .i64)], []⟩
noncomputable def lc_s_l1New_0 : Code := loopCode Tryd.prog 32 0
noncomputable def lc_i_tyTokens_0 : Code := loopCode Tryd.prog 35 0
noncomputable def lc_i_measure_0 : Code := loopCode Tryd.prog 36 0
noncomputable def lc_s_l1Look_0 : Code := loopCode Tryd.prog 37 0
noncomputable def lc_i_tokens_ty_0 : Code := loopCode Tryd.prog 28 0
noncomputable def lc_slices_EqualFunc_Ty_0 : Code := loopCode Tryd.prog 38 0
noncomputable def lc_i_varsOf_0 : Code := loopCode Tryd.prog 39 0
noncomputable def lc_s_l1Ty_0 : Code := loopCode Tryd.prog 59 0
noncomputable def lc_s_l1Bend_1 : Code := loopCode Tryd.prog 61 1
noncomputable def lc_slices_Index_string_0 : Code := loopCode Tryd.prog 57 0
noncomputable def lc_s_l1Copy_0 : Code := loopCode Tryd.prog 80 0
noncomputable def lc_slices_IndexFunc_Ty_0 : Code := loopCode Tryd.prog 84 0
def clT : Nat → Callee → Bool := fun _ _ => false
noncomputable def E : Env where
  P := Tryd.prog
  pm := fun g j => match g, j with | 4, 0 => .bor | 11, 0 => .bor | 13, 0 => .bor | 14, 0 => .bor | 15, 0 => .bor | 16, 0 => .bor | 17, 0 => .bor | 17, 1 => .bor | 18, 0 => .bor | 19, 0 => .bor | 38, 0 => .bor | 38, 1 => .bor | 38, 2 => .bor | 39, 0 => .bor | 40, 0 => .bor | 40, 1 => .bor | 41, 0 => .bor | 58, 0 => .bor | 54, 0 => .bor | 66, 0 => .bor | 66, 1 => .bor | 66, 2 => .bor | 57, 0 => .bor | 57, 1 => .bor | 67, 0 => .bor | 67, 1 => .bor | 84, 0 => .bor | 84, 1 => .bor | 35, 0 => .pass | _, _ => .cls
  rm := fun g => match g with | 35 => some 0 | _ => none
  ow := fun g => match g with | 32 => some [63] | 80 => some [33554456] | _ => none
  cl := fun o => match o.op, o.dst with | .call c, some d => clT d c.callee | _, _ => false
  deep := fun _ => false
  frz := fun _ => none
  frzB := fun o => match o.op, o.dst with | .box 35 (.tmp _), some 3 => some false | _, _ => none
  ext := fun g => match g with | 27 => some xSplit | 34 => some xJoin | 65 => some xItoa | _ => none
  prim := fun _ => none
def N : Ann where
  loop := fun f b => match f, b with
  | 32, 0 => some k_s_l1New_0
  | 35, 0 => some k_i_tyTokens_0
  | 36, 0 => some k_i_measure_0
  | 37, 0 => some k_s_l1Look_0
  | 28, 0 => some k_i_tokens_ty_0
  | 38, 0 => some k_slices_EqualFunc_Ty_0
  | 39, 0 => some k_i_varsOf_0
  | 59, 0 => some k_s_l1Ty_0
  | 61, 1 => some k_s_l1Bend_1
  | 57, 0 => some k_slices_Index_string_0
  | 80, 0 => some k_s_l1Copy_0
  | 84, 0 => some k_slices_IndexFunc_Ty_0
  | _, _ => none
  join := fun _ _ => none
  reg := fun f b => match f, b with
  | 4, 9 => some [(2, .bool)]
  | 4, 7 => some [(2, .bool)]
  | 16, 2 => some [(2, .bool)]
  | 7, 3 => some [(28, .bool)]
  | 17, 1 => some [(4, .bool)]
  | 19, 1 => some [(2, .bool)]
  | 32, 3 => some [(15, .bool)]
  | 36, 1 => some [(33, .bool)]
  | 37, 2 => some [(51, .bool)]
  | 28, 6 => some [(30, .bool)]
  | 40, 1 => some [(4, .bool)]
  | 59, 2 => some [(26, .bool)]
  | 66, 1 => some [(6, .bool)]
  | 56, 1 => some [(15, .bool)]
  | _, _ => none
noncomputable abbrev CC : CallT := Cw E N
noncomputable abbrev LL : LoopT := Lw E N
end Go.Proofs.YtegbnddjgifcdaaDoor.Abs
