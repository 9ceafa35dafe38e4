/- How the abstract machine takes the functions that laws.FnExactParseTy reaches. -/
import Derived.Test.YtegbnddjgifcdaaDoorOmega
import Derived.Test.YtegbnddjgifcdaaDoorProg
import Derived.Test.YtegbnddjgifcdaaDoorLib
set_option linter.unusedVariables false
set_option maxRecDepth 100000
namespace Go.Proofs.YtegbnddjgifcdaaDoor.Abs
open Go Go.Proofs
def f_l_FnExactParseTy : FuncId := 3
def f_s_ParseTy : FuncId := 6
def f_i_ParseTy : FuncId := 7
def f_l_eqTy : FuncId := 8
def f_l_markTy : FuncId := 9
def f_l_heldTy : FuncId := 10
def f_s_l1Split : FuncId := 25
def f_s_l1Read : FuncId := 26
def f_s_TyOk : FuncId := 15
def f_i_tokens_ty : FuncId := 28
def f_i_TyOk : FuncId := 16
def f_l_eqTyS : FuncId := 29
def f_l_markTyS : FuncId := 30
def f_l_heldTyS : FuncId := 31
def f_s_l1Next : FuncId := 53
def f_s_l1Args : FuncId := 54
def f_s_l1Look : FuncId := 37
def f_i_tokens_next : FuncId := 56
def f_slices_Index_string : FuncId := 57
def f_i_tyParts : FuncId := 58
def f_i_measure : FuncId := 36
def f_s_l1In : FuncId := 66
def f_strings_Split : FuncId := 27
@[reducible] def k_s_l1Split_0 : LK := ⟨[(0, .str), (3, .lr 0), (4, .int .i64), (5, .int .i64)], [.arr true false 1]⟩
@[reducible] def k_s_l1Read_1 : LK := ⟨[(0, .lp 0), (1, .int .i64), (4, .lp 1), (6, .lp 3), (7, .int .i64)], [.box [.sl, .int .i64, .bool], .box [.int .i64, .int .i64, .lr 2], .arr true false 3, .box [.int .i64, .int .i64, .lr 4], .arr true false 3]⟩
@[reducible] def k_i_tokens_ty_0 : LK := ⟨[(0, .lp 0), (1, .int .i64), (4, .lp 1), (7, .lp 3), (37, .int .i64), (38, .int .i64)], [.box [.sl, .bool], .box [.int .i64, .int .i64, .lr 2], .arr true false 3, .box [.int .i64, .int .i64, .lr 4], .arr true false 3]⟩
@[reducible] def k_l_eqTyS_0 : LK := ⟨[(0, .sl), (1, .sl), (5, .int .i64)], []⟩
@[reducible] def k_l_markTyS_0 : LK := ⟨[(0, .lr 0), (1, .int .i64), (5, .int .i64)], [.arr true true 3]⟩
@[reducible] def k_l_heldTyS_0 : LK := ⟨[(0, .sl), (1, .int .i64), (5, .int .i64)], []⟩
@[reducible] def k_s_l1Look_0 : LK := ⟨[(1, .int .i64), (2, .lp 0), (3, .lp 1), (7, .int .i64)], [.box [.int .i64], .box [.int .i64, .int .i64, .sl]]⟩
@[reducible] def k_slices_Index_string_0 : LK := ⟨[(0, .sl), (1, .str), (7, .int .i64), (8, .int .i64)], []⟩
@[reducible] def k_i_measure_0 : LK := ⟨[(5, .int .i64), (6, .int .i64), (35, .sl), (36, .int .i64), (37, .int .i64)], []⟩
noncomputable def lc_s_l1Split_0 : Code := loopCode Tryd.prog 25 0
noncomputable def lc_s_l1Read_1 : Code := loopCode Tryd.prog 26 1
noncomputable def lc_i_tokens_ty_0 : Code := loopCode Tryd.prog 28 0
noncomputable def lc_l_eqTyS_0 : Code := loopCode Tryd.prog 29 0
noncomputable def lc_l_markTyS_0 : Code := loopCode Tryd.prog 30 0
noncomputable def lc_l_heldTyS_0 : Code := loopCode Tryd.prog 31 0
noncomputable def lc_s_l1Look_0 : Code := loopCode Tryd.prog 37 0
noncomputable def lc_slices_Index_string_0 : Code := loopCode Tryd.prog 57 0
noncomputable def lc_i_measure_0 : Code := loopCode Tryd.prog 36 0
def clT : Nat → Callee → Bool := fun _ _ => false
noncomputable def E : Env where
  P := Tryd.prog
  pm := fun g j => match g, j with | 3, 0 => .bor | 8, 0 => .bor | 8, 1 => .bor | 10, 0 => .bor | 10, 1 => .bor | 15, 0 => .bor | 16, 0 => .bor | 29, 0 => .bor | 29, 1 => .bor | 31, 0 => .bor | 31, 1 => .bor | 54, 0 => .bor | 57, 0 => .bor | 57, 1 => .bor | 58, 0 => .bor | 66, 0 => .bor | 66, 1 => .bor | 66, 2 => .bor | 9, 0 => .inp | 30, 0 => .inp | _, _ => .cls
  rm := fun _ => none
  ow := fun g => match g with | 7 => some [24, 4] | 26 => some [24] | 28 => some [24] | _ => none
  cl := fun o => match o.op, o.dst with | .call c, some d => clT d c.callee | _, _ => false
  deep := fun t => match t with | 24 => true | 46 => true | 110 => true | _ => false
  frz := fun _ => none
  frzB := fun _ => none
  ext := fun g => match g with | 27 => some xSplit | _ => none
  prim := fun _ => none
def N : Ann where
  loop := fun f b => match f, b with
  | 25, 0 => some k_s_l1Split_0
  | 26, 1 => some k_s_l1Read_1
  | 28, 0 => some k_i_tokens_ty_0
  | 29, 0 => some k_l_eqTyS_0
  | 30, 0 => some k_l_markTyS_0
  | 31, 0 => some k_l_heldTyS_0
  | 37, 0 => some k_s_l1Look_0
  | 57, 0 => some k_slices_Index_string_0
  | 36, 0 => some k_i_measure_0
  | _, _ => none
  join := fun _ _ => none
  reg := fun f b => match f, b with
  | 3, 16 => some [(57, .bool)]
  | 3, 5 => some [(32, .bool)]
  | 6, 3 => some [(32, .bool)]
  | 7, 3 => some [(28, .bool)]
  | 25, 6 => some [(22, .bool)]
  | 26, 21 => some [(57, .bool)]
  | 26, 18 => some [(42, .bool)]
  | 28, 6 => some [(30, .bool)]
  | 16, 2 => some [(2, .bool)]
  | 53, 1 => some [(18, .bool)]
  | 37, 2 => some [(51, .bool)]
  | 56, 1 => some [(15, .bool)]
  | 36, 1 => some [(33, .bool)]
  | 66, 1 => some [(6, .bool)]
  | _, _ => none
noncomputable abbrev CC : CallT := Cw E N
noncomputable abbrev LL : LoopT := Lw E N
end Go.Proofs.YtegbnddjgifcdaaDoor.Abs
