/- How the abstract machine takes the functions that laws.FnExactInsText, laws.FnExactTyText reaches. -/
import Derived.Test.YtomkegeojknihaaDoorOmega
import Derived.Test.YtomkegeojknihaaDoorProg
import Derived.Test.YtomkegeojknihaaDoorLib
set_option linter.unusedVariables false
set_option maxRecDepth 100000
namespace Go.Proofs.YtomkegeojknihaaDoor.Abs
open Go Go.Proofs
def f_l_FnExactInsText : FuncId := 4
def f_l_FnExactTyText : FuncId := 3
def f_l_szIns : FuncId := 12
def f_l_toIns : FuncId := 14
def f_s_InsText : FuncId := 13
def f_i_InsText : FuncId := 15
def f_l_eqIns : FuncId := 16
def f_l_szTy : FuncId := 7
def f_l_toTy : FuncId := 9
def f_s_TyText : FuncId := 8
def f_i_TyText : FuncId := 10
def f_l_eqTy : FuncId := 11
def f_l_szIntS : FuncId := 35
def f_l_toIntS : FuncId := 37
def f_s_l9Int : FuncId := 36
def f_l_eqIntS : FuncId := 39
def f_l_szTyS : FuncId := 27
def f_l_toTyS : FuncId := 30
def f_s_TyOk : FuncId := 28
def f_s_l1Text : FuncId := 29
def f_i_TyOk : FuncId := 31
def f_i_tyTokens : FuncId := 33
def f_l_eqTyS : FuncId := 34
def f_s_l2Int : FuncId := 50
def f_s_l1Look : FuncId := 60
def f_i_measure : FuncId := 61
def f_s_l1Args : FuncId := 92
def f_s_l1In : FuncId := 73
def f_i_tyParts : FuncId := 93
def f_strings_Join : FuncId := 32
def f_strconv_Itoa : FuncId := 38
@[reducible] def k_s_InsText_0 : LK := ⟨[(1, .lp 0), (3, .str), (4, .int .i64)], [.box [.int .i64, .int .i64, .int .i64, .int .i64, .int .i64, .sl, .int .i64]]⟩
@[reducible] def k_i_InsText_0 : LK := ⟨[(3, .str), (21, .lr 0), (22, .int .i64), (23, .int .i64)], [.arr 1]⟩
@[reducible] def k_l_toIntS_0 : LK := ⟨[(0, .sl), (3, .lr 0), (4, .int .i64)], [.arr 1]⟩
@[reducible] def k_l_eqIntS_0 : LK := ⟨[(0, .sl), (1, .sl), (5, .int .i64)], []⟩
@[reducible] def k_l_szTyS_0 : LK := ⟨[(0, .sl), (1, .int .i64), (5, .int .i64)], []⟩
@[reducible] def k_l_toTyS_0 : LK := ⟨[(0, .sl), (3, .lr 0), (4, .int .i64)], [.arr 3]⟩
@[reducible] def k_s_l1Text_0 : LK := ⟨[(1, .lp 0), (3, .str), (4, .int .i64)], [.box [.int .i64, .int .i64, .sl]]⟩
@[reducible] def k_i_tyTokens_0 : LK := ⟨[(0, .lr 0), (26, .sl), (27, .int .i64), (28, .int .i64)], [.arr 1]⟩
@[reducible] def k_l_eqTyS_0 : LK := ⟨[(0, .sl), (1, .sl), (5, .int .i64)], []⟩
@[reducible] def k_s_l1Look_0 : LK := ⟨[(1, .int .i64), (2, .lp 0), (3, .lp 1), (7, .int .i64)], [.box [.int .i64], .box [.int .i64, .int .i64, .sl]]⟩
@[reducible] def k_i_measure_0 : LK := ⟨[(5, .int .i64), (6, .int .i64), (35, .sl), (36, .int .i64), (37, .int .i64)], []⟩
noncomputable def lc_s_InsText_0 : Code := loopCode Tryd.prog 13 0
noncomputable def lc_i_InsText_0 : Code := loopCode Tryd.prog 15 0
noncomputable def lc_l_toIntS_0 : Code := loopCode Tryd.prog 37 0
noncomputable def lc_l_eqIntS_0 : Code := loopCode Tryd.prog 39 0
noncomputable def lc_l_szTyS_0 : Code := loopCode Tryd.prog 27 0
noncomputable def lc_l_toTyS_0 : Code := loopCode Tryd.prog 30 0
noncomputable def lc_s_l1Text_0 : Code := loopCode Tryd.prog 29 0
noncomputable def lc_i_tyTokens_0 : Code := loopCode Tryd.prog 33 0
noncomputable def lc_l_eqTyS_0 : Code := loopCode Tryd.prog 34 0
noncomputable def lc_s_l1Look_0 : Code := loopCode Tryd.prog 60 0
noncomputable def lc_i_measure_0 : Code := loopCode Tryd.prog 61 0
noncomputable def E : Env where
  P := Tryd.prog
  pm := fun g j => match g, j with | 33, 0 => .pass | _, _ => .cls
  rm := fun g => match g with | 33 => some 0 | _ => none
  frz := fun _ => none
  frzB := fun _ => none
  ext := fun g => match g with | 38 => some xItoa | 32 => some xJoin | _ => none
  prim := fun _ => none
def N : Ann where
  loop := fun f b => match f, b with
  | 13, 0 => some k_s_InsText_0
  | 15, 0 => some k_i_InsText_0
  | 37, 0 => some k_l_toIntS_0
  | 39, 0 => some k_l_eqIntS_0
  | 27, 0 => some k_l_szTyS_0
  | 30, 0 => some k_l_toTyS_0
  | 29, 0 => some k_s_l1Text_0
  | 33, 0 => some k_i_tyTokens_0
  | 34, 0 => some k_l_eqTyS_0
  | 60, 0 => some k_s_l1Look_0
  | 61, 0 => some k_i_measure_0
  | _, _ => none
  join := fun _ _ => none
  reg := fun f b => match f, b with
  | 31, 2 => some [(2, .bool)]
  | 60, 2 => some [(51, .bool)]
  | 61, 1 => some [(33, .bool)]
  | 73, 1 => some [(6, .bool)]
  | _, _ => none
noncomputable abbrev CC : CallT := Cw E N
noncomputable abbrev LL : LoopT := Lw E N
end Go.Proofs.YtomkegeojknihaaDoor.Abs
