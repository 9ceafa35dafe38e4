/- How the abstract machine takes the functions that laws.FnExactGround, laws.FnExactVarsOf reaches. -/
import Derived.Test.YtdbgiclddcphfaaOmega
import Derived.Test.YtdbgiclddcphfaaProg
set_option linter.unusedVariables false
set_option maxRecDepth 100000
namespace Go.Proofs.Ytdbgiclddcphfaa.Abs
open Go Go.Proofs
def f_l_FnExactGround : FuncId := 3
def f_l_FnExactVarsOf : FuncId := 4
def f_l_szTy : FuncId := 15
def f_l_toTy : FuncId := 17
def f_s_Ground : FuncId := 16
def f_i_Ground : FuncId := 18
def f_l_eqTy : FuncId := 19
def f_s_VarsOf : FuncId := 20
def f_i_VarsOf : FuncId := 21
def f_l_szTyS : FuncId := 56
def f_l_toTyS : FuncId := 59
def f_s_TyOk : FuncId := 57
def f_s_l1Vars : FuncId := 58
def f_i_TyOk : FuncId := 38
def f_i_anyTy : FuncId := 60
def f_i_Ground_1 : FuncId := 61
def f_l_eqTyS : FuncId := 62
def f_i_varsOf : FuncId := 63
def f_s_l1Look : FuncId := 101
def f_i_measure : FuncId := 83
def f_slices_ContainsFunc_Ty : FuncId := 79
def f_i_anyTy_1 : FuncId := 102
def f_s_l1Args : FuncId := 131
def f_s_l1In : FuncId := 104
def f_i_tyParts : FuncId := 115
def f_slices_IndexFunc_Ty : FuncId := 112
@[reducible] def k_l_szTyS_0 : LK := ⟨[(0, .sl), (1, .int .i64), (5, .int .i64)], []⟩
@[reducible] def k_l_toTyS_0 : LK := ⟨[(0, .sl), (3, .lr 0), (4, .int .i64)], [.arr 3]⟩
@[reducible] def k_s_l1Vars_0 : LK := ⟨[(1, .lp 0), (3, .int .i64), (4, .int .i64)], [.box [.int .i64, .int .i64, .sl]]⟩
@[reducible] def k_l_eqTyS_0 : LK := ⟨[(0, .sl), (1, .sl), (5, .int .i64)], []⟩
@[reducible] def k_i_varsOf_0 : LK := ⟨[(3, .int .i64), (13, .sl), (14, .int .i64), (15, .int .i64)], []⟩
@[reducible] def k_s_l1Look_0 : LK := ⟨[(1, .int .i64), (2, .lp 0), (3, .lp 1), (7, .int .i64)], [.box [.int .i64], .box [.int .i64, .int .i64, .sl]]⟩
@[reducible] def k_i_measure_0 : LK := ⟨[(5, .int .i64), (6, .int .i64), (35, .sl), (36, .int .i64), (37, .int .i64)], []⟩
@[reducible] def k_slices_IndexFunc_Ty_0 : LK := ⟨[(0, .sl), (1, .cv), (7, .int .i64), (8, .int .i64)], []⟩
noncomputable def lc_l_szTyS_0 : Code := loopCode Try.prog 56 0
noncomputable def lc_l_toTyS_0 : Code := loopCode Try.prog 59 0
noncomputable def lc_s_l1Vars_0 : Code := loopCode Try.prog 58 0
noncomputable def lc_l_eqTyS_0 : Code := loopCode Try.prog 62 0
noncomputable def lc_i_varsOf_0 : Code := loopCode Try.prog 63 0
noncomputable def lc_s_l1Look_0 : Code := loopCode Try.prog 101 0
noncomputable def lc_i_measure_0 : Code := loopCode Try.prog 83 0
noncomputable def lc_slices_IndexFunc_Ty_0 : Code := loopCode Try.prog 112 0
noncomputable def E : Env where
  P := Try.prog
  pm := fun _ _ => .cls
  rm := fun _ => none
  frz := fun _ => none
  frzB := fun o => match o.op, o.dst with | .box 26 (.tmp _), some 3 => some false | _, _ => none
  prim := fun _ => none
def N : Ann where
  loop := fun f b => match f, b with
  | 56, 0 => some k_l_szTyS_0
  | 59, 0 => some k_l_toTyS_0
  | 58, 0 => some k_s_l1Vars_0
  | 62, 0 => some k_l_eqTyS_0
  | 63, 0 => some k_i_varsOf_0
  | 101, 0 => some k_s_l1Look_0
  | 83, 0 => some k_i_measure_0
  | 112, 0 => some k_slices_IndexFunc_Ty_0
  | _, _ => none
  join := fun _ _ => none
  reg := fun f b => match f, b with
  | 16, 1 => some [(2, .bool)]
  | 18, 1 => some [(2, .bool)]
  | 38, 2 => some [(2, .bool)]
  | 60, 1 => some [(4, .bool)]
  | 101, 2 => some [(51, .bool)]
  | 83, 1 => some [(33, .bool)]
  | 104, 1 => some [(6, .bool)]
  | _, _ => none
noncomputable abbrev CC : CallT := Cw E N
noncomputable abbrev LL : LoopT := Lw E N
end Go.Proofs.Ytdbgiclddcphfaa.Abs
