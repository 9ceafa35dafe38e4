/- How the abstract machine takes the functions that laws.FnExactSameEnd, laws.FnExactTyOk, laws.FnExactTyNodes, laws.FnExactWrites reaches. -/
import Derived.Test.YtlgonbonnjkekaaOmega
import Derived.Test.YtlgonbonnjkekaaProg
set_option linter.unusedVariables false
set_option maxRecDepth 100000
namespace Go.Proofs.Ytlgonbonnjkekaa.Abs
open Go Go.Proofs
def f_l_FnExactSameEnd : FuncId := 4
def f_l_FnExactTyOk : FuncId := 6
def f_l_FnExactTyNodes : FuncId := 7
def f_l_FnExactWrites : FuncId := 8
def f_l_szOutcome : FuncId := 9
def f_l_toOutcome : FuncId := 11
def f_s_SameEnd : FuncId := 10
def f_i_SameEnd : FuncId := 12
def f_l_szTy : FuncId := 13
def f_l_toTy : FuncId := 15
def f_s_TyOk : FuncId := 18
def f_i_TyOk : FuncId := 19
def f_l_eqTy : FuncId := 17
def f_s_TyNodes : FuncId := 20
def f_i_TyNodes : FuncId := 21
def f_l_szIns : FuncId := 22
def f_l_toIns : FuncId := 24
def f_s_Writes : FuncId := 23
def f_i_Writes : FuncId := 25
def f_l_eqIns : FuncId := 26
def f_l_szTyS : FuncId := 27
def f_l_toTyS : FuncId := 28
def f_s_l1Look : FuncId := 31
def f_i_measure : FuncId := 32
def f_l_eqTyS : FuncId := 30
def f_l_szIntS : FuncId := 33
def f_l_toIntS : FuncId := 35
def f_s_l9Uses : FuncId := 34
def f_i_hasPart : FuncId := 36
def f_l_eqIntS : FuncId := 37
def f_s_l1Args : FuncId := 38
def f_s_l1In : FuncId := 39
def f_i_tyParts : FuncId := 40
def f_i_insForm : FuncId := 41
def f_slices_Contains_byte : FuncId := 42
def f_slices_Index_byte : FuncId := 43
@[reducible] def k_l_szTyS_0 : LK := ⟨[(0, .sl), (1, .int .i64), (5, .int .i64)], []⟩
@[reducible] def k_l_toTyS_0 : LK := ⟨[(0, .sl), (3, .lr 0), (4, .int .i64)], [.arr 3]⟩
@[reducible] def k_s_l1Look_0 : LK := ⟨[(1, .int .i64), (2, .lp 0), (3, .lp 1), (7, .int .i64)], [.box [.int .i64], .box [.int .i64, .int .i64, .sl]]⟩
@[reducible] def k_i_measure_0 : LK := ⟨[(5, .int .i64), (6, .int .i64), (35, .sl), (36, .int .i64), (37, .int .i64)], []⟩
@[reducible] def k_l_eqTyS_0 : LK := ⟨[(0, .sl), (1, .sl), (5, .int .i64)], []⟩
@[reducible] def k_l_toIntS_0 : LK := ⟨[(0, .sl), (3, .lr 0), (4, .int .i64)], [.arr 1]⟩
@[reducible] def k_l_eqIntS_0 : LK := ⟨[(0, .sl), (1, .sl), (5, .int .i64)], []⟩
@[reducible] def k_slices_Index_byte_0 : LK := ⟨[(0, .sl), (1, .int .u8), (7, .int .i64), (8, .int .i64)], []⟩
noncomputable def lc_l_szTyS_0 : Code := loopCode Try.prog 27 0
noncomputable def lc_l_toTyS_0 : Code := loopCode Try.prog 28 0
noncomputable def lc_s_l1Look_0 : Code := loopCode Try.prog 31 0
noncomputable def lc_i_measure_0 : Code := loopCode Try.prog 32 0
noncomputable def lc_l_eqTyS_0 : Code := loopCode Try.prog 30 0
noncomputable def lc_l_toIntS_0 : Code := loopCode Try.prog 35 0
noncomputable def lc_l_eqIntS_0 : Code := loopCode Try.prog 37 0
noncomputable def lc_slices_Index_byte_0 : Code := loopCode Try.prog 43 0
noncomputable def E : Env where
  P := Try.prog
  pm := fun _ _ => .cls
  rm := fun _ => none
  frz := fun _ => none
  frzB := fun _ => none
  prim := fun _ => none
def N : Ann where
  loop := fun f b => match f, b with
  | 27, 0 => some k_l_szTyS_0
  | 28, 0 => some k_l_toTyS_0
  | 31, 0 => some k_s_l1Look_0
  | 32, 0 => some k_i_measure_0
  | 30, 0 => some k_l_eqTyS_0
  | 35, 0 => some k_l_toIntS_0
  | 37, 0 => some k_l_eqIntS_0
  | 43, 0 => some k_slices_Index_byte_0
  | _, _ => none
  join := fun _ _ => none
  reg := fun f b => match f, b with
  | 10, 1 => some [(4, .bool)]
  | 12, 1 => some [(4, .bool)]
  | 19, 2 => some [(2, .bool)]
  | 23, 1 => some [(12, .bool)]
  | 25, 1 => some [(10, .bool)]
  | 31, 2 => some [(51, .bool)]
  | 32, 1 => some [(33, .bool)]
  | 39, 1 => some [(6, .bool)]
  | _, _ => none
noncomputable abbrev CC : CallT := Cw E N
noncomputable abbrev LL : LoopT := Lw E N
end Go.Proofs.Ytlgonbonnjkekaa.Abs
