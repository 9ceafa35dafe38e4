/- How the abstract machine takes the functions that laws.FnExactSubstTy reaches. -/
import Derived.Test.YtjndiaahgjhaeaaOmega
import Derived.Test.YtjndiaahgjhaeaaProg
set_option linter.unusedVariables false
set_option maxRecDepth 100000
namespace Go.Proofs.Ytjndiaahgjhaeaa.Abs
open Go Go.Proofs
def f_l_FnExactSubstTy : FuncId := 3
def f_l_szTy : FuncId := 11
def f_l_szTyS : FuncId := 12
def f_l_toTy : FuncId := 14
def f_l_toTyS : FuncId := 15
def f_s_SubstTy : FuncId := 13
def f_i_SubstTy : FuncId := 16
def f_l_eqTy : FuncId := 17
def f_l_eqTyS : FuncId := 18
def f_l_markTy : FuncId := 19
def f_l_markTyS : FuncId := 20
def f_l_heldTy : FuncId := 21
def f_s_TyOk : FuncId := 56
def f_s_l1Vars : FuncId := 57
def f_s_l1Put : FuncId := 58
def f_i_TyOk : FuncId := 59
def f_slices_ContainsFunc_Ty : FuncId := 60
def f_i_VarsOf : FuncId := 62
def f_i_subst : FuncId := 63
def f_i_SubstTy_1 : FuncId := 61
def f_l_heldTyS : FuncId := 64
def f_s_l1Look : FuncId := 99
def f_s_l1Copy : FuncId := 100
def f_i_measure : FuncId := 101
def f_slices_IndexFunc_Ty : FuncId := 102
def f_i_varsOf : FuncId := 103
def f_i_cloneTy : FuncId := 104
def f_s_l1Args : FuncId := 127
def f_s_l1In : FuncId := 72
def f_i_tyParts : FuncId := 128
@[reducible] def k_l_szTyS_0 : LK := ⟨[(0, .sl), (1, .int .i64), (5, .int .i64)], []⟩
@[reducible] def k_l_toTyS_0 : LK := ⟨[(0, .sl), (3, .lr 0), (4, .int .i64)], [.arr true false 3]⟩
@[reducible] def k_s_SubstTy_0 : LK := ⟨[(1, .sl), (2, .lp 0), (4, .lp 1), (6, .int .i64)], [.box [.int .i64, .int .i64, .sl], .box [.int .i64, .int .i64, .lr 2], .arr true false 3]⟩
@[reducible] def k_l_eqTyS_0 : LK := ⟨[(0, .sl), (1, .sl), (5, .int .i64)], []⟩
@[reducible] def k_l_markTyS_0 : LK := ⟨[(0, .lr 0), (1, .int .i64), (5, .int .i64)], [.arr true true 3]⟩
@[reducible] def k_s_l1Vars_0 : LK := ⟨[(1, .lp 0), (3, .int .i64), (4, .int .i64)], [.box [.int .i64, .int .i64, .sl]]⟩
@[reducible] def k_s_l1Put_0 : LK := ⟨[(1, .sl), (2, .lp 0), (4, .lp 1), (5, .lp 3), (6, .int .i64)], [.box [.int .i64, .int .i64, .sl], .box [.int .i64, .int .i64, .lr 2], .arr true false 3, .box [.int .i64, .int .i64, .lr 4], .arr true false 3]⟩
@[reducible] def k_i_subst_0 : LK := ⟨[(1, .sl), (4, .lp 0), (5, .lp 2), (23, .sl), (24, .int .i64), (25, .int .i64)], [.box [.int .i64, .int .i64, .lr 1], .arr true false 3, .box [.int .i64, .int .i64, .lr 3], .arr true false 3]⟩
@[reducible] def k_l_heldTyS_0 : LK := ⟨[(0, .sl), (1, .int .i64), (5, .int .i64)], []⟩
@[reducible] def k_s_l1Look_0 : LK := ⟨[(1, .int .i64), (2, .lp 0), (3, .lp 1), (7, .int .i64)], [.box [.int .i64], .box [.int .i64, .int .i64, .sl]]⟩
@[reducible] def k_s_l1Copy_0 : LK := ⟨[(1, .lp 0), (2, .lp 1), (3, .lp 3), (4, .int .i64)], [.box [.int .i64, .int .i64, .sl], .box [.int .i64, .int .i64, .lr 2], .arr true false 3, .box [.int .i64, .int .i64, .lr 4], .arr true false 3]⟩
@[reducible] def k_i_measure_0 : LK := ⟨[(5, .int .i64), (6, .int .i64), (35, .sl), (36, .int .i64), (37, .int .i64)], []⟩
@[reducible] def k_slices_IndexFunc_Ty_0 : LK := ⟨[(0, .sl), (1, .cv), (7, .int .i64), (8, .int .i64)], []⟩
@[reducible] def k_i_varsOf_0 : LK := ⟨[(3, .int .i64), (13, .sl), (14, .int .i64), (15, .int .i64)], []⟩
@[reducible] def k_i_cloneTy_0 : LK := ⟨[(2, .lp 0), (3, .lp 2), (12, .sl), (13, .int .i64), (14, .int .i64)], [.box [.int .i64, .int .i64, .lr 1], .arr true false 3, .box [.int .i64, .int .i64, .lr 3], .arr true false 3]⟩
noncomputable def lc_l_szTyS_0 : Code := loopCode Try.prog 12 0
noncomputable def lc_l_toTyS_0 : Code := loopCode Try.prog 15 0
noncomputable def lc_s_SubstTy_0 : Code := loopCode Try.prog 13 0
noncomputable def lc_l_eqTyS_0 : Code := loopCode Try.prog 18 0
noncomputable def lc_l_markTyS_0 : Code := loopCode Try.prog 20 0
noncomputable def lc_s_l1Vars_0 : Code := loopCode Try.prog 57 0
noncomputable def lc_s_l1Put_0 : Code := loopCode Try.prog 58 0
noncomputable def lc_i_subst_0 : Code := loopCode Try.prog 63 0
noncomputable def lc_l_heldTyS_0 : Code := loopCode Try.prog 64 0
noncomputable def lc_s_l1Look_0 : Code := loopCode Try.prog 99 0
noncomputable def lc_s_l1Copy_0 : Code := loopCode Try.prog 100 0
noncomputable def lc_i_measure_0 : Code := loopCode Try.prog 101 0
noncomputable def lc_slices_IndexFunc_Ty_0 : Code := loopCode Try.prog 102 0
noncomputable def lc_i_varsOf_0 : Code := loopCode Try.prog 103 0
noncomputable def lc_i_cloneTy_0 : Code := loopCode Try.prog 104 0
def clT : Nat → Callee → Bool := fun d c => match d, c with | 29, .value (.func 14) => true | 31, .value (.func 15) => true | 56, .value (.func 14) => true | 61, .value (.func 15) => true | 96, .value (.func 14) => true | 98, .value (.func 15) => true | _, _ => false
noncomputable def E : Env where
  P := Try.prog
  pm := fun g j => match g, j with | 3, 0 => .bor | 3, 1 => .bor | 11, 0 => .bor | 11, 1 => .bor | 12, 0 => .bor | 12, 1 => .bor | 17, 0 => .bor | 17, 1 => .bor | 18, 0 => .bor | 18, 1 => .bor | 21, 0 => .bor | 21, 1 => .bor | 56, 0 => .bor | 57, 0 => .bor | 59, 0 => .bor | 60, 0 => .bor | 60, 1 => .bor | 62, 0 => .bor | 61, 0 => .bor | 64, 0 => .bor | 64, 1 => .bor | 102, 0 => .bor | 102, 1 => .bor | 103, 0 => .bor | 127, 0 => .bor | 72, 0 => .bor | 72, 1 => .bor | 72, 2 => .bor | 128, 0 => .bor | 16, 0 => .bor | 16, 1 => .bor | 19, 0 => .inp | 20, 0 => .inp | 58, 0 => .bor | 58, 1 => .bor | 63, 0 => .bor | 63, 1 => .bor | _, _ => .cls
  rm := fun _ => none
  ow := fun g => match g with | 14 => some [29] | 15 => some [27] | 16 => some [29, 4] | 58 => some [29] | 63 => some [29] | 100 => some [29] | 104 => some [29] | _ => none
  cl := fun o => match o.op, o.dst with | .call c, some d => clT d c.callee | _, _ => false
  deep := fun t => match t with | 29 => true | _ => false
  frz := fun _ => none
  frzB := fun _ => none
  ext := fun _ => none
  prim := fun _ => none
def N : Ann where
  loop := fun f b => match f, b with
  | 12, 0 => some k_l_szTyS_0
  | 15, 0 => some k_l_toTyS_0
  | 13, 0 => some k_s_SubstTy_0
  | 18, 0 => some k_l_eqTyS_0
  | 20, 0 => some k_l_markTyS_0
  | 57, 0 => some k_s_l1Vars_0
  | 58, 0 => some k_s_l1Put_0
  | 63, 0 => some k_i_subst_0
  | 64, 0 => some k_l_heldTyS_0
  | 99, 0 => some k_s_l1Look_0
  | 100, 0 => some k_s_l1Copy_0
  | 101, 0 => some k_i_measure_0
  | 102, 0 => some k_slices_IndexFunc_Ty_0
  | 103, 0 => some k_i_varsOf_0
  | 104, 0 => some k_i_cloneTy_0
  | _, _ => none
  join := fun _ _ => none
  reg := fun f b => match f, b with
  | 3, 32 => some [(110, .bool)]
  | 3, 21 => some [(82, .bool)]
  | 3, 12 => some [(53, .bool)]
  | 13, 1 => some [(17, .bool)]
  | 16, 1 => some [(20, .bool)]
  | 58, 1 => some [(16, .bool)]
  | 59, 2 => some [(2, .bool)]
  | 99, 2 => some [(51, .bool)]
  | 101, 1 => some [(33, .bool)]
  | 72, 1 => some [(6, .bool)]
  | _, _ => none
noncomputable instance : Glob where
  ids := fun _ => False
  ok := fun _ => True
  keep := fun _ _ => trivial
noncomputable abbrev CC : CallT := Cw E N
noncomputable abbrev LL : LoopT := Lw E N
end Go.Proofs.Ytjndiaahgjhaeaa.Abs
