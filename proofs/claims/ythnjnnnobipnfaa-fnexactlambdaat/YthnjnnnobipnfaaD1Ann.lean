/- How the abstract machine takes the functions that laws.FnExactLambdas, laws.FnExactLambdaAt reaches. -/
import Derived.Test.YthnjnnnobipnfaaOmega
import Derived.Test.YthnjnnnobipnfaaProg
set_option linter.unusedVariables false
set_option maxRecDepth 100000
namespace Go.Proofs.Ythnjnnnobipnfaa.Abs
open Go Go.Proofs
def f_l_FnExactLambdas : FuncId := 3
def f_l_FnExactLambdaAt : FuncId := 5
def f_l_szTerm : FuncId := 6
def f_l_toTerm : FuncId := 8
def f_s_Lambdas : FuncId := 7
def f_i_Lambdas : FuncId := 9
def f_l_eqTerm : FuncId := 10
def f_s_LambdaAt : FuncId := 15
def f_i_LambdaAt : FuncId := 16
def f_l_markTerm : FuncId := 13
def f_l_heldTerm : FuncId := 14
def f_l_szTy : FuncId := 17
def f_l_szTyS : FuncId := 18
def f_l_szTermS : FuncId := 19
def f_l_toTy : FuncId := 21
def f_l_toTyS : FuncId := 22
def f_l_toTermS : FuncId := 23
def f_s_l6Lambdas : FuncId := 20
def f_i_lambdas : FuncId := 24
def f_l_eqTy : FuncId := 25
def f_l_eqTyS : FuncId := 26
def f_l_eqTermS : FuncId := 27
def f_s_l1In : FuncId := 30
def f_s_l2Copy : FuncId := 31
def f_i_in : FuncId := 33
def f_i_cloneTerm : FuncId := 34
def f_l_markTy : FuncId := 35
def f_l_markTyS : FuncId := 36
def f_l_markTermS : FuncId := 37
def f_l_heldTy : FuncId := 38
def f_l_heldTyS : FuncId := 39
def f_l_heldTermS : FuncId := 40
def f_s_TermOk : FuncId := 28
def f_s_l6All : FuncId := 29
def f_i_allNodes : FuncId := 32
def f_slices_DeleteFunc_p_node : FuncId := 41
def f_i_lambdas_1 : FuncId := 42
def f_s_l1Copy : FuncId := 44
def f_s_l2CopyTys : FuncId := 45
def f_i_cloneTy : FuncId := 49
def f_l_markText : FuncId := 50
def f_s_l2Look : FuncId := 43
def f_i_TermOk : FuncId := 46
def f_i_numbered : FuncId := 48
def f_i_nodesIn : FuncId := 47
def f_slices_IndexFunc_p_node : FuncId := 51
def f_s_l2One : FuncId := 52
def f_i_termSize : FuncId := 53
def f_s_l2Of : FuncId := 54
def f_s_l2Number : FuncId := 55
def f_s_l2Name : FuncId := 56
def f_s_TyOk : FuncId := 57
def f_s_SameTy : FuncId := 58
def f_i_headOk : FuncId := 59
def f_s_l1Look : FuncId := 60
def f_i_parts : FuncId := 61
def f_i_numberOk : FuncId := 62
def f_i_namesOk : FuncId := 63
def f_i_hasT : FuncId := 64
def f_i_TyOk : FuncId := 65
def f_i_SameTy : FuncId := 66
def f_slices_ContainsFunc_Ty : FuncId := 67
def f_i_headOk_1 : FuncId := 68
def f_s_l1Args : FuncId := 69
def f_i_isName : FuncId := 70
def f_i_bindsS : FuncId := 71
def f_i_measure : FuncId := 72
def f_slices_EqualFunc_Ty : FuncId := 73
def f_slices_IndexFunc_Ty : FuncId := 74
def f_i_tyParts : FuncId := 75
@[reducible] def k_l_szTyS_0 : LK := ⟨[(0, .sl), (1, .int .i64), (5, .int .i64)], []⟩
@[reducible] def k_l_szTermS_0 : LK := ⟨[(0, .sl), (1, .int .i64), (5, .int .i64)], []⟩
@[reducible] def k_l_toTyS_0 : LK := ⟨[(0, .sl), (3, .lr 0), (4, .int .i64)], [.arr true false 3]⟩
@[reducible] def k_l_toTermS_0 : LK := ⟨[(0, .sl), (3, .lr 0), (4, .int .i64)], [.arr true false 9]⟩
@[reducible] def k_s_l6Lambdas_0 : LK := ⟨[(3, .lr 0), (4, .lr 1), (5, .int .i64)], [.arr false false 9, .arr false false 9]⟩
@[reducible] def k_l_eqTyS_0 : LK := ⟨[(0, .sl), (1, .sl), (5, .int .i64)], []⟩
@[reducible] def k_l_eqTermS_0 : LK := ⟨[(0, .sl), (1, .sl), (5, .int .i64)], []⟩
@[reducible] def k_s_l2Copy_0 : LK := ⟨[(1, .lp 0), (2, .lp 1), (3, .lp 5), (4, .int .i64)], [.box [.int .i64, .int .i64, .str, .str, .int .i64, .int .i64, .sl, .sl, .sl], .box [.int .i64, .int .i64, .str, .str, .int .i64, .int .i64, .lr 2, .lr 3, .lr 4], .arr true false 3, .arr true false 3, .arr true false 9, .box [.int .i64, .int .i64, .str, .str, .int .i64, .int .i64, .lr 6, .lr 7, .lr 8], .arr true false 3, .arr true false 3, .arr true false 9]⟩
@[reducible] def k_i_cloneTerm_2 : LK := ⟨[(2, .lp 0), (3, .lp 4), (31, .sl), (32, .int .i64), (33, .int .i64)], [.box [.int .i64, .int .i64, .str, .str, .int .i64, .int .i64, .lr 1, .lr 2, .lr 3], .arr true false 3, .arr true false 3, .arr true false 9, .box [.int .i64, .int .i64, .str, .str, .int .i64, .int .i64, .lr 5, .lr 6, .lr 7], .arr true false 3, .arr true false 3, .arr true false 9]⟩
@[reducible] def k_i_cloneTerm_0 : LK := ⟨[(1, .lp 0), (2, .lp 1), (3, .lp 5), (16, .sl), (17, .int .i64), (18, .int .i64)], [.box [.int .i64, .int .i64, .str, .str, .int .i64, .int .i64, .sl, .sl, .sl], .box [.int .i64, .int .i64, .str, .str, .int .i64, .int .i64, .lr 2, .lr 3, .lr 4], .arr true false 3, .arr true false 3, .arr true false 9, .box [.int .i64, .int .i64, .str, .str, .int .i64, .int .i64, .lr 6, .lr 7, .lr 8], .arr true false 3, .arr true false 3, .arr true false 9]⟩
@[reducible] def k_l_markTyS_0 : LK := ⟨[(0, .lr 0), (1, .int .i64), (5, .int .i64)], [.arr true true 3]⟩
@[reducible] def k_l_markTermS_0 : LK := ⟨[(0, .lr 0), (1, .int .i64), (5, .int .i64)], [.arr true true 9]⟩
@[reducible] def k_l_heldTyS_0 : LK := ⟨[(0, .sl), (1, .int .i64), (5, .int .i64)], []⟩
@[reducible] def k_l_heldTermS_0 : LK := ⟨[(0, .sl), (1, .int .i64), (5, .int .i64)], []⟩
@[reducible] def k_s_l6All_0 : LK := ⟨[(1, .lr 0), (2, .lp 1), (5, .int .i64)], [.arr false false 9, .box [.int .i64, .int .i64, .str, .str, .int .i64, .int .i64, .sl, .sl, .sl]]⟩
@[reducible] def k_slices_DeleteFunc_p_node_0 : LK := ⟨[(0, .lr 0), (1, .cv), (5, .int .i64), (6, .int .i64)], [.arr true false 1]⟩
@[reducible] def k_s_l1Copy_0 : LK := ⟨[(1, .lp 0), (2, .lp 1), (3, .lp 3), (4, .int .i64)], [.box [.int .i64, .int .i64, .sl], .box [.int .i64, .int .i64, .lr 2], .arr true false 3, .box [.int .i64, .int .i64, .lr 4], .arr true false 3]⟩
@[reducible] def k_s_l2CopyTys_0 : LK := ⟨[(0, .sl), (3, .lr 0), (4, .int .i64)], [.arr true false 3]⟩
@[reducible] def k_i_cloneTy_0 : LK := ⟨[(2, .lp 0), (3, .lp 2), (12, .sl), (13, .int .i64), (14, .int .i64)], [.box [.int .i64, .int .i64, .lr 1], .arr true false 3, .box [.int .i64, .int .i64, .lr 3], .arr true false 3]⟩
@[reducible] def k_l_markText_0 : LK := ⟨[(0, .int .i64), (3, .str)], []⟩
@[reducible] def k_s_l2Look_0 : LK := ⟨[(1, .int .i64), (2, .lp 0), (3, .lp 1), (7, .int .i64)], [.box [.int .i64], .box [.int .i64, .int .i64, .str, .str, .int .i64, .int .i64, .sl, .sl, .sl]]⟩
@[reducible] def k_i_numbered_0 : LK := ⟨[(1, .lp 0), (5, .lp 1), (20, .sl), (21, .int .i64), (22, .int .i64)], [.box [.int .i64], .box [.int .i64, .int .i64, .str, .str, .int .i64, .int .i64, .sl, .sl, .sl, .int .i64, .lr 2], .arr true false 1]⟩
@[reducible] def k_i_nodesIn_0 : LK := ⟨[(1, .lr 0), (14, .sl), (15, .int .i64), (16, .int .i64)], [.arr true false 1]⟩
@[reducible] def k_slices_IndexFunc_p_node_0 : LK := ⟨[(0, .sl), (1, .cv), (7, .int .i64), (8, .int .i64)], []⟩
@[reducible] def k_s_l2One_0 : LK := ⟨[(1, .lp 0), (4, .int .i64)], [.box [.int .i64, .int .i64, .str, .str, .int .i64, .int .i64, .sl, .sl, .sl]]⟩
@[reducible] def k_i_termSize_0 : LK := ⟨[(5, .int .i64), (6, .int .i64), (16, .sl), (17, .int .i64), (18, .int .i64)], []⟩
@[reducible] def k_s_l2Name_0 : LK := ⟨[(0, .str), (1, .bool), (5, .int .i64)], []⟩
@[reducible] def k_s_SameTy_0 : LK := ⟨[(2, .lp 0), (3, .lp 1), (5, .int .i64)], [.box [.int .i64, .int .i64, .sl], .box [.int .i64, .int .i64, .sl]]⟩
@[reducible] def k_s_l1Look_0 : LK := ⟨[(1, .int .i64), (2, .lp 0), (3, .lp 1), (7, .int .i64)], [.box [.int .i64], .box [.int .i64, .int .i64, .sl]]⟩
@[reducible] def k_i_isName_0 : LK := ⟨[(0, .str), (7, .int .i64), (8, .int .i64)], []⟩
@[reducible] def k_i_measure_0 : LK := ⟨[(5, .int .i64), (6, .int .i64), (35, .sl), (36, .int .i64), (37, .int .i64)], []⟩
@[reducible] def k_slices_EqualFunc_Ty_0 : LK := ⟨[(1, .sl), (2, .cv), (15, .sl), (16, .int .i64), (17, .int .i64)], []⟩
@[reducible] def k_slices_IndexFunc_Ty_0 : LK := ⟨[(0, .sl), (1, .cv), (7, .int .i64), (8, .int .i64)], []⟩
noncomputable def lc_l_szTyS_0 : Code := loopCode Try.prog 18 0
noncomputable def lc_l_szTermS_0 : Code := loopCode Try.prog 19 0
noncomputable def lc_l_toTyS_0 : Code := loopCode Try.prog 22 0
noncomputable def lc_l_toTermS_0 : Code := loopCode Try.prog 23 0
noncomputable def lc_s_l6Lambdas_0 : Code := loopCode Try.prog 20 0
noncomputable def lc_l_eqTyS_0 : Code := loopCode Try.prog 26 0
noncomputable def lc_l_eqTermS_0 : Code := loopCode Try.prog 27 0
noncomputable def lc_s_l2Copy_0 : Code := loopCode Try.prog 31 0
noncomputable def lc_i_cloneTerm_2 : Code := loopCode Try.prog 34 2
noncomputable def lc_i_cloneTerm_0 : Code := loopCode Try.prog 34 0
noncomputable def lc_l_markTyS_0 : Code := loopCode Try.prog 36 0
noncomputable def lc_l_markTermS_0 : Code := loopCode Try.prog 37 0
noncomputable def lc_l_heldTyS_0 : Code := loopCode Try.prog 39 0
noncomputable def lc_l_heldTermS_0 : Code := loopCode Try.prog 40 0
noncomputable def lc_s_l6All_0 : Code := loopCode Try.prog 29 0
noncomputable def lc_slices_DeleteFunc_p_node_0 : Code := loopCode Try.prog 41 0
noncomputable def lc_s_l1Copy_0 : Code := loopCode Try.prog 44 0
noncomputable def lc_s_l2CopyTys_0 : Code := loopCode Try.prog 45 0
noncomputable def lc_i_cloneTy_0 : Code := loopCode Try.prog 49 0
noncomputable def lc_l_markText_0 : Code := loopCode Try.prog 50 0
noncomputable def lc_s_l2Look_0 : Code := loopCode Try.prog 43 0
noncomputable def lc_i_numbered_0 : Code := loopCode Try.prog 48 0
noncomputable def lc_i_nodesIn_0 : Code := loopCode Try.prog 47 0
noncomputable def lc_slices_IndexFunc_p_node_0 : Code := loopCode Try.prog 51 0
noncomputable def lc_s_l2One_0 : Code := loopCode Try.prog 52 0
noncomputable def lc_i_termSize_0 : Code := loopCode Try.prog 53 0
noncomputable def lc_s_l2Name_0 : Code := loopCode Try.prog 56 0
noncomputable def lc_s_SameTy_0 : Code := loopCode Try.prog 58 0
noncomputable def lc_s_l1Look_0 : Code := loopCode Try.prog 60 0
noncomputable def lc_i_isName_0 : Code := loopCode Try.prog 70 0
noncomputable def lc_i_measure_0 : Code := loopCode Try.prog 72 0
noncomputable def lc_slices_EqualFunc_Ty_0 : Code := loopCode Try.prog 73 0
noncomputable def lc_slices_IndexFunc_Ty_0 : Code := loopCode Try.prog 74 0
def clT : Nat → Callee → Bool := fun d c => match d, c with | 13, .value (.func 8) => true | 23, .value (.func 8) => true | 24, .value (.func 8) => true | 47, .value (.func 8) => true | 79, .value (.func 8) => true | _, _ => false
noncomputable def E : Env where
  P := Try.prog
  pm := fun g j => match g, j with | 3, 0 => .bor | 5, 0 => .bor | 5, 1 => .bor | 6, 0 => .bor | 6, 1 => .bor | 7, 0 => .bor | 9, 0 => .bor | 10, 0 => .bor | 10, 1 => .bor | 14, 0 => .bor | 14, 1 => .bor | 17, 0 => .bor | 17, 1 => .bor | 18, 0 => .bor | 18, 1 => .bor | 19, 0 => .bor | 19, 1 => .bor | 25, 0 => .bor | 25, 1 => .bor | 26, 0 => .bor | 26, 1 => .bor | 27, 0 => .bor | 27, 1 => .bor | 30, 0 => .bor | 30, 1 => .bor | 30, 2 => .bor | 33, 0 => .bor | 33, 1 => .bor | 33, 2 => .bor | 38, 0 => .bor | 38, 1 => .bor | 39, 0 => .bor | 39, 1 => .bor | 40, 0 => .bor | 40, 1 => .bor | 28, 0 => .bor | 42, 0 => .bor | 50, 0 => .bor | 46, 0 => .bor | 51, 0 => .bor | 51, 1 => .bor | 52, 0 => .bor | 55, 0 => .bor | 56, 0 => .bor | 56, 1 => .bor | 57, 0 => .bor | 58, 0 => .bor | 58, 1 => .bor | 59, 0 => .bor | 61, 0 => .bor | 62, 0 => .bor | 62, 1 => .bor | 63, 0 => .bor | 63, 1 => .bor | 63, 2 => .bor | 64, 0 => .bor | 65, 0 => .bor | 66, 0 => .bor | 66, 1 => .bor | 67, 0 => .bor | 67, 1 => .bor | 68, 0 => .bor | 69, 0 => .bor | 70, 0 => .bor | 71, 0 => .bor | 73, 0 => .bor | 73, 1 => .bor | 73, 2 => .bor | 74, 0 => .bor | 74, 1 => .bor | 75, 0 => .bor | 13, 0 => .inp | 15, 0 => .bor | 16, 0 => .bor | 29, 1 => .pass | 35, 0 => .inp | 36, 0 => .inp | 37, 0 => .inp | 41, 0 => .pass | 47, 1 => .pass | _, _ => .cls
  rm := fun g => match g with | 29 => some 0 | 41 => some 0 | 47 => some 0 | _ => none
  ow := fun g => match g with | 8 => some [35] | 15 => some [35, 4] | 16 => some [35, 4] | 21 => some [32] | 22 => some [30] | 23 => some [33] | 31 => some [35] | 32 => some [50] | 34 => some [35] | 44 => some [32] | 45 => some [30] | 49 => some [32] | _ => none
  cl := fun o => match o.op, o.dst with | .call c, some d => clT d c.callee | _, _ => false
  deep := fun o t => !((match o.op, o.dst with | .buildSlice _ _ _, some 6 => o.pos == "l06_name.go:104" | _, _ => false) || (match o.op, o.dst with | .buildSlice _ _ _, some 12 => o.pos == "l06_name.go:108" | _, _ => false) || (match o.op, o.dst with | .buildSlice _ _ _, some 31 => o.pos == "l06_name.go:111" | _, _ => false) || (match o.op, o.dst with | .buildSlice _ _ _, some 8 => o.pos == "l06_name.go:96" | _, _ => false)) && (match t with | 32 => true | 35 => true | 61 => true | _ => false)
  frz := fun _ => none
  frzB := fun _ => none
  ext := fun _ => none
  prim := fun _ => none
  dp := fun g j => match g, j with | 29, 1 => false | _, _ => true
def N : Ann where
  loop := fun f b => match f, b with
  | 18, 0 => some k_l_szTyS_0
  | 19, 0 => some k_l_szTermS_0
  | 22, 0 => some k_l_toTyS_0
  | 23, 0 => some k_l_toTermS_0
  | 20, 0 => some k_s_l6Lambdas_0
  | 26, 0 => some k_l_eqTyS_0
  | 27, 0 => some k_l_eqTermS_0
  | 31, 0 => some k_s_l2Copy_0
  | 34, 2 => some k_i_cloneTerm_2
  | 34, 0 => some k_i_cloneTerm_0
  | 36, 0 => some k_l_markTyS_0
  | 37, 0 => some k_l_markTermS_0
  | 39, 0 => some k_l_heldTyS_0
  | 40, 0 => some k_l_heldTermS_0
  | 29, 0 => some k_s_l6All_0
  | 41, 0 => some k_slices_DeleteFunc_p_node_0
  | 44, 0 => some k_s_l1Copy_0
  | 45, 0 => some k_s_l2CopyTys_0
  | 49, 0 => some k_i_cloneTy_0
  | 50, 0 => some k_l_markText_0
  | 43, 0 => some k_s_l2Look_0
  | 48, 0 => some k_i_numbered_0
  | 47, 0 => some k_i_nodesIn_0
  | 51, 0 => some k_slices_IndexFunc_p_node_0
  | 52, 0 => some k_s_l2One_0
  | 53, 0 => some k_i_termSize_0
  | 56, 0 => some k_s_l2Name_0
  | 58, 0 => some k_s_SameTy_0
  | 60, 0 => some k_s_l1Look_0
  | 70, 0 => some k_i_isName_0
  | 72, 0 => some k_i_measure_0
  | 73, 0 => some k_slices_EqualFunc_Ty_0
  | 74, 0 => some k_slices_IndexFunc_Ty_0
  | _, _ => none
  join := fun _ _ => none
  reg := fun f b => match f, b with
  | 5, 25 => some [(92, .bool)]
  | 5, 14 => some [(65, .bool)]
  | 5, 8 => some [(44, .bool)]
  | 30, 1 => some [(6, .bool)]
  | 33, 1 => some [(6, .bool)]
  | 43, 2 => some [(26, .bool)]
  | 46, 2 => some [(2, .bool)]
  | 52, 11 => some [(2, .bool)]
  | 52, 4 => some [(100, .bool)]
  | 52, 2 => some [(65, .bool)]
  | 56, 7 => some [(42, .bool)]
  | 56, 1 => some [(17, .bool)]
  | 58, 1 => some [(26, .bool)]
  | 59, 8 => some [(2, .bool)]
  | 59, 3 => some [(61, .bool)]
  | 59, 1 => some [(41, .bool)]
  | 60, 2 => some [(51, .bool)]
  | 63, 3 => some [(6, .bool)]
  | 63, 2 => some [(6, .bool)]
  | 64, 1 => some [(2, .bool)]
  | 65, 2 => some [(2, .bool)]
  | 66, 1 => some [(4, .bool)]
  | 70, 6 => some [(37, .bool)]
  | 70, 5 => some [(5, .bool)]
  | 71, 1 => some [(2, .bool)]
  | 72, 1 => some [(33, .bool)]
  | _, _ => none
noncomputable instance : Glob where
  ids := fun _ => False
  ok := fun _ => True
  keep := fun _ _ => trivial
noncomputable abbrev CC : CallT := Cw E N
noncomputable abbrev LL : LoopT := Lw E N
end Go.Proofs.Ythnjnnnobipnfaa.Abs
