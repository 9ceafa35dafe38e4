/- How the abstract machine takes the functions that laws.FnSubst reaches. -/
import Derived.Test.YtmjjaoffeajcbaaOmega
import Derived.Test.YtmjjaoffeajcbaaProg
set_option linter.unusedVariables false
set_option maxRecDepth 100000
namespace Go.Proofs.Ytmjjaoffeajcbaa.Abs
open Go Go.Proofs
def f_l_FnSubst : FuncId := 3
def f_l_big : FuncId := 9
def f_s_DrawSubstTy : FuncId := 10
def f_i_SubstTy : FuncId := 11
def f_s_SubstTy : FuncId := 12
def f_i_VarsOf : FuncId := 13
def f_i_Ground : FuncId := 14
def f_i_TyOk : FuncId := 15
def f_i_SameTy : FuncId := 16
def f_s_l1New : FuncId := 43
def f_s_l1Any : FuncId := 44
def f_s_l1Int : FuncId := 45
def f_slices_ContainsFunc_Ty : FuncId := 46
def f_i_subst : FuncId := 48
def f_i_SubstTy_1 : FuncId := 47
def f_s_TyOk : FuncId := 49
def f_s_l1Vars : FuncId := 50
def f_s_l1Put : FuncId := 51
def f_i_varsOf : FuncId := 52
def f_i_anyTy : FuncId := 53
def f_i_Ground_1 : FuncId := 54
def f_i_measure : FuncId := 55
def f_slices_EqualFunc_Ty : FuncId := 56
def f_s_l1Ty : FuncId := 80
def f_s_l1Once : FuncId := 81
def f_s_l1Bend : FuncId := 82
def f_s_l1Below : FuncId := 83
def f_slices_IndexFunc_Ty : FuncId := 84
def f_i_cloneTy : FuncId := 85
def f_s_l1Look : FuncId := 86
def f_s_l1Copy : FuncId := 87
def f_i_anyTy_1 : FuncId := 88
def f_i_tyParts : FuncId := 89
def f_s_l1Args : FuncId := 118
def f_s_l1Byte : FuncId := 119
def f_s_l1In : FuncId := 61
@[reducible] def k_l_FnSubst_0 : LK := ⟨[(3, .lp 0), (4, .sl), (5, .lp 1), (9, .int .i64), (10, .bool), (11, .int .i64)], [.box [.int .i64, .int .i64, .sl], .box [.int .i64, .int .i64, .sl]]⟩
@[reducible] def k_s_DrawSubstTy_0 : LK := ⟨[(2, .lp 0), (4, .lp 1), (5, .lp 2), (6, .lr 3), (7, .int .i64)], [.box [.int .i64, .int .i64, .sl], .box [.sl, .int .i64, .int .i64], .box [.int .i64, .int .i64, .sl], .arr false false 3]⟩
@[reducible] def k_s_SubstTy_0 : LK := ⟨[(1, .sl), (2, .lp 0), (4, .lp 1), (6, .int .i64)], [.box [.int .i64, .int .i64, .sl], .box [.int .i64, .int .i64, .lr 2], .arr false false 3]⟩
@[reducible] def k_s_l1New_0 : LK := ⟨[(0, .sl), (3, .int .i64), (4, .int .i64)], []⟩
@[reducible] def k_i_subst_0 : LK := ⟨[(1, .sl), (4, .lp 0), (5, .lp 2), (23, .sl), (24, .int .i64), (25, .int .i64)], [.box [.int .i64, .int .i64, .lr 1], .arr false false 3, .box [.int .i64, .int .i64, .lr 3], .arr false false 3]⟩
@[reducible] def k_s_l1Vars_0 : LK := ⟨[(1, .lp 0), (3, .int .i64), (4, .int .i64)], [.box [.int .i64, .int .i64, .sl]]⟩
@[reducible] def k_s_l1Put_0 : LK := ⟨[(1, .sl), (2, .lp 0), (4, .lp 1), (5, .lp 3), (6, .int .i64)], [.box [.int .i64, .int .i64, .sl], .box [.int .i64, .int .i64, .lr 2], .arr false false 3, .box [.int .i64, .int .i64, .lr 4], .arr false false 3]⟩
@[reducible] def k_i_varsOf_0 : LK := ⟨[(3, .int .i64), (13, .sl), (14, .int .i64), (15, .int .i64)], []⟩
@[reducible] def k_i_measure_0 : LK := ⟨[(5, .int .i64), (6, .int .i64), (35, .sl), (36, .int .i64), (37, .int .i64)], []⟩
@[reducible] def k_slices_EqualFunc_Ty_0 : LK := ⟨[(1, .sl), (2, .cv), (15, .sl), (16, .int .i64), (17, .int .i64)], []⟩
@[reducible] def k_s_l1Ty_0 : LK := ⟨[(0, .lp 0), (1, .int .i64), (2, .int .i64), (6, .lp 1), (7, .int .i64), (8, .lp 3), (9, .int .i64)], [.box [.sl, .int .i64, .int .i64], .box [.int .i64, .int .i64, .lr 2], .arr false false 3, .box [.int .i64, .int .i64, .lr 4], .arr false false 3]⟩
@[reducible] def k_s_l1Bend_1 : LK := ⟨[(3, .lp 1), (4, .lp 3), (6, .int .i64)], [.box [.sl, .int .i64, .int .i64], .box [.int .i64, .int .i64, .lr 2], .arr false false 3, .box [.int .i64, .int .i64, .lr 4], .arr false false 3]⟩
@[reducible] def k_slices_IndexFunc_Ty_0 : LK := ⟨[(0, .sl), (1, .cv), (7, .int .i64), (8, .int .i64)], []⟩
@[reducible] def k_i_cloneTy_0 : LK := ⟨[(2, .lp 0), (3, .lp 2), (12, .sl), (13, .int .i64), (14, .int .i64)], [.box [.int .i64, .int .i64, .lr 1], .arr false false 3, .box [.int .i64, .int .i64, .lr 3], .arr false false 3]⟩
@[reducible] def k_s_l1Look_0 : LK := ⟨[(1, .int .i64), (2, .lp 0), (3, .lp 1), (7, .int .i64)], [.box [.int .i64], .box [.int .i64, .int .i64, .sl]]⟩
@[reducible] def k_s_l1Copy_0 : LK := ⟨[(1, .lp 0), (2, .lp 1), (3, .lp 3), (4, .int .i64)], [.box [.int .i64, .int .i64, .sl], .box [.int .i64, .int .i64, .lr 2], .arr false false 3, .box [.int .i64, .int .i64, .lr 4], .arr false false 3]⟩
noncomputable def lc_l_FnSubst_0 : Code := loopCode Try.prog 3 0
noncomputable def lc_s_DrawSubstTy_0 : Code := loopCode Try.prog 10 0
noncomputable def lc_s_SubstTy_0 : Code := loopCode Try.prog 12 0
noncomputable def lc_s_l1New_0 : Code := loopCode Try.prog 43 0
noncomputable def lc_i_subst_0 : Code := loopCode Try.prog 48 0
noncomputable def lc_s_l1Vars_0 : Code := loopCode Try.prog 50 0
noncomputable def lc_s_l1Put_0 : Code := loopCode Try.prog 51 0
noncomputable def lc_i_varsOf_0 : Code := loopCode Try.prog 52 0
noncomputable def lc_i_measure_0 : Code := loopCode Try.prog 55 0
noncomputable def lc_slices_EqualFunc_Ty_0 : Code := loopCode Try.prog 56 0
noncomputable def lc_s_l1Ty_0 : Code := loopCode Try.prog 80 0
noncomputable def lc_s_l1Bend_1 : Code := loopCode Try.prog 82 1
noncomputable def lc_slices_IndexFunc_Ty_0 : Code := loopCode Try.prog 84 0
noncomputable def lc_i_cloneTy_0 : Code := loopCode Try.prog 85 0
noncomputable def lc_s_l1Look_0 : Code := loopCode Try.prog 86 0
noncomputable def lc_s_l1Copy_0 : Code := loopCode Try.prog 87 0
def clT : Nat → Callee → Bool := fun _ _ => false
noncomputable def E : Env where
  P := Try.prog
  pm := fun g j => match g, j with | 3, 0 => .bor | 9, 0 => .bor | 13, 0 => .bor | 14, 0 => .bor | 15, 0 => .bor | 16, 0 => .bor | 16, 1 => .bor | 46, 0 => .bor | 46, 1 => .bor | 47, 0 => .bor | 49, 0 => .bor | 50, 0 => .bor | 52, 0 => .bor | 53, 0 => .bor | 53, 1 => .bor | 54, 0 => .bor | 56, 0 => .bor | 56, 1 => .bor | 56, 2 => .bor | 84, 0 => .bor | 84, 1 => .bor | 89, 0 => .bor | 118, 0 => .bor | 61, 0 => .bor | 61, 1 => .bor | 61, 2 => .bor | _, _ => .cls
  rm := fun _ => none
  ow := fun g => match g with | 43 => some [63] | 87 => some [33554458] | _ => none
  cl := fun o => match o.op, o.dst with | .call c, some d => clT d c.callee | _, _ => false
  deep := fun _ => false
  frz := fun _ => none
  frzB := fun o => match o.op, o.dst with | .box 32 (.tmp _), some 3 => some false | _, _ => none
  ext := fun _ => none
  prim := fun _ => none
def N : Ann where
  loop := fun f b => match f, b with
  | 3, 0 => some k_l_FnSubst_0
  | 10, 0 => some k_s_DrawSubstTy_0
  | 12, 0 => some k_s_SubstTy_0
  | 43, 0 => some k_s_l1New_0
  | 48, 0 => some k_i_subst_0
  | 50, 0 => some k_s_l1Vars_0
  | 51, 0 => some k_s_l1Put_0
  | 52, 0 => some k_i_varsOf_0
  | 55, 0 => some k_i_measure_0
  | 56, 0 => some k_slices_EqualFunc_Ty_0
  | 80, 0 => some k_s_l1Ty_0
  | 82, 1 => some k_s_l1Bend_1
  | 84, 0 => some k_slices_IndexFunc_Ty_0
  | 85, 0 => some k_i_cloneTy_0
  | 86, 0 => some k_s_l1Look_0
  | 87, 0 => some k_s_l1Copy_0
  | _, _ => none
  join := fun _ _ => none
  reg := fun f b => match f, b with
  | 3, 18 => some [(2, .bool)]
  | 3, 15 => some [(10, .bool)]
  | 3, 7 => some [(2, .bool)]
  | 3, 6 => some [(40, .bool)]
  | 11, 1 => some [(20, .bool)]
  | 12, 1 => some [(17, .bool)]
  | 14, 1 => some [(2, .bool)]
  | 15, 2 => some [(2, .bool)]
  | 16, 1 => some [(4, .bool)]
  | 43, 3 => some [(15, .bool)]
  | 51, 1 => some [(16, .bool)]
  | 53, 1 => some [(4, .bool)]
  | 55, 1 => some [(33, .bool)]
  | 80, 2 => some [(26, .bool)]
  | 86, 2 => some [(51, .bool)]
  | 61, 1 => some [(6, .bool)]
  | _, _ => none
noncomputable instance : Glob where
  ids := fun _ => False
  ok := fun _ => True
  keep := fun _ _ => trivial
noncomputable abbrev CC : CallT := Cw E N
noncomputable abbrev LL : LoopT := Lw E N
end Go.Proofs.Ytmjjaoffeajcbaa.Abs
