/- How the abstract machine takes the functions that laws.FnExactReads, laws.FnExactNexts reaches. -/
import Derived.Test.YtjndiaahgjhaeaaOmega
import Derived.Test.YtjndiaahgjhaeaaProg
import Derived.Test.YtjndiaahgjhaeaaLib
set_option linter.unusedVariables false
set_option maxRecDepth 100000
namespace Go.Proofs.Ytjndiaahgjhaeaa.Abs
open Go Go.Proofs
def f_l_FnExactReads : FuncId := 4
def f_l_FnExactNexts : FuncId := 5
def f_l_szIns : FuncId := 22
def f_l_toIns : FuncId := 24
def f_s_Reads : FuncId := 23
def f_i_Reads : FuncId := 25
def f_l_eqIntS : FuncId := 26
def f_l_eqIns : FuncId := 27
def f_l_markIns : FuncId := 28
def f_l_markIntS : FuncId := 29
def f_l_heldIntS : FuncId := 30
def f_l_szPiece : FuncId := 31
def f_l_toPiece : FuncId := 33
def f_s_Nexts : FuncId := 32
def f_i_Nexts : FuncId := 34
def f_l_eqPiece : FuncId := 35
def f_l_markPiece : FuncId := 36
def f_l_szIntS : FuncId := 65
def f_l_toIntS : FuncId := 49
def f_s_l9Uses : FuncId := 66
def f_s_l10Add : FuncId := 67
def f_i_hasPart : FuncId := 68
def f_l_szInsS : FuncId := 71
def f_l_toInsS : FuncId := 76
def f_s_l1In : FuncId := 72
def f_s_l10Normal : FuncId := 73
def f_s_Guard : FuncId := 74
def f_s_l10May : FuncId := 75
def f_i_in : FuncId := 77
def f_i_ways : FuncId := 78
def f_i_guardOf : FuncId := 79
def f_i_raises : FuncId := 80
def f_l_eqInsS : FuncId := 81
def f_l_markInsS : FuncId := 82
def f_i_insForm : FuncId := 105
def f_slices_Contains_byte : FuncId := 106
def f_s_l10Guard : FuncId := 109
def f_slices_Index_byte : FuncId := 129
def f_slices_Sort_int : FuncId := 69
def f_slices_Compact_int : FuncId := 70
@[reducible] def k_s_Reads_0 : LK := ⟨[(1, .lp 0), (4, .sl), (5, .int .i64)], [.box [.int .i64, .int .i64, .int .i64, .int .i64, .int .i64, .sl, .int .i64]]⟩
@[reducible] def k_l_eqIntS_0 : LK := ⟨[(0, .sl), (1, .sl), (5, .int .i64)], []⟩
@[reducible] def k_l_markIntS_0 : LK := ⟨[(0, .lr 0), (1, .int .i64), (5, .int .i64)], [.arr true true 1]⟩
@[reducible] def k_l_heldIntS_0 : LK := ⟨[(0, .sl), (1, .int .i64), (5, .int .i64)], []⟩
@[reducible] def k_l_toIntS_0 : LK := ⟨[(0, .sl), (3, .lr 0), (4, .int .i64)], [.arr true false 1]⟩
@[reducible] def k_s_l10Add_0 : LK := ⟨[(0, .sl), (1, .int .i64), (5, .lr 0), (6, .bool), (7, .int .i64)], [.arr true false 1]⟩
@[reducible] def k_l_szInsS_0 : LK := ⟨[(0, .sl), (1, .int .i64), (5, .int .i64)], []⟩
@[reducible] def k_l_toInsS_0 : LK := ⟨[(0, .sl), (3, .lr 0), (4, .int .i64)], [.arr true false 7]⟩
@[reducible] def k_i_guardOf_0 : LK := ⟨[(5, .lr 0), (19, .sl), (20, .int .i64), (21, .int .i64)], [.arr true false 1]⟩
@[reducible] def k_l_eqInsS_0 : LK := ⟨[(0, .sl), (1, .sl), (5, .int .i64)], []⟩
@[reducible] def k_l_markInsS_0 : LK := ⟨[(0, .lr 0), (1, .int .i64), (5, .int .i64)], [.arr true true 7]⟩
@[reducible] def k_s_l10Guard_0 : LK := ⟨[(1, .int .i64), (2, .lp 0), (5, .lr 1), (6, .int .i64)], [.box [.int .i64, .int .i64, .int .i64, .sl], .arr true false 1]⟩
@[reducible] def k_slices_Index_byte_0 : LK := ⟨[(0, .sl), (1, .int .u8), (7, .int .i64), (8, .int .i64)], []⟩
noncomputable def lc_s_Reads_0 : Code := loopCode Try.prog 23 0
noncomputable def lc_l_eqIntS_0 : Code := loopCode Try.prog 26 0
noncomputable def lc_l_markIntS_0 : Code := loopCode Try.prog 29 0
noncomputable def lc_l_heldIntS_0 : Code := loopCode Try.prog 30 0
noncomputable def lc_l_toIntS_0 : Code := loopCode Try.prog 49 0
noncomputable def lc_s_l10Add_0 : Code := loopCode Try.prog 67 0
noncomputable def lc_l_szInsS_0 : Code := loopCode Try.prog 71 0
noncomputable def lc_l_toInsS_0 : Code := loopCode Try.prog 76 0
noncomputable def lc_i_guardOf_0 : Code := loopCode Try.prog 79 0
noncomputable def lc_l_eqInsS_0 : Code := loopCode Try.prog 81 0
noncomputable def lc_l_markInsS_0 : Code := loopCode Try.prog 82 0
noncomputable def lc_s_l10Guard_0 : Code := loopCode Try.prog 109 0
noncomputable def lc_slices_Index_byte_0 : Code := loopCode Try.prog 129 0
def clT : Nat → Callee → Bool := fun d c => match d, c with | 17, .value (.func 24) => true | 19, .value (.func 33) => true | 29, .value (.func 24) => true | 33, .value (.func 33) => true | 55, .value (.func 24) => true | 59, .value (.func 33) => true | _, _ => false
noncomputable def E : Env where
  P := Try.prog
  pm := fun g j => match g, j with | 4, 0 => .bor | 5, 0 => .bor | 5, 1 => .bor | 22, 0 => .bor | 22, 1 => .bor | 26, 0 => .bor | 26, 1 => .bor | 27, 0 => .bor | 27, 1 => .bor | 30, 0 => .bor | 30, 1 => .bor | 31, 0 => .bor | 31, 1 => .bor | 35, 0 => .bor | 35, 1 => .bor | 65, 0 => .bor | 65, 1 => .bor | 68, 0 => .bor | 68, 1 => .bor | 71, 0 => .bor | 71, 1 => .bor | 72, 0 => .bor | 72, 1 => .bor | 72, 2 => .bor | 74, 0 => .bor | 74, 1 => .bor | 75, 0 => .bor | 77, 0 => .bor | 77, 1 => .bor | 77, 2 => .bor | 79, 0 => .bor | 79, 1 => .bor | 80, 0 => .bor | 81, 0 => .bor | 81, 1 => .bor | 106, 0 => .bor | 106, 1 => .bor | 109, 0 => .bor | 109, 1 => .bor | 129, 0 => .bor | 129, 1 => .bor | 25, 0 => .bor | 28, 0 => .inp | 29, 0 => .inp | 34, 0 => .bor | 36, 0 => .inp | 69, 0 => .inp | 70, 0 => .pass | 78, 0 => .bor | 82, 0 => .inp | _, _ => .cls
  rm := fun g => match g with | 70 => some 0 | _ => none
  ow := fun g => match g with | 24 => some [44] | 25 => some [39] | 33 => some [58] | 34 => some [39] | 49 => some [39] | 76 => some [56] | 78 => some [39] | _ => none
  cl := fun o => match o.op, o.dst with | .call c, some d => clT d c.callee | _, _ => false
  deep := fun t => match t with | 29 => true | 44 => true | 58 => true | _ => false
  frz := fun _ => none
  frzB := fun _ => none
  ext := fun g => match g with | 69 => some xSort | 70 => some xCompact | _ => none
  prim := fun _ => none
def N : Ann where
  loop := fun f b => match f, b with
  | 23, 0 => some k_s_Reads_0
  | 26, 0 => some k_l_eqIntS_0
  | 29, 0 => some k_l_markIntS_0
  | 30, 0 => some k_l_heldIntS_0
  | 49, 0 => some k_l_toIntS_0
  | 67, 0 => some k_s_l10Add_0
  | 71, 0 => some k_l_szInsS_0
  | 76, 0 => some k_l_toInsS_0
  | 79, 0 => some k_i_guardOf_0
  | 81, 0 => some k_l_eqInsS_0
  | 82, 0 => some k_l_markInsS_0
  | 109, 0 => some k_s_l10Guard_0
  | 129, 0 => some k_slices_Index_byte_0
  | _, _ => none
  join := fun _ _ => none
  reg := fun f b => match f, b with
  | 4, 14 => some [(42, .bool)]
  | 5, 14 => some [(46, .bool)]
  | 23, 8 => some [(31, .bool)]
  | 32, 5 => some [(31, .bool)]
  | 34, 5 => some [(30, .bool)]
  | 67, 6 => some [(24, .bool)]
  | 72, 1 => some [(6, .bool)]
  | 77, 1 => some [(6, .bool)]
  | 78, 5 => some [(43, .bool)]
  | 78, 3 => some [(25, .bool)]
  | 109, 11 => some [(53, .bool)]
  | 109, 3 => some [(17, .bool)]
  | _, _ => none
noncomputable instance : Glob where
  ids := fun _ => False
  ok := fun _ => True
  keep := fun _ _ => trivial
noncomputable abbrev CC : CallT := Cw E N
noncomputable abbrev LL : LoopT := Lw E N
end Go.Proofs.Ytjndiaahgjhaeaa.Abs
