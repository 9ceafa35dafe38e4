/- A part. -/
import Derived.Test.YtegbnddjgifcdaaGreatDoorOmega
import Derived.Test.YtegbnddjgifcdaaGreatDoorProg
import Derived.Test.YtegbnddjgifcdaaGreatDoorLibP
set_option linter.unusedVariables false
set_option maxRecDepth 100000
namespace Go.Proofs.YtegbnddjgifcdaaGreatDoor.Abs
open Go Go.Proofs
def f_l_FnExactParseTerm:FuncId:=3
def f_s_ParseTerm:FuncId:=4
def f_i_ParseTerm:FuncId:=5
def f_l_eqTerm:FuncId:=6
def f_l_markTerm:FuncId:=7
def f_l_heldTerm:FuncId:=8
def f_s_l1Split:FuncId:=9
def f_s_l2Read:FuncId:=10
def f_s_TermOk:FuncId:=11
def f_s_l2Text:FuncId:=12
def f_i_tokens_term:FuncId:=14
def f_i_TermOk:FuncId:=15
def f_l_eqTy:FuncId:=16
def f_l_eqTyS:FuncId:=17
def f_l_eqTermS:FuncId:=18
def f_l_markTy:FuncId:=19
def f_l_markTyS:FuncId:=20
def f_l_markTermS:FuncId:=21
def f_l_heldTy:FuncId:=22
def f_l_heldTyS:FuncId:=23
def f_l_heldTermS:FuncId:=24
def f_s_l1Next:FuncId:=25
def f_s_l2Kind:FuncId:=26
def f_s_l2Of:FuncId:=27
def f_s_l2Digits:FuncId:=28
def f_s_l2Sign:FuncId:=29
def f_s_l1Read:FuncId:=30
def f_s_l2Look:FuncId:=31
def f_s_l2Word:FuncId:=32
def f_s_l2Int:FuncId:=33
def f_s_l1Text:FuncId:=34
def f_i_tokens_next:FuncId:=36
def f_slices_Index_string:FuncId:=37
def f_i_termWords:FuncId:=38
def f_i_bindsS:FuncId:=39
def f_i_tokens_numbers:FuncId:=40
def f_i_hasT:FuncId:=41
def f_i_tokens_ty:FuncId:=42
def f_i_parts:FuncId:=43
def f_i_termSize:FuncId:=44
def f_l_markText:FuncId:=45
def f_s_l1In:FuncId:=46
def f_s_l1Args:FuncId:=47
def f_s_l2One:FuncId:=48
def f_i_tokens_number:FuncId:=52
def f_i_opSigns:FuncId:=53
def f_i_in:FuncId:=54
def f_i_tyParts:FuncId:=55
def f_i_headOk:FuncId:=56
def f_s_l2Number:FuncId:=57
def f_s_l2Name:FuncId:=58
def f_s_TyOk:FuncId:=59
def f_s_SameTy:FuncId:=60
def f_i_numberOk:FuncId:=67
def f_i_namesOk:FuncId:=68
def f_i_TyOk:FuncId:=69
def f_i_SameTy:FuncId:=70
def f_slices_ContainsFunc_Ty:FuncId:=71
def f_i_headOk_1:FuncId:=72
def f_s_l1Look:FuncId:=73
def f_i_isName:FuncId:=82
def f_i_measure:FuncId:=83
def f_slices_EqualFunc_Ty:FuncId:=84
def f_slices_IndexFunc_Ty:FuncId:=85
def f_strings_Split:FuncId:=13
def f_strconv_Itoa:FuncId:=66
def f_strconv_Atoi:FuncId:=65
@[reducible] def k_s_l1Split_0:LK:=⟨[(0,.str),(3,.lr 0),(4,.int .i64),(5,.int .i64)],[.arr true false 1]⟩
@[reducible] def k_s_l2Read_3:LK:=⟨[(0,.lp 0),(1,.int .i64),(4,.lp 1),(6,.lp 5),(7,.lp 9),(10,.int .i64)],[.box [.sl,.int .i64,.bool],.box [.int .i64,.int .i64,.str,.str,.int .i64,.int .i64,.lr 2,.lr 3,.lr 4],.arr true false 3,.arr true false 3,.arr true false 9,.box [.int .i64,.int .i64,.str,.str,.int .i64,.int .i64,.lr 6,.lr 7,.lr 8],.arr true false 3,.arr true false 3,.arr true false 9,.box [.int .i64,.int .i64,.bool,.bool,.bool]]⟩
@[reducible] def k_s_l2Read_1:LK:=⟨[(0,.lp 0),(1,.int .i64),(4,.lp 1),(6,.lp 5),(7,.lp 9),(8,.int .i64),(9,.int .i64)],[.box [.sl,.int .i64,.bool],.box [.int .i64,.int .i64,.str,.str,.int .i64,.int .i64,.lr 2,.lr 3,.lr 4],.arr true false 3,.arr true false 3,.arr true false 9,.box [.int .i64,.int .i64,.str,.str,.int .i64,.int .i64,.lr 6,.lr 7,.lr 8],.arr true false 3,.arr true false 3,.arr true false 9,.box [.int .i64,.int .i64,.bool,.bool,.bool]]⟩
@[reducible] def kj_s_l2Read_0:LK:=⟨[(0,.lp 0),(1,.int .i64),(4,.lp 1),(6,.lp 5),(7,.lp 9)],[.box [.sl,.int .i64,.bool],.box [.int .i64,.int .i64,.str,.str,.int .i64,.int .i64,.lr 2,.lr 3,.lr 4],.arr true false 3,.arr true false 3,.arr true false 9,.box [.int .i64,.int .i64,.str,.str,.int .i64,.int .i64,.lr 6,.lr 7,.lr 8],.arr true false 3,.arr true false 3,.arr true false 9,.box [.int .i64,.int .i64,.bool,.bool,.bool]]⟩
@[reducible] def k_s_l2Text_3:LK:=⟨[(1,.lp 0),(3,.str),(5,.int .i64)],[.box [.int .i64,.int .i64,.str,.str,.int .i64,.int .i64,.sl,.sl,.sl]]⟩
@[reducible] def k_s_l2Text_1:LK:=⟨[(1,.lp 0),(3,.str),(4,.int .i64)],[.box [.int .i64,.int .i64,.str,.str,.int .i64,.int .i64,.sl,.sl,.sl]]⟩
@[reducible] def kj_s_l2Text_0:LK:=⟨[(1,.lp 0),(3,.str)],[.box [.int .i64,.int .i64,.str,.str,.int .i64,.int .i64,.sl,.sl,.sl]]⟩
@[reducible] def k_i_tokens_term_0:LK:=⟨[(0,.lp 0),(1,.int .i64),(4,.lp 1),(6,.lp 5),(78,.int .i64),(79,.int .i64)],[.box [.sl,.bool],.box [.int .i64,.int .i64,.str,.str,.int .i64,.int .i64,.lr 2,.lr 3,.lr 4],.arr true false 3,.arr true false 3,.arr true false 9,.box [.int .i64,.int .i64,.str,.str,.int .i64,.int .i64,.lr 6,.lr 7,.lr 8],.arr true false 3,.arr true false 3,.arr true false 9]⟩
@[reducible] def k_l_eqTyS_0:LK:=⟨[(0,.sl),(1,.sl),(5,.int .i64)],[]⟩
@[reducible] def k_l_eqTermS_0:LK:=⟨[(0,.sl),(1,.sl),(5,.int .i64)],[]⟩
@[reducible] def k_l_markTyS_0:LK:=⟨[(0,.lr 0),(1,.int .i64),(5,.int .i64)],[.arr true true 3]⟩
@[reducible] def k_l_markTermS_0:LK:=⟨[(0,.lr 0),(1,.int .i64),(5,.int .i64)],[.arr true true 9]⟩
@[reducible] def k_l_heldTyS_0:LK:=⟨[(0,.sl),(1,.int .i64),(5,.int .i64)],[]⟩
@[reducible] def k_l_heldTermS_0:LK:=⟨[(0,.sl),(1,.int .i64),(5,.int .i64)],[]⟩
@[reducible] def k_s_l2Kind_0:LK:=⟨[(0,.str),(3,.int .i64)],[]⟩
@[reducible] def k_s_l2Digits_0:LK:=⟨[(0,.str),(3,.bool),(4,.int .i64),(5,.int .i64)],[]⟩
@[reducible] def k_s_l2Sign_0:LK:=⟨[(0,.str),(3,.int .i64)],[]⟩
@[reducible] def k_s_l1Read_1:LK:=⟨[(0,.lp 0),(1,.int .i64),(4,.lp 1),(6,.lp 3),(7,.int .i64)],[.box [.sl,.int .i64,.bool],.box [.int .i64,.int .i64,.lr 2],.arr true false 3,.box [.int .i64,.int .i64,.lr 4],.arr true false 3]⟩
@[reducible] def k_s_l2Look_0:LK:=⟨[(1,.int .i64),(2,.lp 0),(3,.lp 1),(7,.int .i64)],[.box [.int .i64],.box [.int .i64,.int .i64,.str,.str,.int .i64,.int .i64,.sl,.sl,.sl]]⟩
@[reducible] def k_s_l1Text_0:LK:=⟨[(1,.lp 0),(3,.str),(4,.int .i64)],[.box [.int .i64,.int .i64,.sl]]⟩
@[reducible] def k_slices_Index_string_0:LK:=⟨[(0,.sl),(1,.str),(7,.int .i64),(8,.int .i64)],[]⟩
@[reducible] def k_i_tokens_numbers_1:LK:=⟨[(0,.lp 0),(3,.lp 4),(4,.lp 5),(33,.int .i64),(34,.int .i64)],[.box [.sl,.bool],.arr true false 3,.arr true false 3,.arr true false 9,.box [.int .i64,.int .i64,.str,.str,.int .i64,.int .i64,.lr 1,.lr 2,.lr 3],.box [.int .i64,.int .i64,.str,.str,.int .i64,.int .i64,.lr 6,.lr 7,.lr 8],.arr true false 3,.arr true false 3,.arr true false 9]⟩
@[reducible] def k_i_tokens_ty_0:LK:=⟨[(0,.lp 0),(1,.int .i64),(4,.lp 1),(7,.lp 3),(37,.int .i64),(38,.int .i64)],[.box [.sl,.bool],.box [.int .i64,.int .i64,.lr 2],.arr true false 3,.box [.int .i64,.int .i64,.lr 4],.arr true false 3]⟩
@[reducible] def k_i_termSize_0:LK:=⟨[(5,.int .i64),(6,.int .i64),(16,.sl),(17,.int .i64),(18,.int .i64)],[]⟩
@[reducible] def k_l_markText_0:LK:=⟨[(0,.int .i64),(3,.str)],[]⟩
@[reducible] def k_s_l2One_0:LK:=⟨[(1,.lp 0),(4,.int .i64)],[.box [.int .i64,.int .i64,.str,.str,.int .i64,.int .i64,.sl,.sl,.sl]]⟩
@[reducible] def k_s_l2Name_0:LK:=⟨[(0,.str),(1,.bool),(5,.int .i64)],[]⟩
@[reducible] def k_s_SameTy_0:LK:=⟨[(2,.lp 0),(3,.lp 1),(5,.int .i64)],[.box [.int .i64,.int .i64,.sl],.box [.int .i64,.int .i64,.sl]]⟩
@[reducible] def k_s_l1Look_0:LK:=⟨[(1,.int .i64),(2,.lp 0),(3,.lp 1),(7,.int .i64)],[.box [.int .i64],.box [.int .i64,.int .i64,.sl]]⟩
@[reducible] def k_i_isName_0:LK:=⟨[(0,.str),(7,.int .i64),(8,.int .i64)],[]⟩
@[reducible] def k_i_measure_0:LK:=⟨[(5,.int .i64),(6,.int .i64),(35,.sl),(36,.int .i64),(37,.int .i64)],[]⟩
@[reducible] def k_slices_EqualFunc_Ty_0:LK:=⟨[(1,.sl),(2,.cv),(15,.sl),(16,.int .i64),(17,.int .i64)],[]⟩
@[reducible] def k_slices_IndexFunc_Ty_0:LK:=⟨[(0,.sl),(1,.cv),(7,.int .i64),(8,.int .i64)],[]⟩
noncomputable def lc_s_l1Split_0:Code:=loopCode Tryz.prog 9 0
noncomputable def lc_s_l2Read_3:Code:=loopCode Tryz.prog 10 3
noncomputable def lc_s_l2Read_1:Code:=loopCode Tryz.prog 10 1
noncomputable def lc_s_l2Text_3:Code:=loopCode Tryz.prog 12 3
noncomputable def lc_s_l2Text_1:Code:=loopCode Tryz.prog 12 1
noncomputable def lc_i_tokens_term_0:Code:=loopCode Tryz.prog 14 0
noncomputable def lc_l_eqTyS_0:Code:=loopCode Tryz.prog 17 0
noncomputable def lc_l_eqTermS_0:Code:=loopCode Tryz.prog 18 0
noncomputable def lc_l_markTyS_0:Code:=loopCode Tryz.prog 20 0
noncomputable def lc_l_markTermS_0:Code:=loopCode Tryz.prog 21 0
noncomputable def lc_l_heldTyS_0:Code:=loopCode Tryz.prog 23 0
noncomputable def lc_l_heldTermS_0:Code:=loopCode Tryz.prog 24 0
noncomputable def lc_s_l2Kind_0:Code:=loopCode Tryz.prog 26 0
noncomputable def lc_s_l2Digits_0:Code:=loopCode Tryz.prog 28 0
noncomputable def lc_s_l2Sign_0:Code:=loopCode Tryz.prog 29 0
noncomputable def lc_s_l1Read_1:Code:=loopCode Tryz.prog 30 1
noncomputable def lc_s_l2Look_0:Code:=loopCode Tryz.prog 31 0
noncomputable def lc_s_l1Text_0:Code:=loopCode Tryz.prog 34 0
noncomputable def lc_slices_Index_string_0:Code:=loopCode Tryz.prog 37 0
noncomputable def lc_i_tokens_numbers_1:Code:=loopCode Tryz.prog 40 1
noncomputable def lc_i_tokens_ty_0:Code:=loopCode Tryz.prog 42 0
noncomputable def lc_i_termSize_0:Code:=loopCode Tryz.prog 44 0
noncomputable def lc_l_markText_0:Code:=loopCode Tryz.prog 45 0
noncomputable def lc_s_l2One_0:Code:=loopCode Tryz.prog 48 0
noncomputable def lc_s_l2Name_0:Code:=loopCode Tryz.prog 58 0
noncomputable def lc_s_SameTy_0:Code:=loopCode Tryz.prog 60 0
noncomputable def lc_s_l1Look_0:Code:=loopCode Tryz.prog 73 0
noncomputable def lc_i_isName_0:Code:=loopCode Tryz.prog 82 0
noncomputable def lc_i_measure_0:Code:=loopCode Tryz.prog 83 0
noncomputable def lc_slices_EqualFunc_Ty_0:Code:=loopCode Tryz.prog 84 0
noncomputable def lc_slices_IndexFunc_Ty_0:Code:=loopCode Tryz.prog 85 0
def clT:Nat→Callee→Bool:=fun _ _=>false
noncomputable def E:Env where
 P:=Tryz.prog
 pm:=fun g j=>match g,j with | 3,0=>.bor | 6,0=>.bor | 6,1=>.bor | 8,0=>.bor | 8,1=>.bor | 11,0=>.bor | 12,0=>.bor | 15,0=>.bor | 16,0=>.bor | 16,1=>.bor | 17,0=>.bor | 17,1=>.bor | 18,0=>.bor | 18,1=>.bor | 22,0=>.bor | 22,1=>.bor | 23,0=>.bor | 23,1=>.bor | 24,0=>.bor | 24,1=>.bor | 26,0=>.bor | 28,0=>.bor | 29,0=>.bor | 32,0=>.bor | 33,0=>.bor | 34,0=>.bor | 37,0=>.bor | 37,1=>.bor | 39,0=>.bor | 41,0=>.bor | 43,0=>.bor | 45,0=>.bor | 46,0=>.bor | 46,1=>.bor | 46,2=>.bor | 47,0=>.bor | 48,0=>.bor | 54,0=>.bor | 54,1=>.bor | 54,2=>.bor | 55,0=>.bor | 56,0=>.bor | 57,0=>.bor | 58,0=>.bor | 58,1=>.bor | 59,0=>.bor | 60,0=>.bor | 60,1=>.bor | 67,0=>.bor | 67,1=>.bor | 68,0=>.bor | 68,1=>.bor | 68,2=>.bor | 69,0=>.bor | 70,0=>.bor | 70,1=>.bor | 71,0=>.bor | 71,1=>.bor | 72,0=>.bor | 82,0=>.bor | 84,0=>.bor | 84,1=>.bor | 84,2=>.bor | 85,0=>.bor | 85,1=>.bor | 7,0=>.inp | 19,0=>.inp | 20,0=>.inp | 21,0=>.inp | 40,1=>.own | _,_=>.cls
 rm:=fun _=>none
 ow:=fun g=>match g with | 5=>some [27,4] | 10=>some [27] | 14=>some [27] | 30=>some [24] | 40=>some [27] | 42=>some [24] | _=>none
 cl:=fun o=>match o.op,o.dst with | .call c,some d=>clT d c.callee | _,_=>false
 deep:=fun t=>match t with | 24=>true | 27=>true | _=>false
 frz:=fun _=>none
 frzB:=fun _=>none
 ext:=fun g=>match g with | 13=>some xSplit | 65=>some xAtoi | 66=>some xItoa | _=>none
 prim:=fun _=>none
def N:Ann where
 loop:=fun f b=>match f,b with
 |9,0=>some k_s_l1Split_0
 |10,3=>some k_s_l2Read_3
 |10,1=>some k_s_l2Read_1
 |12,3=>some k_s_l2Text_3
 |12,1=>some k_s_l2Text_1
 |14,0=>some k_i_tokens_term_0
 |17,0=>some k_l_eqTyS_0
 |18,0=>some k_l_eqTermS_0
 |20,0=>some k_l_markTyS_0
 |21,0=>some k_l_markTermS_0
 |23,0=>some k_l_heldTyS_0
 |24,0=>some k_l_heldTermS_0
 |26,0=>some k_s_l2Kind_0
 |28,0=>some k_s_l2Digits_0
 |29,0=>some k_s_l2Sign_0
 |30,1=>some k_s_l1Read_1
 |31,0=>some k_s_l2Look_0
 |34,0=>some k_s_l1Text_0
 |37,0=>some k_slices_Index_string_0
 |40,1=>some k_i_tokens_numbers_1
 |42,0=>some k_i_tokens_ty_0
 |44,0=>some k_i_termSize_0
 |45,0=>some k_l_markText_0
 |48,0=>some k_s_l2One_0
 |58,0=>some k_s_l2Name_0
 |60,0=>some k_s_SameTy_0
 |73,0=>some k_s_l1Look_0
 |82,0=>some k_i_isName_0
 |83,0=>some k_i_measure_0
 |84,0=>some k_slices_EqualFunc_Ty_0
 |85,0=>some k_slices_IndexFunc_Ty_0
 |_,_=>none
 join:=fun f b=>match f,b with
 |10,0=>some kj_s_l2Read_0
 |12,0=>some kj_s_l2Text_0
 |_,_=>none
 reg:=fun f b=>match f,b with
 |3,16=>some [(57,.bool)]
 |3,5=>some [(32,.bool)]
 |4,3=>some [(26,.bool)]
 |5,3=>some [(28,.bool)]
 |9,6=>some [(22,.bool)]
 |10,31=>some [(122,.bool)]
 |10,27=>some [(102,.bool)]
 |10,24=>some [(85,.bool)]
 |10,20=>some [(66,.bool)]
 |10,4=>some [(25,.bool)]
 |12,14=>some [(57,.bool)]
 |14,8=>some [(57,.bool)]
 |14,5=>some [(45,.bool)]
 |14,2=>some [(14,.bool)]
 |15,2=>some [(2,.bool)]
 |25,1=>some [(18,.bool)]
 |28,1=>some [(3,.bool)]
 |30,21=>some [(57,.bool)]
 |30,18=>some [(42,.bool)]
 |31,2=>some [(26,.bool)]
 |36,1=>some [(15,.bool)]
 |39,1=>some [(2,.bool)]
 |41,1=>some [(2,.bool)]
 |42,6=>some [(30,.bool)]
 |46,1=>some [(6,.bool)]
 |48,11=>some [(2,.bool)]
 |48,4=>some [(100,.bool)]
 |48,2=>some [(65,.bool)]
 |52,3=>some [(25,.bool)]
 |54,1=>some [(6,.bool)]
 |56,8=>some [(2,.bool)]
 |56,3=>some [(61,.bool)]
 |56,1=>some [(41,.bool)]
 |58,7=>some [(42,.bool)]
 |58,1=>some [(17,.bool)]
 |60,1=>some [(26,.bool)]
 |68,3=>some [(6,.bool)]
 |68,2=>some [(6,.bool)]
 |69,2=>some [(2,.bool)]
 |70,1=>some [(4,.bool)]
 |73,2=>some [(51,.bool)]
 |82,6=>some [(37,.bool)]
 |82,5=>some [(5,.bool)]
 |83,1=>some [(33,.bool)]
 |_,_=>none
noncomputable abbrev CC:CallT:=Cw E N
noncomputable abbrev LL:LoopT:=Lw E N
end Go.Proofs.YtegbnddjgifcdaaGreatDoor.Abs
