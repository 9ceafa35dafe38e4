/- What the functions come to in the abstract machine. -/
import Derived.Test.YthnjnnnobipnfaaD1Ann
import Derived.KernelRfl
set_option linter.unusedVariables false
set_option maxRecDepth 100000
namespace Go.Proofs.Ythnjnnnobipnfaa.Abs
open Go Go.Proofs Go.IntKind
noncomputable def nf_l_toTerm (C : CallT) (L : LoopT) (a0 : Int) (a1 : Int) (a2 : List UInt8) (a3 : List UInt8) (a40 : Int) (a41 : Int) (a42 : List CVal) (a5 : List CVal) (a6 : List CVal) : Option Ret :=
 (C f_l_toTy [AVal.v (CVal.agg [CVal.int i64 a40, CVal.int i64 a41, CVal.sl a42])] []).bind fun r =>
 br (CVal.isAggN 3 r.1)
 ((r.1.cell 0).bind fun c =>
 (r.1.cell 1).bind fun c_1 =>
 (r.1.cell 2).bind fun c_2 =>
 c_2.asSl.bind fun xs =>
 (C f_l_toTyS [AVal.v (CVal.sl a5)] []).bind fun r =>
 br r.1.isFlat
 (r.1.asSl.bind fun xs_1 =>
 (C f_l_toTermS [AVal.v (CVal.sl a6)] []).bind fun r =>
 br r.1.isFlat
 (r.1.asSl.bind fun xs_2 =>
 (CVal.asInt i64 c).bind fun n =>
 (CVal.asInt i64 c_1).bind fun n_1 =>
 some
 (CVal.agg
 [CVal.int i64 a0, CVal.int i64 a1, CVal.str a2, CVal.str a3,
 CVal.int i64 n, CVal.int i64 n_1, CVal.sl xs, CVal.sl xs_1,
 CVal.sl xs_2],
 []))
 none)
 none)
 none
theorem go_l_toTerm (a0 : Int) (a1 : Int) (a2 : List UInt8) (a3 : List UInt8) (a40 : Int) (a41 : Int) (a42 : List CVal) (a5 : List CVal) (a6 : List CVal) (R : Ret) (h : nf_l_toTerm CC LL a0 a1 a2 a3 a40 a41 a42 a5 a6 = some R) : CC f_l_toTerm [AVal.v
 (CVal.agg
 [CVal.int i64 a0, CVal.int i64 a1, CVal.str a2, CVal.str a3, CVal.int i64 a40,
 CVal.int i64 a41, CVal.sl a42, CVal.sl a5, CVal.sl a6])] [] = some R := fnW (by decide) rfl (Eq.trans (b := nf_l_toTerm CC LL a0 a1 a2 a3 a40 a41 a42 a5 a6) (by kernel_rfl) h)
noncomputable def nf_l_markTerm (C : CallT) (L : LoopT) (a0 : Int) (a1 : Int) (a2 : List UInt8) (a3 : List UInt8) (a40 : Int) (a41 : Int) (a42 : List CVal) (a5 : List CVal) (a6 : List CVal) (b : Int) : Option Ret :=
 (C f_l_markTy
 [AVal.agg [AVal.v (CVal.int i64 a40), AVal.v (CVal.int i64 a41), AVal.lref 0 0],
 AVal.v (CVal.int i64 b)]
 [PB.arr (Md.mk true true 0) false 3 a42]).bind
 fun r =>
 r.2[0]?.bind fun y =>
 (C f_l_markTyS [AVal.lref 0 0, AVal.v r.1]
 [PB.arr (Md.mk true true 0) false 3 a5]).bind
 fun r =>
 r.2[0]?.bind fun y_1 =>
 (C f_l_markTermS [AVal.lref 0 0, AVal.v r.1]
 [PB.arr (Md.mk true true 0) false 9 a6]).bind
 fun r => r.2[0]?.bind fun y_2 => some (r.1, [y, y_1, y_2])
theorem go_l_markTerm (a0 : Int) (a1 : Int) (a2 : List UInt8) (a3 : List UInt8) (a40 : Int) (a41 : Int) (a42 : List CVal) (a5 : List CVal) (a6 : List CVal) (b : Int) (R : Ret) (h : nf_l_markTerm CC LL a0 a1 a2 a3 a40 a41 a42 a5 a6 b = some R) : CC f_l_markTerm [AVal.agg
 [AVal.v (CVal.int i64 a0), AVal.v (CVal.int i64 a1), AVal.v (CVal.str a2), AVal.v (CVal.str a3),
 AVal.v (CVal.int i64 a40), AVal.v (CVal.int i64 a41), AVal.lref 0 0,
 AVal.lref 1 0, AVal.lref 2 0],
 AVal.v (CVal.int i64 b)] [PB.arr (Md.mk true true 0) false 3 a42, PB.arr (Md.mk true true 0) false 3 a5,
 PB.arr (Md.mk true true 0) false 9 a6] = some R := fnW (by decide) rfl (Eq.trans (b := nf_l_markTerm CC LL a0 a1 a2 a3 a40 a41 a42 a5 a6 b) (by kernel_rfl) h)
noncomputable def nf_l_toTyS (C : CallT) (L : LoopT) (a : List CVal) : Option Ret :=
 br (decide ((↑a.length : Int) = (↑a.length : Int)) && decide ((↑a.length : Int) ≤ 1048576))
 ((L f_l_toTyS 0 lc_l_toTyS_0 [] k_l_toTyS_0
 ((a, (), 0, ()),
 List.replicate (↑a.length : Int).toNat
 (CVal.agg [CVal.int i64 0, CVal.int i64 0, CVal.sl []]),
 ())).bind
 fun r => loK r (fun r => some r) fun j p => br (j == 0) (some (CVal.sl p.snd.1, [])) none)
 none
theorem go_l_toTyS (a : List CVal) (R : Ret) (h : nf_l_toTyS CC LL a = some R) : CC f_l_toTyS [AVal.v (CVal.sl a)] [] = some R := fnW (by decide) rfl (Eq.trans (b := nf_l_toTyS CC LL a) (by kernel_rfl) h)
noncomputable def nf_l_eqTermS (C : CallT) (L : LoopT) (a : List CVal) (b : List CVal) : Option Ret :=
 br (!decide ((↑a.length : Int) = (↑b.length : Int))) (some (CVal.bool false, []))
 ((L f_l_eqTermS 0 lc_l_eqTermS_0 [] k_l_eqTermS_0 ((a, b, 0, ()), ())).bind fun r =>
 loK r (fun r => some r) fun j p => br (j == 0) (some (CVal.bool true, [])) none)
theorem go_l_eqTermS (a : List CVal) (b : List CVal) (R : Ret) (h : nf_l_eqTermS CC LL a b = some R) : CC f_l_eqTermS [AVal.v (CVal.sl a), AVal.v (CVal.sl b)] [] = some R := fnW (by decide) rfl (Eq.trans (b := nf_l_eqTermS CC LL a b) (by kernel_rfl) h)
noncomputable def nf_l_markTyS (C : CallT) (L : LoopT) (a : List CVal) (b : Int) : Option Ret :=
 (L f_l_markTyS 0 lc_l_markTyS_0 [PSh.arr (Md.mk true true 0) false 3] k_l_markTyS_0
 (((), b, 0, ()), a, ())).bind
 fun r =>
 loK r (fun r => some r) fun j p => br (j == 0) (some (CVal.int i64 p.fst.snd.1, [p.snd.1])) none
theorem go_l_markTyS (a : List CVal) (b : Int) (R : Ret) (h : nf_l_markTyS CC LL a b = some R) : CC f_l_markTyS [AVal.lref 0 0, AVal.v (CVal.int i64 b)] [PB.arr (Md.mk true true 0) false 3 a] = some R := fnW (by decide) rfl (Eq.trans (b := nf_l_markTyS CC LL a b) (by kernel_rfl) h)
noncomputable def nf_s_l6All (C : CallT) (L : LoopT) (a0 : Int) (a1 : Int) (a2 : List UInt8) (a3 : List UInt8) (a40 : Int) (a41 : Int) (a42 : List CVal) (a5 : List CVal) (a6 : List CVal) (b : List CVal) : Option Ret :=
 br (decide (b.length + 1 ≤ 4294967296) && true && true)
 ((L f_s_l6All 0 lc_s_l6All_0 [PSh.arr (Md.mk false false 0) false 9] k_s_l6All_0
 (((), (), 0, ()),
 b ++
 [CVal.agg
 [CVal.int i64 a0, CVal.int i64 a1, CVal.str a2, CVal.str a3, CVal.int i64 a40,
 CVal.int i64 a41, CVal.sl a42, CVal.sl a5, CVal.sl a6]],
 (a0, a1, a2, a3, a40, a41, a42, a5, a6, ()), ())).bind
 fun r => loK r (fun r => some r) fun j p => br (j == 0) (some (CVal.nilp, [p.snd.1])) none)
 none
theorem go_s_l6All (a0 : Int) (a1 : Int) (a2 : List UInt8) (a3 : List UInt8) (a40 : Int) (a41 : Int) (a42 : List CVal) (a5 : List CVal) (a6 : List CVal) (b : List CVal) (R : Ret) (h : nf_s_l6All CC LL a0 a1 a2 a3 a40 a41 a42 a5 a6 b = some R) : CC f_s_l6All [AVal.v
 (CVal.agg
 [CVal.int i64 a0, CVal.int i64 a1, CVal.str a2, CVal.str a3, CVal.int i64 a40,
 CVal.int i64 a41, CVal.sl a42, CVal.sl a5, CVal.sl a6]),
 AVal.lref 0 0] [PB.arr (Md.mk false false 0) false 9 b] = some R := fnW (by decide) rfl (Eq.trans (b := nf_s_l6All CC LL a0 a1 a2 a3 a40 a41 a42 a5 a6 b) (by kernel_rfl) h)
noncomputable def nf_i_cloneTy (C : CallT) (L : LoopT) (a0 : Int) (a1 : Int) (a2 : List CVal) : Option Ret :=
 (L f_i_cloneTy 0 lc_i_cloneTy_0 [] k_i_cloneTy_0
 (((), (), a2, (↑a2.length : Int), 0, ()),
 (0, 0, (), ()), [], (a0, a1, (), ()), [], ())).bind
 fun r =>
 loK r (fun r => some r) fun j p =>
 br (j == 0)
 (some
 (CVal.agg
 [CVal.int i64 p.snd.snd.snd.fst.1, CVal.int i64 p.snd.snd.snd.fst.snd.1,
 CVal.sl p.snd.snd.snd.snd.1],
 []))
 none
theorem go_i_cloneTy (a0 : Int) (a1 : Int) (a2 : List CVal) (R : Ret) (h : nf_i_cloneTy CC LL a0 a1 a2 = some R) : CC f_i_cloneTy [AVal.v (CVal.agg [CVal.int i64 a0, CVal.int i64 a1, CVal.sl a2])] [] = some R := fnW (by decide) rfl (Eq.trans (b := nf_i_cloneTy CC LL a0 a1 a2) (by kernel_rfl) h)
noncomputable def nf_slices_IndexFunc_p_node (C : CallT) (L : LoopT) (a : List CVal) (b : CVal) : Option Ret :=
 (L f_slices_IndexFunc_p_node 0 lc_slices_IndexFunc_p_node_0 [] k_slices_IndexFunc_p_node_0
 ((a, b, (↑a.length : Int), 0, ()), ())).bind
 fun r => loK r (fun r => some r) fun j p => br (j == 0) (some (CVal.int i64 (-1 : Int), [])) none
theorem go_slices_IndexFunc_p_node (a : List CVal) (b : CVal) (R : Ret) (h : nf_slices_IndexFunc_p_node CC LL a b = some R) : CC f_slices_IndexFunc_p_node [AVal.v (CVal.sl a), AVal.v b] [] = some R := fnW (by decide) rfl (Eq.trans (b := nf_slices_IndexFunc_p_node CC LL a b) (by kernel_rfl) h)
noncomputable def nf_s_TyOk (C : CallT) (L : LoopT) (a0 : Int) (a1 : Int) (a2 : List CVal) : Option Ret :=
 (C f_s_l1Look
 [AVal.v (CVal.agg [CVal.int i64 a0, CVal.int i64 a1, CVal.sl a2]),
 AVal.v (CVal.int i64 6), AVal.lptr 0 0]
 [PB.box [AVal.v (CVal.int i64 0)]]).bind
 fun r => r.2[0]?.bind fun y => y[0]?.bind fun y => some (r.1, [])
theorem go_s_TyOk (a0 : Int) (a1 : Int) (a2 : List CVal) (R : Ret) (h : nf_s_TyOk CC LL a0 a1 a2 = some R) : CC f_s_TyOk [AVal.v (CVal.agg [CVal.int i64 a0, CVal.int i64 a1, CVal.sl a2])] [] = some R := fnW (by decide) rfl (Eq.trans (b := nf_s_TyOk CC LL a0 a1 a2) (by kernel_rfl) h)
noncomputable def nf_i_namesOk (C : CallT) (L : LoopT) (a : Int) (b : List UInt8) (c : List UInt8) : Option Ret :=
 br (decide (a = 14))
 (((C f_i_isName [AVal.v (CVal.str b)] []).bind fun r =>
 r.1.asBool.bind fun b_1 =>
 br b_1
 ((C f_i_isName [AVal.v (CVal.str c)] []).bind fun r =>
 (bif true then r.1 else CVal.bool false).asBool.bind fun b_2 =>
 br b_2 (some (!decide (b = c), ())) (some (false, ())))
 (some (false, ()))).bind
 fun y => some (CVal.bool y.1, []))
 ((br (decide (c = []))
 ((C f_i_isName [AVal.v (CVal.str b)] []).bind fun r =>
 (C f_i_bindsS [AVal.v (CVal.int i64 a)] []).bind fun r_1 =>
 r_1.1.asBool.bind fun b_1 =>
 br b_1
 (r.1.asBool.bind fun b_2 =>
 br (b_2 == true)
 (br (decide (b = [])) (some (true, ()))
 ((C f_i_isName [AVal.v (CVal.str b)] []).bind fun r =>
 (bif true then bif false then CVal.bool true else r.1 else CVal.bool false).asBool.bind fun b =>
 some (b, ())))
 (some (false, ())))
 (r.1.asBool.bind fun b_2 =>
 br (b_2 == decide (a = 3))
 (br (decide (b = [])) (some (true, ()))
 ((C f_i_isName [AVal.v (CVal.str b)] []).bind fun r =>
 (bif true then bif false then CVal.bool true else r.1 else CVal.bool false).asBool.bind fun b =>
 some (b, ())))
 (some (false, ()))))
 (some (false, ()))).bind
 fun y => some (CVal.bool y.1, []))
theorem go_i_namesOk (a : Int) (b : List UInt8) (c : List UInt8) (R : Ret) (h : nf_i_namesOk CC LL a b c = some R) : CC f_i_namesOk [AVal.v (CVal.int i64 a), AVal.v (CVal.str b), AVal.v (CVal.str c)] [] = some R := fnW (by decide) rfl (Eq.trans (b := nf_i_namesOk CC LL a b c) (by kernel_rfl) h)
noncomputable def nf_s_l1Args (C : CallT) (L : LoopT) (a : Int) : Option Ret :=
 br (decide (a = 1)) (some (CVal.int i64 0, []))
 (br (decide (a = 2)) (some (CVal.int i64 0, []))
 (br (decide (a = 3)) (some (CVal.int i64 0, []))
 (br (decide (a = 6)) (some (CVal.int i64 1, []))
 (br (decide (a = 4)) (some (CVal.int i64 2, []))
 (br (decide (a = 5)) (some (CVal.int i64 2, []))
 (some (CVal.int i64 (-1 : Int), [])))))))
theorem go_s_l1Args (a : Int) (R : Ret) (h : nf_s_l1Args CC LL a = some R) : CC f_s_l1Args [AVal.v (CVal.int i64 a)] [] = some R := fnW (by decide) rfl (Eq.trans (b := nf_s_l1Args CC LL a) (by kernel_rfl) h)
noncomputable def nf_i_tyParts (C : CallT) (L : LoopT) (a : Int) : Option Ret :=
 br (decide (a = 1)) (some (CVal.int i64 0, []))
 (br (decide (a = 2)) (some (CVal.int i64 0, []))
 (br (decide (a = 3)) (some (CVal.int i64 0, []))
 (br (decide (a = 6)) (some (CVal.int i64 1, []))
 (br (decide (a = 4)) (some (CVal.int i64 2, []))
 (br (decide (a = 5)) (some (CVal.int i64 2, []))
 (some (CVal.int i64 (-1 : Int), [])))))))
theorem go_i_tyParts (a : Int) (R : Ret) (h : nf_i_tyParts CC LL a = some R) : CC f_i_tyParts [AVal.v (CVal.int i64 a)] [] = some R := fnW (by decide) rfl (Eq.trans (b := nf_i_tyParts CC LL a) (by kernel_rfl) h)
noncomputable def nl_l_eqTyS_0 (C : CallT) (L : LoopT) (x00 : List CVal) (x01 : List CVal) (x02 : Int) : Option (LO k_l_eqTyS_0.T) :=
 br (decide (x02 < (↑x00.length : Int)))
 (br (decide (0 ≤ x02) && true)
 (x00[x02.toNat]?.bind fun y =>
 br (CVal.fits true 3 y)
 ((y.sub 0 3).bind fun y =>
 br (decide (0 ≤ x02) && true)
 (x01[x02.toNat]?.bind fun y_1 =>
 br (CVal.fits true 3 y_1)
 ((y_1.sub 0 3).bind fun y_2 =>
 (C f_l_eqTy [AVal.v y, AVal.v y_2] []).bind fun r =>
 r.1.asBool.bind fun b =>
 br (!b) (some (LO.ret (CVal.bool false, [])))
 (L f_l_eqTyS 0 lc_l_eqTyS_0 [] k_l_eqTyS_0
 ((x00, x01, i64.wrap (x02 + 1), ()), ())))
 none)
 none)
 none)
 none)
 (some (LO.out 0 ((x00, x01, x02, ()), ())))
theorem gl_l_eqTyS_0 (x00 : List CVal) (x01 : List CVal) (x02 : Int) (R : LO k_l_eqTyS_0.T) (h : nl_l_eqTyS_0 CC LL x00 x01 x02 = some R) : LL f_l_eqTyS 0 lc_l_eqTyS_0 [] k_l_eqTyS_0 ((x00, x01, x02, ()), ()) = some R := loopW (Eq.trans (b := nl_l_eqTyS_0 CC LL x00 x01 x02) (by kernel_rfl) h)
noncomputable def nl_l_markTermS_0 (C : CallT) (L : LoopT) (x01 : Int) (x02 : Int) (x1 : List CVal) : Option (LO k_l_markTermS_0.T) :=
 br (decide (x02 < (↑x1.length : Int)))
 (br (decide (0 ≤ x02) && true)
 (br (decide (x02.toNat < x1.length) && true)
 (x1[x02.toNat]?.bind fun y =>
 br (CVal.fits false 1 y)
 (br (decide (0 ≤ x02) && true)
 (br (decide (x02.toNat < (x1.set x02.toNat (CVal.int i64 x01)).length) && true)
 ((x1.set x02.toNat (CVal.int i64 x01))[x02.toNat]?.bind fun y =>
 br (y.isAgg && decide (2 ≤ y.cells.length))
 ((C f_l_markText
 [AVal.v
 (CVal.int i64 (i64.wrap (i64.wrap (x01 + 1) + 1)))]
 []).bind
 fun r =>
 br (decide (0 ≤ x02) && true)
 (br
 (decide
 (x02.toNat <
 ((x1.set x02.toNat (CVal.int i64 x01)).set x02.toNat
 (CVal.agg
 (splice y.cells 1
 [CVal.int i64 (i64.wrap (x01 + 1))]))).length) &&
 true)
 (br (r.1.isFlat && true)
 (r.1.asStr.bind fun s =>
 ((x1.set x02.toNat (CVal.int i64 x01)).set x02.toNat
 (CVal.agg
 (splice y.cells 1
 [CVal.int i64 (i64.wrap (x01 + 1))])))[x02.toNat]?.bind
 fun y_1 =>
 br (y_1.isAgg && decide (3 ≤ y_1.cells.length))
 ((C f_l_markText
 [AVal.v
 (CVal.int i64
 (i64.wrap
 (i64.wrap (i64.wrap (x01 + 1) + 1) +
 1)))]
 []).bind
 fun r =>
 br (decide (0 ≤ x02) && true)
 (br
 (decide
 (x02.toNat <
 (((x1.set x02.toNat (CVal.int i64 x01)).set x02.toNat
 (CVal.agg
 (splice y.cells 1
 [CVal.int i64
 (i64.wrap (x01 + 1))]))).set
 x02.toNat
 (CVal.agg (splice y_1.cells 2 [CVal.str s]))).length) &&
 true)
 (br (r.1.isFlat && true)
 (r.1.asStr.bind fun s_1 =>
 (((x1.set x02.toNat (CVal.int i64 x01)).set x02.toNat
 (CVal.agg
 (splice y.cells 1
 [CVal.int i64
 (i64.wrap (x01 + 1))]))).set
 x02.toNat
 (CVal.agg (splice y_1.cells 2 [CVal.str s])))[x02.toNat]?.bind
 fun y_2 =>
 br (y_2.isAgg && decide (4 ≤ y_2.cells.length))
 (br (decide (0 ≤ x02) && true)
 (br
 (decide
 (x02.toNat <
 ((((x1.set x02.toNat (CVal.int i64 x01)).set x02.toNat
 (CVal.agg
 (splice y.cells 1
 [CVal.int i64
 (i64.wrap (x01 + 1))]))).set
 x02.toNat
 (CVal.agg
 (splice y_1.cells 2 [CVal.str s]))).set
 x02.toNat
 (CVal.agg
 (splice y_2.cells 3 [CVal.str s_1]))).length) &&
 true)
 (((((x1.set x02.toNat (CVal.int i64 x01)).set x02.toNat
 (CVal.agg
 (splice y.cells 1
 [CVal.int i64
 (i64.wrap (x01 + 1))]))).set
 x02.toNat
 (CVal.agg (splice y_1.cells 2 [CVal.str s]))).set
 x02.toNat
 (CVal.agg
 (splice y_2.cells 3
 [CVal.str s_1])))[x02.toNat]?.bind
 fun y_3 =>
 br (y_3.isAgg && decide (5 ≤ y_3.cells.length))
 (br (decide (0 ≤ x02) && true)
 (br
 (decide
 (x02.toNat <
 (((((x1.set x02.toNat (CVal.int i64 x01)).set
 x02.toNat
 (CVal.agg
 (splice y.cells 1
 [CVal.int i64
 (i64.wrap
 (x01 + 1))]))).set
 x02.toNat
 (CVal.agg
 (splice y_1.cells 2
 [CVal.str s]))).set
 x02.toNat
 (CVal.agg
 (splice y_2.cells 3
 [CVal.str s_1]))).set
 x02.toNat
 (CVal.agg
 (splice y_3.cells 4
 [CVal.int i64
 (i64.wrap
 (i64.wrap
 (i64.wrap
 (i64.wrap
 (x01 + 1) +
 1) +
 1) +
 1))]))).length) &&
 true)
 ((((((x1.set x02.toNat (CVal.int i64 x01)).set
 x02.toNat
 (CVal.agg
 (splice y.cells 1
 [CVal.int i64
 (i64.wrap
 (x01 + 1))]))).set
 x02.toNat
 (CVal.agg
 (splice y_1.cells 2
 [CVal.str s]))).set
 x02.toNat
 (CVal.agg
 (splice y_2.cells 3
 [CVal.str s_1]))).set
 x02.toNat
 (CVal.agg
 (splice y_3.cells 4
 [CVal.int i64
 (i64.wrap
 (i64.wrap
 (i64.wrap
 (i64.wrap
 (x01 + 1) +
 1) +
 1) +
 1))])))[x02.toNat]?.bind
 fun y_4 =>
 br (y_4.isAgg && decide (6 ≤ y_4.cells.length))
 (br (decide (0 ≤ x02) && true)
 (br
 (decide
 (x02.toNat <
 ((((((x1.set x02.toNat
 (CVal.int i64
 x01)).set
 x02.toNat
 (CVal.agg
 (splice y.cells 1
 [CVal.int i64
 (i64.wrap
 (x01 +
 (1 :
 Int)))]))).set
 x02.toNat
 (CVal.agg
 (splice y_1.cells 2
 [CVal.str s]))).set
 x02.toNat
 (CVal.agg
 (splice y_2.cells 3
 [CVal.str s_1]))).set
 x02.toNat
 (CVal.agg
 (splice y_3.cells 4
 [CVal.int i64
 (i64.wrap
 (i64.wrap
 (i64.wrap
 (i64.wrap
 (x01 +
 1) +
 1) +
 1) +
 1))]))).set
 x02.toNat
 (CVal.agg
 (splice y_4.cells 5
 [CVal.int i64
 (i64.wrap
 (i64.wrap
 (i64.wrap
 (i64.wrap
 (i64.wrap
 (x01 +
 1) +
 1) +
 1) +
 1) +
 1))]))).length) &&
 true)
 (((((((x1.set x02.toNat
 (CVal.int i64
 x01)).set
 x02.toNat
 (CVal.agg
 (splice y.cells 1
 [CVal.int i64
 (i64.wrap
 (x01 +
 (1 :
 Int)))]))).set
 x02.toNat
 (CVal.agg
 (splice y_1.cells 2
 [CVal.str s]))).set
 x02.toNat
 (CVal.agg
 (splice y_2.cells 3
 [CVal.str s_1]))).set
 x02.toNat
 (CVal.agg
 (splice y_3.cells 4
 [CVal.int i64
 (i64.wrap
 (i64.wrap
 (i64.wrap
 (i64.wrap
 (x01 + 1) +
 1) +
 1) +
 1))]))).set
 x02.toNat
 (CVal.agg
 (splice y_4.cells 5
 [CVal.int i64
 (i64.wrap
 (i64.wrap
 (i64.wrap
 (i64.wrap
 (i64.wrap
 (x01 + 1) +
 1) +
 1) +
 1) +
 1))])))[x02.toNat]?.bind
 fun y_5 =>
 (y_5.cell 6).bind fun c =>
 c.asSl.bind fun xs =>
 ((((((x1.set x02.toNat
 (CVal.int
 i64
 x01)).set
 x02.toNat
 (CVal.agg
 (splice y.cells
 1
 [CVal.int
 i64
 (i64.wrap
 (x01 +
 (1 :
 Int)))]))).set
 x02.toNat
 (CVal.agg
 (splice y_1.cells
 2
 [CVal.str s]))).set
 x02.toNat
 (CVal.agg
 (splice y_2.cells 3
 [CVal.str s_1]))).set
 x02.toNat
 (CVal.agg
 (splice y_3.cells 4
 [CVal.int i64
 (i64.wrap
 (i64.wrap
 (i64.wrap
 (i64.wrap
 (x01 +
 1) +
 1) +
 1) +
 1))]))).set
 x02.toNat
 (CVal.agg
 (splice y_4.cells 5
 [CVal.int i64
 (i64.wrap
 (i64.wrap
 (i64.wrap
 (i64.wrap
 (i64.wrap
 (x01 +
 1) +
 1) +
 1) +
 1) +
 (1 :
 Int)))])))[x02.toNat]?.bind
 fun y_6 =>
 (y_6.cell 6).bind fun c =>
 c.asSl.bind fun xs =>
 br (xs.all (CVal.fits true 3))
 ((C f_l_markTyS
 [AVal.lref 0 0,
 AVal.v
 (CVal.int i64
 (i64.wrap
 (i64.wrap
 (i64.wrap
 (i64.wrap
 (i64.wrap
 (i64.wrap
 (x01 +
 (1 :
 Int)) +
 (1 :
 Int)) +
 1) +
 1) +
 1) +
 1)))]
 [PB.arr
 (Md.mk true true 0)
 false 3 xs]).bind
 fun r =>
 r.2[0]?.bind fun y_7 =>
 br
 (decide (0 ≤ x02) && true)
 (br
 (decide
 (x02.toNat <
 (((((((x1.set x02.toNat
 (CVal.int
 i64
 x01)).set
 x02.toNat
 (CVal.agg
 (splice
 y.cells
 (1 :
 Nat)
 [CVal.int
 i64
 (i64.wrap
 (x01 +
 (1 :
 Int)))]))).set
 x02.toNat
 (CVal.agg
 (splice
 y_1.cells
 (2 :
 Nat)
 [CVal.str
 s]))).set
 x02.toNat
 (CVal.agg
 (splice
 y_2.cells
 (3 :
 Nat)
 [CVal.str
 s_1]))).set
 x02.toNat
 (CVal.agg
 (splice
 y_3.cells
 4
 [CVal.int
 i64
 (i64.wrap
 (i64.wrap
 (i64.wrap
 (i64.wrap
 (x01 +
 (1 :
 Int)) +
 (1 :
 Int)) +
 (1 :
 Int)) +
 (1 :
 Int)))]))).set
 x02.toNat
 (CVal.agg
 (splice
 y_4.cells
 5
 [CVal.int
 i64
 (i64.wrap
 (i64.wrap
 (i64.wrap
 (i64.wrap
 (i64.wrap
 (x01 +
 (1 :
 Int)) +
 (1 :
 Int)) +
 (1 :
 Int)) +
 (1 :
 Int)) +
 (1 :
 Int)))]))).set
 x02.toNat
 (y_6.putCell 6
 (CVal.sl
 y_7))).length) &&
 true)
 ((((((((x1.set x02.toNat
 (CVal.int
 i64
 x01)).set
 x02.toNat
 (CVal.agg
 (splice
 y.cells
 (1 :
 Nat)
 [CVal.int
 i64
 (i64.wrap
 (x01 +
 (1 :
 Int)))]))).set
 x02.toNat
 (CVal.agg
 (splice
 y_1.cells
 (2 :
 Nat)
 [CVal.str
 s]))).set
 x02.toNat
 (CVal.agg
 (splice
 y_2.cells
 (3 :
 Nat)
 [CVal.str
 s_1]))).set
 x02.toNat
 (CVal.agg
 (splice
 y_3.cells
 4
 [CVal.int
 i64
 (i64.wrap
 (i64.wrap
 (i64.wrap
 (i64.wrap
 (x01 +
 (1 :
 Int)) +
 (1 :
 Int)) +
 (1 :
 Int)) +
 (1 :
 Int)))]))).set
 x02.toNat
 (CVal.agg
 (splice y_4.cells
 5
 [CVal.int
 i64
 (i64.wrap
 (i64.wrap
 (i64.wrap
 (i64.wrap
 (i64.wrap
 (x01 +
 (1 :
 Int)) +
 (1 :
 Int)) +
 (1 :
 Int)) +
 (1 :
 Int)) +
 (1 :
 Int)))]))).set
 x02.toNat
 (y_6.putCell 6
 (CVal.sl
 y_7)))[x02.toNat]?.bind
 fun y_8 =>
 (y_8.cell 7).bind
 fun c =>
 c.asSl.bind fun xs =>
 (((((((x1.set x02.toNat
 (CVal.int
 i64
 x01)).set
 x02.toNat
 (CVal.agg
 (splice
 y.cells
 (1 :
 Nat)
 [CVal.int
 i64
 (i64.wrap
 (x01 +
 (1 :
 Int)))]))).set
 x02.toNat
 (CVal.agg
 (splice
 y_1.cells
 (2 :
 Nat)
 [CVal.str
 s]))).set
 x02.toNat
 (CVal.agg
 (splice
 y_2.cells
 (3 :
 Nat)
 [CVal.str
 s_1]))).set
 x02.toNat
 (CVal.agg
 (splice
 y_3.cells
 (4 :
 Nat)
 [CVal.int
 i64
 (i64.wrap
 (i64.wrap
 (i64.wrap
 (i64.wrap
 (x01 +
 (1 :
 Int)) +
 (1 :
 Int)) +
 (1 :
 Int)) +
 (1 :
 Int)))]))).set
 x02.toNat
 (CVal.agg
 (splice
 y_4.cells
 5
 [CVal.int
 i64
 (i64.wrap
 (i64.wrap
 (i64.wrap
 (i64.wrap
 (i64.wrap
 (x01 +
 (1 :
 Int)) +
 (1 :
 Int)) +
 (1 :
 Int)) +
 (1 :
 Int)) +
 (1 :
 Int)))]))).set
 x02.toNat
 (y_6.putCell
 6
 (CVal.sl
 y_7)))[x02.toNat]?.bind
 fun y_9 =>
 (y_9.cell
 7).bind
 fun c =>
 c.asSl.bind fun xs =>
 br
 (xs.all
 (CVal.fits true
 3))
 ((C f_l_markTyS
 [AVal.lref
 (0 :
 Nat)
 (0 :
 Nat),
 AVal.v
 r.1]
 [PB.arr
 (Md.mk
 true
 true
 (0 :
 Nat))
 false
 (3 :
 Nat)
 xs]).bind
 fun r =>
 r.2[(0 :
 Nat)]?.bind
 fun y_10 =>
 br
 (decide
 ((0 :
 Int) ≤
 x02) &&
 true)
 (br
 (decide
 (x02.toNat <
 ((((((((x1.set
 x02.toNat
 (CVal.int
 i64
 x01)).set
 x02.toNat
 (CVal.agg
 (splice
 y.cells
 (1 :
 Nat)
 [CVal.int
 i64
 (i64.wrap
 (x01 +
 (1 :
 Int)))]))).set
 x02.toNat
 (CVal.agg
 (splice
 y_1.cells
 (2 :
 Nat)
 [CVal.str
 s]))).set
 x02.toNat
 (CVal.agg
 (splice
 y_2.cells
 (3 :
 Nat)
 [CVal.str
 s_1]))).set
 x02.toNat
 (CVal.agg
 (splice
 y_3.cells
 (4 :
 Nat)
 [CVal.int
 i64
 (i64.wrap
 (i64.wrap
 (i64.wrap
 (i64.wrap
 (x01 +
 (1 :
 Int)) +
 (1 :
 Int)) +
 (1 :
 Int)) +
 (1 :
 Int)))]))).set
 x02.toNat
 (CVal.agg
 (splice
 y_4.cells
 (5 :
 Nat)
 [CVal.int
 i64
 (i64.wrap
 (i64.wrap
 (i64.wrap
 (i64.wrap
 (i64.wrap
 (x01 +
 (1 :
 Int)) +
 (1 :
 Int)) +
 (1 :
 Int)) +
 (1 :
 Int)) +
 (1 :
 Int)))]))).set
 x02.toNat
 (y_6.putCell
 (6 :
 Nat)
 (CVal.sl
 y_7))).set
 x02.toNat
 (y_9.putCell
 (7 :
 Nat)
 (CVal.sl
 y_10))).length) &&
 true)
 (((((((((x1.set
 x02.toNat
 (CVal.int
 i64
 x01)).set
 x02.toNat
 (CVal.agg
 (splice
 y.cells
 (1 :
 Nat)
 [CVal.int
 i64
 (i64.wrap
 (x01 +
 (1 :
 Int)))]))).set
 x02.toNat
 (CVal.agg
 (splice
 y_1.cells
 (2 :
 Nat)
 [CVal.str
 s]))).set
 x02.toNat
 (CVal.agg
 (splice
 y_2.cells
 (3 :
 Nat)
 [CVal.str
 s_1]))).set
 x02.toNat
 (CVal.agg
 (splice
 y_3.cells
 (4 :
 Nat)
 [CVal.int
 i64
 (i64.wrap
 (i64.wrap
 (i64.wrap
 (i64.wrap
 (x01 +
 (1 :
 Int)) +
 (1 :
 Int)) +
 (1 :
 Int)) +
 (1 :
 Int)))]))).set
 x02.toNat
 (CVal.agg
 (splice
 y_4.cells
 (5 :
 Nat)
 [CVal.int
 i64
 (i64.wrap
 (i64.wrap
 (i64.wrap
 (i64.wrap
 (i64.wrap
 (x01 +
 (1 :
 Int)) +
 (1 :
 Int)) +
 (1 :
 Int)) +
 (1 :
 Int)) +
 (1 :
 Int)))]))).set
 x02.toNat
 (y_6.putCell
 (6 :
 Nat)
 (CVal.sl
 y_7))).set
 x02.toNat
 (y_9.putCell
 (7 :
 Nat)
 (CVal.sl
 y_10)))[x02.toNat]?.bind
 fun
 y_11 =>
 (y_11.cell
 (8 :
 Nat)).bind
 fun
 c =>
 c.asSl.bind
 fun
 xs =>
 ((((((((x1.set
 x02.toNat
 (CVal.int
 i64
 x01)).set
 x02.toNat
 (CVal.agg
 (splice
 y.cells
 (1 :
 Nat)
 [CVal.int
 i64
 (i64.wrap
 (x01 +
 (1 :
 Int)))]))).set
 x02.toNat
 (CVal.agg
 (splice
 y_1.cells
 (2 :
 Nat)
 [CVal.str
 s]))).set
 x02.toNat
 (CVal.agg
 (splice
 y_2.cells
 (3 :
 Nat)
 [CVal.str
 s_1]))).set
 x02.toNat
 (CVal.agg
 (splice
 y_3.cells
 (4 :
 Nat)
 [CVal.int
 i64
 (i64.wrap
 (i64.wrap
 (i64.wrap
 (i64.wrap
 (x01 +
 (1 :
 Int)) +
 (1 :
 Int)) +
 (1 :
 Int)) +
 (1 :
 Int)))]))).set
 x02.toNat
 (CVal.agg
 (splice
 y_4.cells
 (5 :
 Nat)
 [CVal.int
 i64
 (i64.wrap
 (i64.wrap
 (i64.wrap
 (i64.wrap
 (i64.wrap
 (x01 +
 (1 :
 Int)) +
 (1 :
 Int)) +
 (1 :
 Int)) +
 (1 :
 Int)) +
 (1 :
 Int)))]))).set
 x02.toNat
 (y_6.putCell
 (6 :
 Nat)
 (CVal.sl
 y_7))).set
 x02.toNat
 (y_9.putCell
 (7 :
 Nat)
 (CVal.sl
 y_10)))[x02.toNat]?.bind
 fun
 y_12 =>
 (y_12.cell
 (8 :
 Nat)).bind
 fun
 c =>
 c.asSl.bind
 fun
 xs =>
 br
 (xs.all
 (CVal.fits
 true
 (9 :
 Nat)))
 ((C
 f_l_markTermS
 [AVal.lref
 (0 :
 Nat)
 (0 :
 Nat),
 AVal.v
 r.1]
 [PB.arr
 (Md.mk
 true
 true
 (0 :
 Nat))
 false
 (9 :
 Nat)
 xs]).bind
 fun
 r =>
 r.2[(0 :
 Nat)]?.bind
 fun
 y_13 =>
 (CVal.asInt
 i64
 r.1).bind
 fun
 n =>
 L
 f_l_markTermS
 (0 :
 Nat)
 lc_l_markTermS_0
 [PSh.arr
 (Md.mk
 true
 true
 (0 :
 Nat))
 false
 (9 :
 Nat)]
 k_l_markTermS_0
 (((),
 n,
 i64.wrap
 (x02 +
 (1 :
 Int)),
 ()),
 ((((((((x1.set
 x02.toNat
 (CVal.int
 i64
 x01)).set
 x02.toNat
 (CVal.agg
 (splice
 y.cells
 (1 :
 Nat)
 [CVal.int
 i64
 (i64.wrap
 (x01 +
 (1 :
 Int)))]))).set
 x02.toNat
 (CVal.agg
 (splice
 y_1.cells
 (2 :
 Nat)
 [CVal.str
 s]))).set
 x02.toNat
 (CVal.agg
 (splice
 y_2.cells
 (3 :
 Nat)
 [CVal.str
 s_1]))).set
 x02.toNat
 (CVal.agg
 (splice
 y_3.cells
 (4 :
 Nat)
 [CVal.int
 i64
 (i64.wrap
 (i64.wrap
 (i64.wrap
 (i64.wrap
 (x01 +
 (1 :
 Int)) +
 (1 :
 Int)) +
 (1 :
 Int)) +
 (1 :
 Int)))]))).set
 x02.toNat
 (CVal.agg
 (splice
 y_4.cells
 (5 :
 Nat)
 [CVal.int
 i64
 (i64.wrap
 (i64.wrap
 (i64.wrap
 (i64.wrap
 (i64.wrap
 (x01 +
 (1 :
 Int)) +
 (1 :
 Int)) +
 (1 :
 Int)) +
 (1 :
 Int)) +
 (1 :
 Int)))]))).set
 x02.toNat
 (y_6.putCell
 (6 :
 Nat)
 (CVal.sl
 y_7))).set
 x02.toNat
 (y_9.putCell
 (7 :
 Nat)
 (CVal.sl
 y_10))).set
 x02.toNat
 (y_12.putCell
 (8 :
 Nat)
 (CVal.sl
 y_13)),
 ()))
 none)
 none)
 none)
 none)
 none)
 none)
 none)
 none)
 none)
 none)
 none)
 none)
 none)
 none)
 none)
 none)
 none)
 none)
 none)
 none)
 none)
 none)
 none)
 none)
 none)
 none)
 (br (y.isAgg && decide (1 ≤ y.cells.length))
 (br (decide (0 ≤ x02) && true)
 (br
 (decide
 (x02.toNat <
 (x1.set x02.toNat (CVal.agg (CVal.int i64 x01 :: List.drop 1 y.cells))).length) &&
 true)
 ((x1.set x02.toNat
 (CVal.agg (CVal.int i64 x01 :: List.drop 1 y.cells)))[x02.toNat]?.bind
 fun y_1 =>
 br (y_1.isAgg && decide (2 ≤ y_1.cells.length))
 ((C f_l_markText
 [AVal.v
 (CVal.int i64
 (i64.wrap (i64.wrap (x01 + 1) + 1)))]
 []).bind
 fun r =>
 br (decide (0 ≤ x02) && true)
 (br
 (decide
 (x02.toNat <
 ((x1.set x02.toNat
 (CVal.agg (CVal.int i64 x01 :: List.drop 1 y.cells))).set
 x02.toNat
 (CVal.agg
 (splice y_1.cells 1
 [CVal.int i64 (i64.wrap (x01 + 1))]))).length) &&
 true)
 (br (r.1.isFlat && true)
 (r.1.asStr.bind fun s =>
 ((x1.set x02.toNat
 (CVal.agg (CVal.int i64 x01 :: List.drop 1 y.cells))).set
 x02.toNat
 (CVal.agg
 (splice y_1.cells 1
 [CVal.int i64
 (i64.wrap (x01 + 1))])))[x02.toNat]?.bind
 fun y_2 =>
 br (y_2.isAgg && decide (3 ≤ y_2.cells.length))
 ((C f_l_markText
 [AVal.v
 (CVal.int i64
 (i64.wrap
 (i64.wrap (i64.wrap (x01 + 1) + 1) +
 1)))]
 []).bind
 fun r =>
 br (decide (0 ≤ x02) && true)
 (br
 (decide
 (x02.toNat <
 (((x1.set x02.toNat
 (CVal.agg
 (CVal.int i64 x01 ::
 List.drop 1 y.cells))).set
 x02.toNat
 (CVal.agg
 (splice y_1.cells 1
 [CVal.int i64
 (i64.wrap (x01 + 1))]))).set
 x02.toNat
 (CVal.agg (splice y_2.cells 2 [CVal.str s]))).length) &&
 true)
 (br (r.1.isFlat && true)
 (r.1.asStr.bind fun s_1 =>
 (((x1.set x02.toNat
 (CVal.agg
 (CVal.int i64 x01 ::
 List.drop 1 y.cells))).set
 x02.toNat
 (CVal.agg
 (splice y_1.cells 1
 [CVal.int i64
 (i64.wrap (x01 + 1))]))).set
 x02.toNat
 (CVal.agg
 (splice y_2.cells 2 [CVal.str s])))[x02.toNat]?.bind
 fun y_3 =>
 br (y_3.isAgg && decide (4 ≤ y_3.cells.length))
 (br (decide (0 ≤ x02) && true)
 (br
 (decide
 (x02.toNat <
 ((((x1.set x02.toNat
 (CVal.agg
 (CVal.int i64 x01 ::
 List.drop 1 y.cells))).set
 x02.toNat
 (CVal.agg
 (splice y_1.cells 1
 [CVal.int i64
 (i64.wrap
 (x01 + 1))]))).set
 x02.toNat
 (CVal.agg
 (splice y_2.cells 2 [CVal.str s]))).set
 x02.toNat
 (CVal.agg
 (splice y_3.cells 3 [CVal.str s_1]))).length) &&
 true)
 (((((x1.set x02.toNat
 (CVal.agg
 (CVal.int i64 x01 ::
 List.drop 1 y.cells))).set
 x02.toNat
 (CVal.agg
 (splice y_1.cells 1
 [CVal.int i64
 (i64.wrap (x01 + 1))]))).set
 x02.toNat
 (CVal.agg
 (splice y_2.cells 2 [CVal.str s]))).set
 x02.toNat
 (CVal.agg
 (splice y_3.cells 3
 [CVal.str s_1])))[x02.toNat]?.bind
 fun y_4 =>
 br (y_4.isAgg && decide (5 ≤ y_4.cells.length))
 (br (decide (0 ≤ x02) && true)
 (br
 (decide
 (x02.toNat <
 (((((x1.set x02.toNat
 (CVal.agg
 (CVal.int i64 x01 ::
 List.drop 1
 y.cells))).set
 x02.toNat
 (CVal.agg
 (splice y_1.cells 1
 [CVal.int i64
 (i64.wrap
 (x01 + 1))]))).set
 x02.toNat
 (CVal.agg
 (splice y_2.cells 2
 [CVal.str s]))).set
 x02.toNat
 (CVal.agg
 (splice y_3.cells 3
 [CVal.str s_1]))).set
 x02.toNat
 (CVal.agg
 (splice y_4.cells 4
 [CVal.int i64
 (i64.wrap
 (i64.wrap
 (i64.wrap
 (i64.wrap
 (x01 + 1) +
 1) +
 1) +
 1))]))).length) &&
 true)
 ((((((x1.set x02.toNat
 (CVal.agg
 (CVal.int i64 x01 ::
 List.drop 1
 y.cells))).set
 x02.toNat
 (CVal.agg
 (splice y_1.cells 1
 [CVal.int i64
 (i64.wrap
 (x01 + 1))]))).set
 x02.toNat
 (CVal.agg
 (splice y_2.cells 2
 [CVal.str s]))).set
 x02.toNat
 (CVal.agg
 (splice y_3.cells 3
 [CVal.str s_1]))).set
 x02.toNat
 (CVal.agg
 (splice y_4.cells 4
 [CVal.int i64
 (i64.wrap
 (i64.wrap
 (i64.wrap
 (i64.wrap
 (x01 + 1) +
 1) +
 1) +
 1))])))[x02.toNat]?.bind
 fun y_5 =>
 br (y_5.isAgg && decide (6 ≤ y_5.cells.length))
 (br (decide (0 ≤ x02) && true)
 (br
 (decide
 (x02.toNat <
 ((((((x1.set x02.toNat
 (CVal.agg
 (CVal.int
 i64
 x01 ::
 List.drop
 1
 y.cells))).set
 x02.toNat
 (CVal.agg
 (splice y_1.cells
 1
 [CVal.int i64
 (i64.wrap
 (x01 +
 (1 :
 Int)))]))).set
 x02.toNat
 (CVal.agg
 (splice y_2.cells 2
 [CVal.str s]))).set
 x02.toNat
 (CVal.agg
 (splice y_3.cells 3
 [CVal.str s_1]))).set
 x02.toNat
 (CVal.agg
 (splice y_4.cells 4
 [CVal.int i64
 (i64.wrap
 (i64.wrap
 (i64.wrap
 (i64.wrap
 (x01 +
 1) +
 1) +
 1) +
 1))]))).set
 x02.toNat
 (CVal.agg
 (splice y_5.cells 5
 [CVal.int i64
 (i64.wrap
 (i64.wrap
 (i64.wrap
 (i64.wrap
 (i64.wrap
 (x01 +
 1) +
 1) +
 1) +
 1) +
 1))]))).length) &&
 true)
 (((((((x1.set x02.toNat
 (CVal.agg
 (CVal.int i64
 x01 ::
 List.drop 1
 y.cells))).set
 x02.toNat
 (CVal.agg
 (splice y_1.cells
 1
 [CVal.int i64
 (i64.wrap
 (x01 +
 (1 :
 Int)))]))).set
 x02.toNat
 (CVal.agg
 (splice y_2.cells 2
 [CVal.str s]))).set
 x02.toNat
 (CVal.agg
 (splice y_3.cells 3
 [CVal.str s_1]))).set
 x02.toNat
 (CVal.agg
 (splice y_4.cells 4
 [CVal.int i64
 (i64.wrap
 (i64.wrap
 (i64.wrap
 (i64.wrap
 (x01 +
 1) +
 1) +
 1) +
 1))]))).set
 x02.toNat
 (CVal.agg
 (splice y_5.cells 5
 [CVal.int i64
 (i64.wrap
 (i64.wrap
 (i64.wrap
 (i64.wrap
 (i64.wrap
 (x01 +
 1) +
 1) +
 1) +
 1) +
 1))])))[x02.toNat]?.bind
 fun y_6 =>
 (y_6.cell 6).bind fun c =>
 c.asSl.bind fun xs =>
 ((((((x1.set x02.toNat
 (CVal.agg
 (CVal.int
 i64
 x01 ::
 List.drop
 1
 y.cells))).set
 x02.toNat
 (CVal.agg
 (splice y_1.cells
 1
 [CVal.int
 i64
 (i64.wrap
 (x01 +
 (1 :
 Int)))]))).set
 x02.toNat
 (CVal.agg
 (splice y_2.cells
 2
 [CVal.str s]))).set
 x02.toNat
 (CVal.agg
 (splice y_3.cells 3
 [CVal.str s_1]))).set
 x02.toNat
 (CVal.agg
 (splice y_4.cells 4
 [CVal.int i64
 (i64.wrap
 (i64.wrap
 (i64.wrap
 (i64.wrap
 (x01 +
 (1 :
 Int)) +
 1) +
 1) +
 1))]))).set
 x02.toNat
 (CVal.agg
 (splice y_5.cells 5
 [CVal.int i64
 (i64.wrap
 (i64.wrap
 (i64.wrap
 (i64.wrap
 (i64.wrap
 (x01 +
 (1 :
 Int)) +
 1) +
 1) +
 1) +
 (1 :
 Int)))])))[x02.toNat]?.bind
 fun y_7 =>
 (y_7.cell 6).bind fun c =>
 c.asSl.bind fun xs =>
 br (xs.all (CVal.fits true 3))
 ((C f_l_markTyS
 [AVal.lref 0 0,
 AVal.v
 (CVal.int i64
 (i64.wrap
 (i64.wrap
 (i64.wrap
 (i64.wrap
 (i64.wrap
 (i64.wrap
 (x01 +
 (1 :
 Int)) +
 (1 :
 Int)) +
 (1 :
 Int)) +
 1) +
 1) +
 1)))]
 [PB.arr
 (Md.mk true true 0)
 false 3 xs]).bind
 fun r =>
 r.2[0]?.bind fun y_8 =>
 br
 (decide (0 ≤ x02) &&
 true)
 (br
 (decide
 (x02.toNat <
 (((((((x1.set x02.toNat
 (CVal.agg
 (CVal.int
 i64
 x01 ::
 List.drop
 (1 :
 Nat)
 y.cells))).set
 x02.toNat
 (CVal.agg
 (splice
 y_1.cells
 (1 :
 Nat)
 [CVal.int
 i64
 (i64.wrap
 (x01 +
 (1 :
 Int)))]))).set
 x02.toNat
 (CVal.agg
 (splice
 y_2.cells
 (2 :
 Nat)
 [CVal.str
 s]))).set
 x02.toNat
 (CVal.agg
 (splice
 y_3.cells
 (3 :
 Nat)
 [CVal.str
 s_1]))).set
 x02.toNat
 (CVal.agg
 (splice
 y_4.cells
 (4 :
 Nat)
 [CVal.int
 i64
 (i64.wrap
 (i64.wrap
 (i64.wrap
 (i64.wrap
 (x01 +
 (1 :
 Int)) +
 (1 :
 Int)) +
 (1 :
 Int)) +
 (1 :
 Int)))]))).set
 x02.toNat
 (CVal.agg
 (splice
 y_5.cells
 5
 [CVal.int
 i64
 (i64.wrap
 (i64.wrap
 (i64.wrap
 (i64.wrap
 (i64.wrap
 (x01 +
 (1 :
 Int)) +
 (1 :
 Int)) +
 (1 :
 Int)) +
 (1 :
 Int)) +
 (1 :
 Int)))]))).set
 x02.toNat
 (y_7.putCell
 6
 (CVal.sl
 y_8))).length) &&
 true)
 ((((((((x1.set x02.toNat
 (CVal.agg
 (CVal.int
 i64
 x01 ::
 List.drop
 (1 :
 Nat)
 y.cells))).set
 x02.toNat
 (CVal.agg
 (splice
 y_1.cells
 (1 :
 Nat)
 [CVal.int
 i64
 (i64.wrap
 (x01 +
 (1 :
 Int)))]))).set
 x02.toNat
 (CVal.agg
 (splice
 y_2.cells
 (2 :
 Nat)
 [CVal.str
 s]))).set
 x02.toNat
 (CVal.agg
 (splice
 y_3.cells
 (3 :
 Nat)
 [CVal.str
 s_1]))).set
 x02.toNat
 (CVal.agg
 (splice
 y_4.cells
 4
 [CVal.int
 i64
 (i64.wrap
 (i64.wrap
 (i64.wrap
 (i64.wrap
 (x01 +
 (1 :
 Int)) +
 (1 :
 Int)) +
 (1 :
 Int)) +
 (1 :
 Int)))]))).set
 x02.toNat
 (CVal.agg
 (splice
 y_5.cells
 5
 [CVal.int
 i64
 (i64.wrap
 (i64.wrap
 (i64.wrap
 (i64.wrap
 (i64.wrap
 (x01 +
 (1 :
 Int)) +
 (1 :
 Int)) +
 (1 :
 Int)) +
 (1 :
 Int)) +
 (1 :
 Int)))]))).set
 x02.toNat
 (y_7.putCell 6
 (CVal.sl
 y_8)))[x02.toNat]?.bind
 fun y_9 =>
 (y_9.cell 7).bind
 fun c =>
 c.asSl.bind fun xs =>
 (((((((x1.set x02.toNat
 (CVal.agg
 (CVal.int
 i64
 x01 ::
 List.drop
 (1 :
 Nat)
 y.cells))).set
 x02.toNat
 (CVal.agg
 (splice
 y_1.cells
 (1 :
 Nat)
 [CVal.int
 i64
 (i64.wrap
 (x01 +
 (1 :
 Int)))]))).set
 x02.toNat
 (CVal.agg
 (splice
 y_2.cells
 (2 :
 Nat)
 [CVal.str
 s]))).set
 x02.toNat
 (CVal.agg
 (splice
 y_3.cells
 (3 :
 Nat)
 [CVal.str
 s_1]))).set
 x02.toNat
 (CVal.agg
 (splice
 y_4.cells
 (4 :
 Nat)
 [CVal.int
 i64
 (i64.wrap
 (i64.wrap
 (i64.wrap
 (i64.wrap
 (x01 +
 (1 :
 Int)) +
 (1 :
 Int)) +
 (1 :
 Int)) +
 (1 :
 Int)))]))).set
 x02.toNat
 (CVal.agg
 (splice
 y_5.cells
 (5 :
 Nat)
 [CVal.int
 i64
 (i64.wrap
 (i64.wrap
 (i64.wrap
 (i64.wrap
 (i64.wrap
 (x01 +
 (1 :
 Int)) +
 (1 :
 Int)) +
 (1 :
 Int)) +
 (1 :
 Int)) +
 (1 :
 Int)))]))).set
 x02.toNat
 (y_7.putCell
 6
 (CVal.sl
 y_8)))[x02.toNat]?.bind
 fun y_10 =>
 (y_10.cell
 7).bind
 fun c =>
 c.asSl.bind
 fun xs =>
 br
 (xs.all
 (CVal.fits
 true
 3))
 ((C f_l_markTyS
 [AVal.lref
 (0 :
 Nat)
 (0 :
 Nat),
 AVal.v
 r.1]
 [PB.arr
 (Md.mk
 true
 true
 (0 :
 Nat))
 false
 (3 :
 Nat)
 xs]).bind
 fun r =>
 r.2[(0 :
 Nat)]?.bind
 fun y_11 =>
 br
 (decide
 ((0 :
 Int) ≤
 x02) &&
 true)
 (br
 (decide
 (x02.toNat <
 ((((((((x1.set
 x02.toNat
 (CVal.agg
 (CVal.int
 i64
 x01 ::
 List.drop
 (1 :
 Nat)
 y.cells))).set
 x02.toNat
 (CVal.agg
 (splice
 y_1.cells
 (1 :
 Nat)
 [CVal.int
 i64
 (i64.wrap
 (x01 +
 (1 :
 Int)))]))).set
 x02.toNat
 (CVal.agg
 (splice
 y_2.cells
 (2 :
 Nat)
 [CVal.str
 s]))).set
 x02.toNat
 (CVal.agg
 (splice
 y_3.cells
 (3 :
 Nat)
 [CVal.str
 s_1]))).set
 x02.toNat
 (CVal.agg
 (splice
 y_4.cells
 (4 :
 Nat)
 [CVal.int
 i64
 (i64.wrap
 (i64.wrap
 (i64.wrap
 (i64.wrap
 (x01 +
 (1 :
 Int)) +
 (1 :
 Int)) +
 (1 :
 Int)) +
 (1 :
 Int)))]))).set
 x02.toNat
 (CVal.agg
 (splice
 y_5.cells
 (5 :
 Nat)
 [CVal.int
 i64
 (i64.wrap
 (i64.wrap
 (i64.wrap
 (i64.wrap
 (i64.wrap
 (x01 +
 (1 :
 Int)) +
 (1 :
 Int)) +
 (1 :
 Int)) +
 (1 :
 Int)) +
 (1 :
 Int)))]))).set
 x02.toNat
 (y_7.putCell
 (6 :
 Nat)
 (CVal.sl
 y_8))).set
 x02.toNat
 (y_10.putCell
 (7 :
 Nat)
 (CVal.sl
 y_11))).length) &&
 true)
 (((((((((x1.set
 x02.toNat
 (CVal.agg
 (CVal.int
 i64
 x01 ::
 List.drop
 (1 :
 Nat)
 y.cells))).set
 x02.toNat
 (CVal.agg
 (splice
 y_1.cells
 (1 :
 Nat)
 [CVal.int
 i64
 (i64.wrap
 (x01 +
 (1 :
 Int)))]))).set
 x02.toNat
 (CVal.agg
 (splice
 y_2.cells
 (2 :
 Nat)
 [CVal.str
 s]))).set
 x02.toNat
 (CVal.agg
 (splice
 y_3.cells
 (3 :
 Nat)
 [CVal.str
 s_1]))).set
 x02.toNat
 (CVal.agg
 (splice
 y_4.cells
 (4 :
 Nat)
 [CVal.int
 i64
 (i64.wrap
 (i64.wrap
 (i64.wrap
 (i64.wrap
 (x01 +
 (1 :
 Int)) +
 (1 :
 Int)) +
 (1 :
 Int)) +
 (1 :
 Int)))]))).set
 x02.toNat
 (CVal.agg
 (splice
 y_5.cells
 (5 :
 Nat)
 [CVal.int
 i64
 (i64.wrap
 (i64.wrap
 (i64.wrap
 (i64.wrap
 (i64.wrap
 (x01 +
 (1 :
 Int)) +
 (1 :
 Int)) +
 (1 :
 Int)) +
 (1 :
 Int)) +
 (1 :
 Int)))]))).set
 x02.toNat
 (y_7.putCell
 (6 :
 Nat)
 (CVal.sl
 y_8))).set
 x02.toNat
 (y_10.putCell
 (7 :
 Nat)
 (CVal.sl
 y_11)))[x02.toNat]?.bind
 fun
 y_12 =>
 (y_12.cell
 (8 :
 Nat)).bind
 fun
 c =>
 c.asSl.bind
 fun
 xs =>
 ((((((((x1.set
 x02.toNat
 (CVal.agg
 (CVal.int
 i64
 x01 ::
 List.drop
 (1 :
 Nat)
 y.cells))).set
 x02.toNat
 (CVal.agg
 (splice
 y_1.cells
 (1 :
 Nat)
 [CVal.int
 i64
 (i64.wrap
 (x01 +
 (1 :
 Int)))]))).set
 x02.toNat
 (CVal.agg
 (splice
 y_2.cells
 (2 :
 Nat)
 [CVal.str
 s]))).set
 x02.toNat
 (CVal.agg
 (splice
 y_3.cells
 (3 :
 Nat)
 [CVal.str
 s_1]))).set
 x02.toNat
 (CVal.agg
 (splice
 y_4.cells
 (4 :
 Nat)
 [CVal.int
 i64
 (i64.wrap
 (i64.wrap
 (i64.wrap
 (i64.wrap
 (x01 +
 (1 :
 Int)) +
 (1 :
 Int)) +
 (1 :
 Int)) +
 (1 :
 Int)))]))).set
 x02.toNat
 (CVal.agg
 (splice
 y_5.cells
 (5 :
 Nat)
 [CVal.int
 i64
 (i64.wrap
 (i64.wrap
 (i64.wrap
 (i64.wrap
 (i64.wrap
 (x01 +
 (1 :
 Int)) +
 (1 :
 Int)) +
 (1 :
 Int)) +
 (1 :
 Int)) +
 (1 :
 Int)))]))).set
 x02.toNat
 (y_7.putCell
 (6 :
 Nat)
 (CVal.sl
 y_8))).set
 x02.toNat
 (y_10.putCell
 (7 :
 Nat)
 (CVal.sl
 y_11)))[x02.toNat]?.bind
 fun
 y_13 =>
 (y_13.cell
 (8 :
 Nat)).bind
 fun
 c =>
 c.asSl.bind
 fun
 xs =>
 br
 (xs.all
 (CVal.fits
 true
 (9 :
 Nat)))
 ((C
 f_l_markTermS
 [AVal.lref
 (0 :
 Nat)
 (0 :
 Nat),
 AVal.v
 r.1]
 [PB.arr
 (Md.mk
 true
 true
 (0 :
 Nat))
 false
 (9 :
 Nat)
 xs]).bind
 fun
 r =>
 r.2[(0 :
 Nat)]?.bind
 fun
 y_14 =>
 (CVal.asInt
 i64
 r.1).bind
 fun
 n =>
 L
 f_l_markTermS
 (0 :
 Nat)
 lc_l_markTermS_0
 [PSh.arr
 (Md.mk
 true
 true
 (0 :
 Nat))
 false
 (9 :
 Nat)]
 k_l_markTermS_0
 (((),
 n,
 i64.wrap
 (x02 +
 (1 :
 Int)),
 ()),
 ((((((((x1.set
 x02.toNat
 (CVal.agg
 (CVal.int
 i64
 x01 ::
 List.drop
 (1 :
 Nat)
 y.cells))).set
 x02.toNat
 (CVal.agg
 (splice
 y_1.cells
 (1 :
 Nat)
 [CVal.int
 i64
 (i64.wrap
 (x01 +
 (1 :
 Int)))]))).set
 x02.toNat
 (CVal.agg
 (splice
 y_2.cells
 (2 :
 Nat)
 [CVal.str
 s]))).set
 x02.toNat
 (CVal.agg
 (splice
 y_3.cells
 (3 :
 Nat)
 [CVal.str
 s_1]))).set
 x02.toNat
 (CVal.agg
 (splice
 y_4.cells
 (4 :
 Nat)
 [CVal.int
 i64
 (i64.wrap
 (i64.wrap
 (i64.wrap
 (i64.wrap
 (x01 +
 (1 :
 Int)) +
 (1 :
 Int)) +
 (1 :
 Int)) +
 (1 :
 Int)))]))).set
 x02.toNat
 (CVal.agg
 (splice
 y_5.cells
 (5 :
 Nat)
 [CVal.int
 i64
 (i64.wrap
 (i64.wrap
 (i64.wrap
 (i64.wrap
 (i64.wrap
 (x01 +
 (1 :
 Int)) +
 (1 :
 Int)) +
 (1 :
 Int)) +
 (1 :
 Int)) +
 (1 :
 Int)))]))).set
 x02.toNat
 (y_7.putCell
 (6 :
 Nat)
 (CVal.sl
 y_8))).set
 x02.toNat
 (y_10.putCell
 (7 :
 Nat)
 (CVal.sl
 y_11))).set
 x02.toNat
 (y_13.putCell
 (8 :
 Nat)
 (CVal.sl
 y_14)),
 ()))
 none)
 none)
 none)
 none)
 none)
 none)
 none)
 none)
 none)
 none)
 none)
 none)
 none)
 none)
 none)
 none)
 none)
 none)
 none)
 none)
 none)
 none)
 none)
 none)
 none)
 none)
 none))
 none)
 none)
 (some (LO.out 0 (((), x01, x02, ()), x1, ())))
theorem gl_l_markTermS_0 (x01 : Int) (x02 : Int) (x1 : List CVal) (R : LO k_l_markTermS_0.T) (h : nl_l_markTermS_0 CC LL x01 x02 x1 = some R) : LL f_l_markTermS 0 lc_l_markTermS_0 [PSh.arr (Md.mk true true 0) false 9] k_l_markTermS_0 (((), x01, x02, ()), x1, ()) = some R := loopW (Eq.trans (b := nl_l_markTermS_0 CC LL x01 x02 x1) (by kernel_rfl) h)
noncomputable def nl_s_l2CopyTys_0 (C : CallT) (L : LoopT) (x00 : List CVal) (x02 : Int) (x1 : List CVal) : Option (LO k_s_l2CopyTys_0.T) :=
 br (decide (x02 < (↑x00.length : Int)))
 (br (decide (0 ≤ x02) && true)
 (x00[x02.toNat]?.bind fun y =>
 br (CVal.fits true 3 y)
 ((y.sub 0 3).bind fun y =>
 (C f_s_l1Copy [AVal.v y] []).bind fun r =>
 br (CVal.isAggN 3 r.1)
 ((r.1.cell 0).bind fun c =>
 (r.1.cell 1).bind fun c_1 =>
 (r.1.cell 2).bind fun c_2 =>
 c_2.asSl.bind fun xs =>
 (CVal.asInt i64 c).bind fun n =>
 (CVal.asInt i64 c_1).bind fun n_1 =>
 br (decide (x1.length + 1 ≤ 4294967296) && true && true)
 (L f_s_l2CopyTys 0 lc_s_l2CopyTys_0 [] k_s_l2CopyTys_0
 ((x00, (), i64.wrap (x02 + 1), ()),
 x1 ++ [CVal.agg [CVal.int i64 n, CVal.int i64 n_1, CVal.sl xs]],
 ()))
 none)
 none)
 none)
 none)
 (some (LO.out 0 ((x00, (), x02, ()), x1, ())))
theorem gl_s_l2CopyTys_0 (x00 : List CVal) (x02 : Int) (x1 : List CVal) (R : LO k_s_l2CopyTys_0.T) (h : nl_s_l2CopyTys_0 CC LL x00 x02 x1 = some R) : LL f_s_l2CopyTys 0 lc_s_l2CopyTys_0 [] k_s_l2CopyTys_0 ((x00, (), x02, ()), x1, ()) = some R := loopW (Eq.trans (b := nl_s_l2CopyTys_0 CC LL x00 x02 x1) (by kernel_rfl) h)
noncomputable def nl_slices_IndexFunc_p_node_0 (C : CallT) (L : LoopT) (x00 : List CVal) (x01 : CVal) (x02 : Int) (x03 : Int) : Option (LO k_slices_IndexFunc_p_node_0.T) :=
 br (decide (x03 < x02))
 (br (decide (0 ≤ x03) && true)
 (x00[x03.toNat]?.bind fun y =>
 br (CVal.fits false 1 y)
 ((y.cell 0).bind fun c =>
 (C apId [AVal.v x01, AVal.v c] []).bind fun r =>
 r.1.asBool.bind fun b =>
 br b (some (LO.ret (CVal.int i64 x03, [])))
 (L f_slices_IndexFunc_p_node 0 lc_slices_IndexFunc_p_node_0 [] k_slices_IndexFunc_p_node_0
 ((x00, x01, x02, i64.wrap (x03 + 1), ()), ())))
 none)
 none)
 (some (LO.out 0 ((x00, x01, x02, x03, ()), ())))
theorem gl_slices_IndexFunc_p_node_0 (x00 : List CVal) (x01 : CVal) (x02 : Int) (x03 : Int) (R : LO k_slices_IndexFunc_p_node_0.T) (h : nl_slices_IndexFunc_p_node_0 CC LL x00 x01 x02 x03 = some R) : LL f_slices_IndexFunc_p_node 0 lc_slices_IndexFunc_p_node_0 [] k_slices_IndexFunc_p_node_0 ((x00, x01, x02, x03, ()), ()) = some R := loopW (Eq.trans (b := nl_slices_IndexFunc_p_node_0 CC LL x00 x01 x02 x03) (by kernel_rfl) h)
noncomputable def nl_i_isName_0 (C : CallT) (L : LoopT) (x00 : List UInt8) (x01 : Int) (x02 : Int) : Option (LO k_i_isName_0.T) :=
 br (decide (x02 < x01))
 (br (decide (0 ≤ x02))
 (x00[x02.toNat]?.bind fun y =>
 (br (decide (97 ≤ (↑y.toNat : Int))) (some (decide ((↑y.toNat : Int) ≤ 122), ()))
 (some (false, ()))).bind
 fun y_1 =>
 (br (!y_1.1)
 (br (decide (x02 = 0)) (some (true, ()))
 (br (decide ((↑y.toNat : Int) < 48))
 (some (!decide ((↑y.toNat : Int) = 46), ()))
 (br (decide (57 < (↑y.toNat : Int)))
 (some (!decide ((↑y.toNat : Int) = 46), ())) (some (false, ())))))
 (some (false, ()))).bind
 fun y =>
 br y.1 (some (LO.ret (CVal.bool false, [])))
 (L f_i_isName 0 lc_i_isName_0 [] k_i_isName_0
 ((x00, x01, i64.wrap (x02 + 1), ()), ())))
 none)
 (some (LO.out 0 ((x00, x01, x02, ()), ())))
theorem gl_i_isName_0 (x00 : List UInt8) (x01 : Int) (x02 : Int) (R : LO k_i_isName_0.T) (h : nl_i_isName_0 CC LL x00 x01 x02 = some R) : LL f_i_isName 0 lc_i_isName_0 [] k_i_isName_0 ((x00, x01, x02, ()), ()) = some R := loopW (Eq.trans (b := nl_i_isName_0 CC LL x00 x01 x02) (by kernel_rfl) h)
end Go.Proofs.Ythnjnnnobipnfaa.Abs
