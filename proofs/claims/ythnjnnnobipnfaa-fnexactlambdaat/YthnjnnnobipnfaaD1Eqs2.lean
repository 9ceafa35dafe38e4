/- What the functions come to in the abstract machine. -/
import Derived.Test.YthnjnnnobipnfaaD1Ann
import Derived.KernelRfl
set_option linter.unusedVariables false
set_option maxRecDepth 100000
namespace Go.Proofs.Ythnjnnnobipnfaa.Abs
open Go Go.Proofs Go.IntKind
noncomputable def nf_l_szTerm (C : CallT) (L : LoopT) (a0 : Int) (a1 : Int) (a2 : List UInt8) (a3 : List UInt8) (a40 : Int) (a41 : Int) (a42 : List CVal) (a5 : List CVal) (a6 : List CVal) (b : Int) : Option Ret :=
 br (decide (i64.wrap (b - (↑a2.length : Int)) < 0)) (some (CVal.int i64 (-1 : Int), []))
 (br (decide (i64.wrap (i64.wrap (b - (↑a2.length : Int)) - (↑a3.length : Int)) < 0))
 (some (CVal.int i64 (-1 : Int), []))
 ((C f_l_szTy
 [AVal.v (CVal.agg [CVal.int i64 a40, CVal.int i64 a41, CVal.sl a42]),
 AVal.v
 (CVal.int i64
 (i64.wrap (i64.wrap (b - (↑a2.length : Int)) - (↑a3.length : Int))))]
 []).bind
 fun r =>
 (CVal.asInt i64 r.1).bind fun n =>
 br (decide (n < 0)) (some (CVal.int i64 (-1 : Int), []))
 ((C f_l_szTyS [AVal.v (CVal.sl a5), AVal.v r.1] []).bind fun r =>
 (CVal.asInt i64 r.1).bind fun n =>
 br (decide (n < 0)) (some (CVal.int i64 (-1 : Int), []))
 ((C f_l_szTermS [AVal.v (CVal.sl a6), AVal.v r.1] []).bind fun r =>
 (CVal.asInt i64 r.1).bind fun n =>
 br (decide (n < 0)) (some (CVal.int i64 (-1 : Int), [])) (some (r.1, []))))))
theorem go_l_szTerm (a0 : Int) (a1 : Int) (a2 : List UInt8) (a3 : List UInt8) (a40 : Int) (a41 : Int) (a42 : List CVal) (a5 : List CVal) (a6 : List CVal) (b : Int) (R : Ret) (h : nf_l_szTerm CC LL a0 a1 a2 a3 a40 a41 a42 a5 a6 b = some R) : CC f_l_szTerm [AVal.v
 (CVal.agg
 [CVal.int i64 a0, CVal.int i64 a1, CVal.str a2, CVal.str a3, CVal.int i64 a40,
 CVal.int i64 a41, CVal.sl a42, CVal.sl a5, CVal.sl a6]),
 AVal.v (CVal.int i64 b)] [] = some R := fnW (by decide) rfl (Eq.trans (b := nf_l_szTerm CC LL a0 a1 a2 a3 a40 a41 a42 a5 a6 b) (by kernel_rfl) h)
noncomputable def nf_i_LambdaAt (C : CallT) (L : LoopT) (a0 : Int) (a1 : Int) (a2 : List UInt8) (a3 : List UInt8) (a40 : Int) (a41 : Int) (a42 : List CVal) (a5 : List CVal) (a6 : List CVal) (b : Int) : Option Ret :=
 (C f_i_lambdas
 [AVal.v
 (CVal.agg
 [CVal.int i64 a0, CVal.int i64 a1, CVal.str a2, CVal.str a3, CVal.int i64 a40,
 CVal.int i64 a41, CVal.sl a42, CVal.sl a5, CVal.sl a6])]
 []).bind
 fun r =>
 r.1.asSl.bind fun xs =>
 (C f_i_in
 [AVal.v (CVal.int i64 b), AVal.v (CVal.int i64 0),
 AVal.v (CVal.int i64 (i64.wrap ((↑xs.length : Int) - 1)))]
 []).bind
 fun r_1 =>
 r_1.1.asBool.bind fun b_1 =>
 br (!b_1)
 (some
 (CVal.tup
 [CVal.agg
 [CVal.int i64 0, CVal.int i64 0, CVal.str [], CVal.str [],
 CVal.int i64 0, CVal.int i64 0, CVal.sl [], CVal.sl [],
 CVal.sl []],
 CVal.bool false],
 []))
 (br (decide (0 ≤ b) && true)
 (r.1.asSl.bind fun xs =>
 xs[b.toNat]?.bind fun y =>
 br (CVal.fits false 1 y)
 ((y.cell 0).bind fun c =>
 c.asFp.bind fun y =>
 (y.1.sub (y.2 + 0) 9).bind fun y =>
 (C f_i_cloneTerm [AVal.v y] []).bind fun r =>
 br (CVal.isAggN 9 r.1)
 ((r.1.cell 0).bind fun c =>
 (r.1.cell 1).bind fun c_1 =>
 (r.1.cell 2).bind fun c_2 =>
 (r.1.cell 3).bind fun c_3 =>
 (r.1.cell 4).bind fun c_4 =>
 (r.1.cell 5).bind fun c_5 =>
 (r.1.cell 6).bind fun c_6 =>
 (r.1.cell 7).bind fun c_7 =>
 (r.1.cell 8).bind fun c_8 =>
 c_6.asSl.bind fun xs =>
 c_7.asSl.bind fun xs_1 =>
 c_8.asSl.bind fun xs_2 =>
 (CVal.asInt i64 c).bind fun n =>
 (CVal.asInt i64 c_1).bind fun n_1 =>
 c_2.asStr.bind fun s =>
 c_3.asStr.bind fun s_1 =>
 (CVal.asInt i64 c_4).bind fun n_2 =>
 (CVal.asInt i64 c_5).bind fun n_3 =>
 some
 (CVal.tup
 [CVal.agg
 [CVal.int i64 n,
 CVal.int i64 n_1, CVal.str s,
 CVal.str s_1, CVal.int i64 n_2,
 CVal.int i64 n_3, CVal.sl xs,
 CVal.sl xs_1, CVal.sl xs_2],
 CVal.bool true],
 []))
 none)
 none)
 none)
theorem go_i_LambdaAt (a0 : Int) (a1 : Int) (a2 : List UInt8) (a3 : List UInt8) (a40 : Int) (a41 : Int) (a42 : List CVal) (a5 : List CVal) (a6 : List CVal) (b : Int) (R : Ret) (h : nf_i_LambdaAt CC LL a0 a1 a2 a3 a40 a41 a42 a5 a6 b = some R) : CC f_i_LambdaAt [AVal.v
 (CVal.agg
 [CVal.int i64 a0, CVal.int i64 a1, CVal.str a2, CVal.str a3, CVal.int i64 a40,
 CVal.int i64 a41, CVal.sl a42, CVal.sl a5, CVal.sl a6]),
 AVal.v (CVal.int i64 b)] [] = some R := fnW (by decide) rfl (Eq.trans (b := nf_i_LambdaAt CC LL a0 a1 a2 a3 a40 a41 a42 a5 a6 b) (by kernel_rfl) h)
noncomputable def nf_l_toTy (C : CallT) (L : LoopT) (a0 : Int) (a1 : Int) (a2 : List CVal) : Option Ret :=
 (C f_l_toTyS [AVal.v (CVal.sl a2)] []).bind fun r =>
 br r.1.isFlat
 (r.1.asSl.bind fun xs => some (CVal.agg [CVal.int i64 a0, CVal.int i64 a1, CVal.sl xs], [])) none
theorem go_l_toTy (a0 : Int) (a1 : Int) (a2 : List CVal) (R : Ret) (h : nf_l_toTy CC LL a0 a1 a2 = some R) : CC f_l_toTy [AVal.v (CVal.agg [CVal.int i64 a0, CVal.int i64 a1, CVal.sl a2])] [] = some R := fnW (by decide) rfl (Eq.trans (b := nf_l_toTy CC LL a0 a1 a2) (by kernel_rfl) h)
noncomputable def nf_l_eqTyS (C : CallT) (L : LoopT) (a : List CVal) (b : List CVal) : Option Ret :=
 br (!decide ((↑a.length : Int) = (↑b.length : Int))) (some (CVal.bool false, []))
 ((L f_l_eqTyS 0 lc_l_eqTyS_0 [] k_l_eqTyS_0 ((a, b, 0, ()), ())).bind fun r =>
 loK r (fun r => some r) fun j p => br (j == 0) (some (CVal.bool true, [])) none)
theorem go_l_eqTyS (a : List CVal) (b : List CVal) (R : Ret) (h : nf_l_eqTyS CC LL a b = some R) : CC f_l_eqTyS [AVal.v (CVal.sl a), AVal.v (CVal.sl b)] [] = some R := fnW (by decide) rfl (Eq.trans (b := nf_l_eqTyS CC LL a b) (by kernel_rfl) h)
noncomputable def nf_l_markTy (C : CallT) (L : LoopT) (a0 : Int) (a1 : Int) (a2 : List CVal) (b : Int) : Option Ret :=
 (C f_l_markTyS [AVal.lref 0 0, AVal.v (CVal.int i64 b)]
 [PB.arr (Md.mk true true 0) false 3 a2]).bind
 fun r => r.2[0]?.bind fun y => some (r.1, [y])
theorem go_l_markTy (a0 : Int) (a1 : Int) (a2 : List CVal) (b : Int) (R : Ret) (h : nf_l_markTy CC LL a0 a1 a2 b = some R) : CC f_l_markTy [AVal.agg [AVal.v (CVal.int i64 a0), AVal.v (CVal.int i64 a1), AVal.lref 0 0],
 AVal.v (CVal.int i64 b)] [PB.arr (Md.mk true true 0) false 3 a2] = some R := fnW (by decide) rfl (Eq.trans (b := nf_l_markTy CC LL a0 a1 a2 b) (by kernel_rfl) h)
noncomputable def nf_s_TermOk (C : CallT) (L : LoopT) (a0 : Int) (a1 : Int) (a2 : List UInt8) (a3 : List UInt8) (a40 : Int) (a41 : Int) (a42 : List CVal) (a5 : List CVal) (a6 : List CVal) : Option Ret :=
 (C f_s_l2Look
 [AVal.v
 (CVal.agg
 [CVal.int i64 a0, CVal.int i64 a1, CVal.str a2, CVal.str a3, CVal.int i64 a40,
 CVal.int i64 a41, CVal.sl a42, CVal.sl a5, CVal.sl a6]),
 AVal.v (CVal.int i64 24), AVal.lptr 0 0]
 [PB.box [AVal.v (CVal.int i64 0)]]).bind
 fun r => r.2[0]?.bind fun y => y[0]?.bind fun y => some (r.1, [])
theorem go_s_TermOk (a0 : Int) (a1 : Int) (a2 : List UInt8) (a3 : List UInt8) (a40 : Int) (a41 : Int) (a42 : List CVal) (a5 : List CVal) (a6 : List CVal) (R : Ret) (h : nf_s_TermOk CC LL a0 a1 a2 a3 a40 a41 a42 a5 a6 = some R) : CC f_s_TermOk [AVal.v
 (CVal.agg
 [CVal.int i64 a0, CVal.int i64 a1, CVal.str a2, CVal.str a3, CVal.int i64 a40,
 CVal.int i64 a41, CVal.sl a42, CVal.sl a5, CVal.sl a6])] [] = some R := fnW (by decide) rfl (Eq.trans (b := nf_s_TermOk CC LL a0 a1 a2 a3 a40 a41 a42 a5 a6) (by kernel_rfl) h)
noncomputable def nf_s_l2CopyTys (C : CallT) (L : LoopT) (a : List CVal) : Option Ret :=
 (L f_s_l2CopyTys 0 lc_s_l2CopyTys_0 [] k_s_l2CopyTys_0
 ((a, (), 0, ()), [], ())).bind
 fun r => loK r (fun r => some r) fun j p => br (j == 0) (some (CVal.sl p.snd.1, [])) none
theorem go_s_l2CopyTys (a : List CVal) (R : Ret) (h : nf_s_l2CopyTys CC LL a = some R) : CC f_s_l2CopyTys [AVal.v (CVal.sl a)] [] = some R := fnW (by decide) rfl (Eq.trans (b := nf_s_l2CopyTys CC LL a) (by kernel_rfl) h)
noncomputable def nf_i_nodesIn (C : CallT) (L : LoopT) (a : CVal) (b : List CVal) : Option Ret :=
 br (a.isFlat && true)
 (br a.isPt
 (br ([a].all (CVal.fitsF false [CK.any]))
 (br (decide (b.length + 1 ≤ 4294967296) && true && true)
 (a.asFp.bind fun y =>
 (y.1.cell (y.2 + 10)).bind fun c =>
 c.asSl.bind fun xs =>
 c.asSl.bind fun xs_1 =>
 (L f_i_nodesIn 0 lc_i_nodesIn_0 [PSh.arr (Md.mk true false 0) false 1]
 k_i_nodesIn_0
 (((), xs_1, (↑xs.length : Int), 0, ()), b ++ [a], ())).bind
 fun r => loK r (fun r => some r) fun j p => br (j == 0) (some (CVal.nilp, [p.snd.1])) none)
 none)
 none)
 none)
 none
theorem go_i_nodesIn (a : CVal) (b : List CVal) (R : Ret) (h : nf_i_nodesIn CC LL a b = some R) : CC f_i_nodesIn [AVal.v a, AVal.lref 0 0] [PB.arr (Md.mk true false 0) false 1 b] = some R := fnW (by decide) rfl (Eq.trans (b := nf_i_nodesIn CC LL a b) (by kernel_rfl) h)
noncomputable def nf_s_l2Name (C : CallT) (L : LoopT) (a : List UInt8) (b : Bool) : Option Ret :=
 ((C f_s_l1In
 [AVal.v (CVal.int i64 (↑a.length : Int)), AVal.v (CVal.int i64 1),
 AVal.v (CVal.int i64 8)]
 []).bind
 fun r =>
 r.1.asBool.bind fun b =>
 br (!b) (some (true, ()))
 (a[0]?.bind fun y =>
 (C f_s_l1In
 [AVal.v (CVal.int i64 (i64.wrap (↑y.toNat : Int))),
 AVal.v (CVal.int i64 97), AVal.v (CVal.int i64 122)]
 []).bind
 fun r => r.1.asBool.bind fun b => some (!b, ()))).bind
 fun y =>
 br y.1 (some (CVal.bool false, []))
 ((L f_s_l2Name 0 lc_s_l2Name_0 [] k_s_l2Name_0 ((a, b, 0, ()), ())).bind fun r =>
 loK r (fun r => some r) fun j p => br (j == 0) (some (CVal.bool true, [])) none)
theorem go_s_l2Name (a : List UInt8) (b : Bool) (R : Ret) (h : nf_s_l2Name CC LL a b = some R) : CC f_s_l2Name [AVal.v (CVal.str a), AVal.v (CVal.bool b)] [] = some R := fnW (by decide) rfl (Eq.trans (b := nf_s_l2Name CC LL a b) (by kernel_rfl) h)
noncomputable def nf_i_numberOk (C : CallT) (L : LoopT) (a : Int) (b : Int) : Option Ret :=
 br (decide (a = 1))
 ((C f_i_in
 [AVal.v (CVal.int i64 b), AVal.v (CVal.int i64 (-1000000 : Int)),
 AVal.v (CVal.int i64 1000000)]
 []).bind
 fun r => some (r.1, []))
 (br (decide (a = 2))
 ((C f_i_in
 [AVal.v (CVal.int i64 b), AVal.v (CVal.int i64 0),
 AVal.v (CVal.int i64 1)]
 []).bind
 fun r => some (r.1, []))
 (br (decide (a = 6))
 ((C f_i_in
 [AVal.v (CVal.int i64 b), AVal.v (CVal.int i64 0),
 AVal.v (CVal.int i64 2)]
 []).bind
 fun r => some (r.1, []))
 (br (decide (a = 7))
 ((C f_i_in
 [AVal.v (CVal.int i64 b), AVal.v (CVal.int i64 0),
 AVal.v (CVal.int i64 2)]
 []).bind
 fun r => some (r.1, []))
 (br (decide (a = 15))
 ((C f_i_in
 [AVal.v (CVal.int i64 b), AVal.v (CVal.int i64 1),
 AVal.v (CVal.int i64 5)]
 []).bind
 fun r => some (r.1, []))
 (some (CVal.bool (decide (b = 0)), []))))))
theorem go_i_numberOk (a : Int) (b : Int) (R : Ret) (h : nf_i_numberOk CC LL a b = some R) : CC f_i_numberOk [AVal.v (CVal.int i64 a), AVal.v (CVal.int i64 b)] [] = some R := fnW (by decide) rfl (Eq.trans (b := nf_i_numberOk CC LL a b) (by kernel_rfl) h)
noncomputable def nf_i_headOk_1 (C : CallT) (L : LoopT) (a0 : Int) (a1 : Int) (a2 : List CVal) : Option Ret :=
 (C f_i_TyOk [AVal.v (CVal.agg [CVal.int i64 a0, CVal.int i64 a1, CVal.sl a2])] []).bind fun r =>
 r.1.asBool.bind fun b => some (CVal.bool !b, [])
theorem go_i_headOk_1 (a0 : Int) (a1 : Int) (a2 : List CVal) (R : Ret) (h : nf_i_headOk_1 CC LL a0 a1 a2 = some R) : CC f_i_headOk_1 [AVal.v (CVal.agg [CVal.int i64 a0, CVal.int i64 a1, CVal.sl a2])] [] = some R := fnW (by decide) rfl (Eq.trans (b := nf_i_headOk_1 CC LL a0 a1 a2) (by kernel_rfl) h)
noncomputable def nf_slices_IndexFunc_Ty (C : CallT) (L : LoopT) (a : List CVal) (b : CVal) : Option Ret :=
 (L f_slices_IndexFunc_Ty 0 lc_slices_IndexFunc_Ty_0 [] k_slices_IndexFunc_Ty_0
 ((a, b, (↑a.length : Int), 0, ()), ())).bind
 fun r => loK r (fun r => some r) fun j p => br (j == 0) (some (CVal.int i64 (-1 : Int), [])) none
theorem go_slices_IndexFunc_Ty (a : List CVal) (b : CVal) (R : Ret) (h : nf_slices_IndexFunc_Ty CC LL a b = some R) : CC f_slices_IndexFunc_Ty [AVal.v (CVal.sl a), AVal.v b] [] = some R := fnW (by decide) rfl (Eq.trans (b := nf_slices_IndexFunc_Ty CC LL a b) (by kernel_rfl) h)
noncomputable def nl_s_l6Lambdas_0 (C : CallT) (L : LoopT) (x02 : Int) (x1 : List CVal) (x2 : List CVal) : Option (LO k_s_l6Lambdas_0.T) :=
 br (decide (x02 < (↑x2.length : Int)))
 (br (decide (0 ≤ x02) && true)
 (br (decide (x02.toNat < x2.length) && true)
 (x2[x02.toNat]?.bind fun y =>
 (y.cell 0).bind fun c =>
 (CVal.asInt i64 c).bind fun n =>
 br (decide (n = 4))
 (br (decide (0 ≤ x02) && true)
 (br (decide (x02.toNat < x2.length) && true)
 (x2[x02.toNat]?.bind fun y =>
 (y.sub 0 9).bind fun y =>
 br ([y].all (CVal.fits true 9))
 (br ([y].all (CVal.fits true 9))
 (br (decide (x1.length + 1 ≤ 4294967296) && true && true)
 (L f_s_l6Lambdas 0 lc_s_l6Lambdas_0 [] k_s_l6Lambdas_0
 (((), (), i64.wrap (x02 + 1), ()), x1 ++ [y], x2,
 ()))
 none)
 none)
 none)
 none)
 none)
 (L f_s_l6Lambdas 0 lc_s_l6Lambdas_0 [] k_s_l6Lambdas_0
 (((), (), i64.wrap (x02 + 1), ()), x1, x2, ())))
 none)
 none)
 (some (LO.out 0 (((), (), x02, ()), x1, x2, ())))
theorem gl_s_l6Lambdas_0 (x02 : Int) (x1 : List CVal) (x2 : List CVal) (R : LO k_s_l6Lambdas_0.T) (h : nl_s_l6Lambdas_0 CC LL x02 x1 x2 = some R) : LL f_s_l6Lambdas 0 lc_s_l6Lambdas_0 [] k_s_l6Lambdas_0 (((), (), x02, ()), x1, x2, ()) = some R := loopW (Eq.trans (b := nl_s_l6Lambdas_0 CC LL x02 x1 x2) (by kernel_rfl) h)
noncomputable def nl_l_markTyS_0 (C : CallT) (L : LoopT) (x01 : Int) (x02 : Int) (x1 : List CVal) : Option (LO k_l_markTyS_0.T) :=
 br (decide (x02 < (↑x1.length : Int)))
 (br (decide (0 ≤ x02) && true)
 (br (decide (x02.toNat < x1.length) && true)
 (x1[x02.toNat]?.bind fun y =>
 br (CVal.fits false 1 y)
 (br (decide (0 ≤ x02) && true)
 (br (decide (x02.toNat < (x1.set x02.toNat (CVal.int i64 x01)).length) && true)
 ((x1.set x02.toNat (CVal.int i64 x01))[x02.toNat]?.bind fun y =>
 br (y.isAgg && decide (2 ≤ y.cells.length))
 (br (decide (0 ≤ x02) && true)
 (br
 (decide
 (x02.toNat <
 ((x1.set x02.toNat (CVal.int i64 x01)).set x02.toNat
 (CVal.agg
 (splice y.cells 1
 [CVal.int i64 (i64.wrap (x01 + 1))]))).length) &&
 true)
 (((x1.set x02.toNat (CVal.int i64 x01)).set x02.toNat
 (CVal.agg
 (splice y.cells 1
 [CVal.int i64 (i64.wrap (x01 + 1))])))[x02.toNat]?.bind
 fun y_1 =>
 (y_1.cell 2).bind fun c =>
 c.asSl.bind fun xs =>
 ((x1.set x02.toNat (CVal.int i64 x01)).set x02.toNat
 (CVal.agg
 (splice y.cells 1
 [CVal.int i64 (i64.wrap (x01 + 1))])))[x02.toNat]?.bind
 fun y_2 =>
 (y_2.cell 2).bind fun c =>
 c.asSl.bind fun xs =>
 br (xs.all (CVal.fits true 3))
 ((C f_l_markTyS
 [AVal.lref 0 0,
 AVal.v
 (CVal.int i64
 (i64.wrap (i64.wrap (x01 + 1) + 1)))]
 [PB.arr (Md.mk true true 0) false 3 xs]).bind
 fun r =>
 r.2[0]?.bind fun y_3 =>
 (CVal.asInt i64 r.1).bind fun n =>
 L f_l_markTyS 0 lc_l_markTyS_0
 [PSh.arr (Md.mk true true 0) false 3] k_l_markTyS_0
 (((), n, i64.wrap (x02 + 1), ()),
 ((x1.set x02.toNat (CVal.int i64 x01)).set x02.toNat
 (CVal.agg
 (splice y.cells 1
 [CVal.int i64
 (i64.wrap (x01 + 1))]))).set
 x02.toNat (y_2.putCell 2 (CVal.sl y_3)),
 ()))
 none)
 none)
 none)
 none)
 none)
 none)
 (br (y.isAgg && decide (1 ≤ y.cells.length))
 (br (decide (0 ≤ x02) && true)
 (br
 (decide
 (x02.toNat <
 (x1.set x02.toNat (CVal.agg (CVal.int i64 x01 :: List.drop 1 y.cells))).length) &&
 true)
 ((x1.set x02.toNat
 (CVal.agg (CVal.int i64 x01 :: List.drop 1 y.cells)))[x02.toNat]?.bind
 fun y_1 =>
 br (y_1.isAgg && decide (2 ≤ y_1.cells.length))
 (br (decide (0 ≤ x02) && true)
 (br
 (decide
 (x02.toNat <
 ((x1.set x02.toNat
 (CVal.agg (CVal.int i64 x01 :: List.drop 1 y.cells))).set
 x02.toNat
 (CVal.agg
 (splice y_1.cells 1
 [CVal.int i64 (i64.wrap (x01 + 1))]))).length) &&
 true)
 (((x1.set x02.toNat (CVal.agg (CVal.int i64 x01 :: List.drop 1 y.cells))).set
 x02.toNat
 (CVal.agg
 (splice y_1.cells 1
 [CVal.int i64 (i64.wrap (x01 + 1))])))[x02.toNat]?.bind
 fun y_2 =>
 (y_2.cell 2).bind fun c =>
 c.asSl.bind fun xs =>
 ((x1.set x02.toNat
 (CVal.agg (CVal.int i64 x01 :: List.drop 1 y.cells))).set
 x02.toNat
 (CVal.agg
 (splice y_1.cells 1
 [CVal.int i64
 (i64.wrap (x01 + 1))])))[x02.toNat]?.bind
 fun y_3 =>
 (y_3.cell 2).bind fun c =>
 c.asSl.bind fun xs =>
 br (xs.all (CVal.fits true 3))
 ((C f_l_markTyS
 [AVal.lref 0 0,
 AVal.v
 (CVal.int i64
 (i64.wrap (i64.wrap (x01 + 1) + 1)))]
 [PB.arr (Md.mk true true 0) false 3 xs]).bind
 fun r =>
 r.2[0]?.bind fun y_4 =>
 (CVal.asInt i64 r.1).bind fun n =>
 L f_l_markTyS 0 lc_l_markTyS_0
 [PSh.arr (Md.mk true true 0) false 3] k_l_markTyS_0
 (((), n, i64.wrap (x02 + 1), ()),
 ((x1.set x02.toNat
 (CVal.agg
 (CVal.int i64 x01 ::
 List.drop 1 y.cells))).set
 x02.toNat
 (CVal.agg
 (splice y_1.cells 1
 [CVal.int i64
 (i64.wrap (x01 + 1))]))).set
 x02.toNat (y_3.putCell 2 (CVal.sl y_4)),
 ()))
 none)
 none)
 none)
 none)
 none)
 none)
 none))
 none)
 none)
 (some (LO.out 0 (((), x01, x02, ()), x1, ())))
theorem gl_l_markTyS_0 (x01 : Int) (x02 : Int) (x1 : List CVal) (R : LO k_l_markTyS_0.T) (h : nl_l_markTyS_0 CC LL x01 x02 x1 = some R) : LL f_l_markTyS 0 lc_l_markTyS_0 [PSh.arr (Md.mk true true 0) false 3] k_l_markTyS_0 (((), x01, x02, ()), x1, ()) = some R := loopW (Eq.trans (b := nl_l_markTyS_0 CC LL x01 x02 x1) (by kernel_rfl) h)
noncomputable def nl_s_l1Copy_0 (C : CallT) (L : LoopT) (x03 : Int) (x10 : Int) (x11 : Int) (x12 : List CVal) (x20 : Int) (x21 : Int) (x3 : List CVal) (x40 : Int) (x41 : Int) (x5 : List CVal) : Option (LO k_s_l1Copy_0.T) :=
 br (decide (x03 < (↑x12.length : Int)))
 (br (decide (0 ≤ x03) && true)
 (x12[x03.toNat]?.bind fun y =>
 br (CVal.fits true 3 y)
 ((y.sub 0 3).bind fun y =>
 (C f_s_l1Copy [AVal.v y] []).bind fun r =>
 br (CVal.isAggN 3 r.1)
 ((r.1.cell 0).bind fun c =>
 (r.1.cell 1).bind fun c_1 =>
 (r.1.cell 2).bind fun c_2 =>
 c_2.asSl.bind fun xs =>
 (CVal.asInt i64 c).bind fun n =>
 (CVal.asInt i64 c_1).bind fun n_1 =>
 br (decide (x5.length + 1 ≤ 4294967296) && true && true)
 (L f_s_l1Copy 0 lc_s_l1Copy_0 [] k_s_l1Copy_0
 (((), (), (), i64.wrap (x03 + 1), ()),
 (x10, x11, x12, ()), (x20, x21, (), ()), x3,
 (x40, x41, (), ()),
 x5 ++ [CVal.agg [CVal.int i64 n, CVal.int i64 n_1, CVal.sl xs]],
 ()))
 none)
 none)
 none)
 none)
 (some
 (LO.out 0
 (((), (), (), x03, ()), (x10, x11, x12, ()),
 (x20, x21, (), ()), x3, (x40, x41, (), ()), x5, ())))
theorem gl_s_l1Copy_0 (x03 : Int) (x10 : Int) (x11 : Int) (x12 : List CVal) (x20 : Int) (x21 : Int) (x3 : List CVal) (x40 : Int) (x41 : Int) (x5 : List CVal) (R : LO k_s_l1Copy_0.T) (h : nl_s_l1Copy_0 CC LL x03 x10 x11 x12 x20 x21 x3 x40 x41 x5 = some R) : LL f_s_l1Copy 0 lc_s_l1Copy_0 [] k_s_l1Copy_0 (((), (), (), x03, ()), (x10, x11, x12, ()), (x20, x21, (), ()), x3, (x40, x41, (), ()), x5, ()) = some R := loopW (Eq.trans (b := nl_s_l1Copy_0 CC LL x03 x10 x11 x12 x20 x21 x3 x40 x41 x5) (by kernel_rfl) h)
noncomputable def nl_i_nodesIn_0 (C : CallT) (L : LoopT) (x01 : List CVal) (x02 : Int) (x03 : Int) (x1 : List CVal) : Option (LO k_i_nodesIn_0.T) :=
 br (decide (x03 < x02))
 (br (decide (0 ≤ x03) && true)
 (x01[x03.toNat]?.bind fun y =>
 br (CVal.fits false 1 y)
 ((y.cell 0).bind fun c =>
 (C f_i_nodesIn [AVal.v c, AVal.lref 0 0]
 [PB.arr (Md.mk true false 0) false 1 x1]).bind
 fun r =>
 r.2[0]?.bind fun y =>
 L f_i_nodesIn 0 lc_i_nodesIn_0 [PSh.arr (Md.mk true false 0) false 1]
 k_i_nodesIn_0 (((), x01, x02, i64.wrap (x03 + 1), ()), y, ()))
 none)
 none)
 (some (LO.out 0 (((), x01, x02, x03, ()), x1, ())))
theorem gl_i_nodesIn_0 (x01 : List CVal) (x02 : Int) (x03 : Int) (x1 : List CVal) (R : LO k_i_nodesIn_0.T) (h : nl_i_nodesIn_0 CC LL x01 x02 x03 x1 = some R) : LL f_i_nodesIn 0 lc_i_nodesIn_0 [PSh.arr (Md.mk true false 0) false 1] k_i_nodesIn_0 (((), x01, x02, x03, ()), x1, ()) = some R := loopW (Eq.trans (b := nl_i_nodesIn_0 CC LL x01 x02 x03 x1) (by kernel_rfl) h)
noncomputable def nl_s_l1Look_0 (C : CallT) (L : LoopT) (x00 : Int) (x03 : Int) (x10 : Int) (x20 : Int) (x21 : Int) (x22 : List CVal) : Option (LO k_s_l1Look_0.T) :=
 br (decide (x03 < (↑x22.length : Int)))
 (br (decide (0 ≤ x03) && true)
 (x22[x03.toNat]?.bind fun y =>
 br (CVal.fits true 3 y)
 ((y.sub 0 3).bind fun y =>
 (C f_s_l1Look
 [AVal.v y, AVal.v (CVal.int i64 (i64.wrap (x00 - 1))),
 AVal.lptr 0 0]
 [PB.box [AVal.v (CVal.int i64 x10)]]).bind
 fun r =>
 r.2[0]?.bind fun y =>
 y[0]?.bind fun y =>
 r.1.asBool.bind fun b =>
 br (!b) (some (LO.ret (CVal.bool false, [[y]])))
 ((CVal.asInt i64 y).bind fun n =>
 L f_s_l1Look 0 lc_s_l1Look_0 [PSh.box [none]] k_s_l1Look_0
 ((x00, (), (), i64.wrap (x03 + 1), ()), (n, ()),
 (x20, x21, x22, ()), ())))
 none)
 none)
 (some
 (LO.out 0
 ((x00, (), (), x03, ()), (x10, ()), (x20, x21, x22, ()), ())))
theorem gl_s_l1Look_0 (x00 : Int) (x03 : Int) (x10 : Int) (x20 : Int) (x21 : Int) (x22 : List CVal) (R : LO k_s_l1Look_0.T) (h : nl_s_l1Look_0 CC LL x00 x03 x10 x20 x21 x22 = some R) : LL f_s_l1Look 0 lc_s_l1Look_0 [PSh.box [none]] k_s_l1Look_0 ((x00, (), (), x03, ()), (x10, ()), (x20, x21, x22, ()), ()) = some R := loopW (Eq.trans (b := nl_s_l1Look_0 CC LL x00 x03 x10 x20 x21 x22) (by kernel_rfl) h)
end Go.Proofs.Ythnjnnnobipnfaa.Abs
