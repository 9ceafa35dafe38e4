/- What the functions come to in the abstract machine. -/
import Derived.Test.YtpmpjgfikdjpfaaN1Ann
import Derived.KernelRfl
set_option linter.unusedVariables false
set_option maxRecDepth 100000
namespace Go.Proofs.Ytpmpjgfikdjpfaa.Abs
open Go Go.Proofs Go.IntKind
noncomputable def nf_l_eqTerm (C : CallT) (L : LoopT) (a0 : Int) (a1 : Int) (a2 : List UInt8) (a3 : List UInt8) (a40 : Int) (a41 : Int) (a42 : List CVal) (a5 : List CVal) (a6 : List CVal) (b0 : Int) (b1 : Int) (b2 : List UInt8) (b3 : List UInt8) (b40 : Int) (b41 : Int) (b42 : List CVal) (b5 : List CVal) (b6 : List CVal) : Option Ret :=
 br (!decide (a0 = b0)) (some (CVal.bool false, []))
 (br (!decide (a1 = b1)) (some (CVal.bool false, []))
 (br (!decide (a2 = b2)) (some (CVal.bool false, []))
 (br (!decide (a3 = b3)) (some (CVal.bool false, []))
 ((C f_l_eqTy
 [AVal.v (CVal.agg [CVal.int i64 a40, CVal.int i64 a41, CVal.sl a42]),
 AVal.v (CVal.agg [CVal.int i64 b40, CVal.int i64 b41, CVal.sl b42])]
 []).bind
 fun r =>
 r.1.asBool.bind fun b =>
 br (!b) (some (CVal.bool false, []))
 ((C f_l_eqTyS [AVal.v (CVal.sl a5), AVal.v (CVal.sl b5)] []).bind fun r =>
 r.1.asBool.bind fun b =>
 br (!b) (some (CVal.bool false, []))
 ((C f_l_eqTermS [AVal.v (CVal.sl a6), AVal.v (CVal.sl b6)] []).bind fun r =>
 r.1.asBool.bind fun b => br (!b) (some (CVal.bool false, [])) (some (CVal.bool true, []))))))))
theorem go_l_eqTerm (a0 : Int) (a1 : Int) (a2 : List UInt8) (a3 : List UInt8) (a40 : Int) (a41 : Int) (a42 : List CVal) (a5 : List CVal) (a6 : List CVal) (b0 : Int) (b1 : Int) (b2 : List UInt8) (b3 : List UInt8) (b40 : Int) (b41 : Int) (b42 : List CVal) (b5 : List CVal) (b6 : List CVal) (R : Ret) (h : nf_l_eqTerm CC LL a0 a1 a2 a3 a40 a41 a42 a5 a6 b0 b1 b2 b3 b40 b41 b42 b5 b6 = some R) : CC f_l_eqTerm [AVal.v
 (CVal.agg
 [CVal.int i64 a0, CVal.int i64 a1, CVal.str a2, CVal.str a3, CVal.int i64 a40,
 CVal.int i64 a41, CVal.sl a42, CVal.sl a5, CVal.sl a6]),
 AVal.v
 (CVal.agg
 [CVal.int i64 b0, CVal.int i64 b1, CVal.str b2, CVal.str b3, CVal.int i64 b40,
 CVal.int i64 b41, CVal.sl b42, CVal.sl b5, CVal.sl b6])] [] = some R := fnW (by decide) rfl (Eq.trans (b := nf_l_eqTerm CC LL a0 a1 a2 a3 a40 a41 a42 a5 a6 b0 b1 b2 b3 b40 b41 b42 b5 b6) (by kernel_rfl) h)
noncomputable def nf_l_toTy (C : CallT) (L : LoopT) (a0 : Int) (a1 : Int) (a2 : List CVal) : Option Ret :=
 (C f_l_toTyS [AVal.v (CVal.sl a2)] []).bind fun r =>
 br r.1.isFlat
 (r.1.asSl.bind fun xs => some (CVal.agg [CVal.int i64 a0, CVal.int i64 a1, CVal.sl xs], [])) none
theorem go_l_toTy (a0 : Int) (a1 : Int) (a2 : List CVal) (R : Ret) (h : nf_l_toTy CC LL a0 a1 a2 = some R) : CC f_l_toTy [AVal.v (CVal.agg [CVal.int i64 a0, CVal.int i64 a1, CVal.sl a2])] [] = some R := fnW (by decide) rfl (Eq.trans (b := nf_l_toTy CC LL a0 a1 a2) (by kernel_rfl) h)
noncomputable def nf_s_l2Copy (C : CallT) (L : LoopT) (a0 : Int) (a1 : Int) (a2 : List UInt8) (a3 : List UInt8) (a40 : Int) (a41 : Int) (a42 : List CVal) (a5 : List CVal) (a6 : List CVal) : Option Ret :=
 (C f_s_l1Copy [AVal.v (CVal.agg [CVal.int i64 a40, CVal.int i64 a41, CVal.sl a42])] []).bind fun r =>
 br (CVal.isAggN 3 r.1)
 ((r.1.cell 0).bind fun c =>
 (r.1.cell 1).bind fun c_1 =>
 (r.1.cell 2).bind fun c_2 =>
 c_2.asSl.bind fun xs =>
 (C f_s_l2CopyTys [AVal.v (CVal.sl a5)] []).bind fun r =>
 br r.1.isFlat
 (r.1.asSl.bind fun xs_1 =>
 (CVal.asInt i64 c).bind fun n =>
 (CVal.asInt i64 c_1).bind fun n_1 =>
 (L f_s_l2Copy 0 lc_s_l2Copy_0 [] k_s_l2Copy_0
 (((), (), (), 0, ()),
 (a0, a1, a2, a3, a40, a41, a42, a5, a6, ()),
 (0, 0, [], [], 0, 0, (), (), (),
 ()),
 [], [], [], (a0, a1, a2, a3, n, n_1, (), (), (), ()), xs,
 xs_1, [], ())).bind
 fun r =>
 loK r (fun r => some r) fun j p =>
 br (j == 0)
 (some
 (CVal.agg
 [CVal.int i64 p.snd.snd.snd.snd.snd.snd.fst.1,
 CVal.int i64 p.snd.snd.snd.snd.snd.snd.fst.snd.1,
 CVal.str p.snd.snd.snd.snd.snd.snd.fst.snd.snd.1,
 CVal.str p.snd.snd.snd.snd.snd.snd.fst.snd.snd.snd.1,
 CVal.int i64 p.snd.snd.snd.snd.snd.snd.fst.snd.snd.snd.snd.1,
 CVal.int i64 p.snd.snd.snd.snd.snd.snd.fst.snd.snd.snd.snd.snd.1,
 CVal.sl p.snd.snd.snd.snd.snd.snd.snd.1,
 CVal.sl p.snd.snd.snd.snd.snd.snd.snd.snd.1,
 CVal.sl p.snd.snd.snd.snd.snd.snd.snd.snd.snd.1],
 []))
 none)
 none)
 none
theorem go_s_l2Copy (a0 : Int) (a1 : Int) (a2 : List UInt8) (a3 : List UInt8) (a40 : Int) (a41 : Int) (a42 : List CVal) (a5 : List CVal) (a6 : List CVal) (R : Ret) (h : nf_s_l2Copy CC LL a0 a1 a2 a3 a40 a41 a42 a5 a6 = some R) : CC f_s_l2Copy [AVal.v
 (CVal.agg
 [CVal.int i64 a0, CVal.int i64 a1, CVal.str a2, CVal.str a3, CVal.int i64 a40,
 CVal.int i64 a41, CVal.sl a42, CVal.sl a5, CVal.sl a6])] [] = some R := fnW (by decide) rfl (Eq.trans (b := nf_s_l2Copy CC LL a0 a1 a2 a3 a40 a41 a42 a5 a6) (by kernel_rfl) h)
noncomputable def nf_l_eqTermS (C : CallT) (L : LoopT) (a : List CVal) (b : List CVal) : Option Ret :=
 br (!decide ((↑a.length : Int) = (↑b.length : Int))) (some (CVal.bool false, []))
 ((L f_l_eqTermS 0 lc_l_eqTermS_0 [] k_l_eqTermS_0 ((a, b, 0, ()), ())).bind fun r =>
 loK r (fun r => some r) fun j p => br (j == 0) (some (CVal.bool true, [])) none)
theorem go_l_eqTermS (a : List CVal) (b : List CVal) (R : Ret) (h : nf_l_eqTermS CC LL a b = some R) : CC f_l_eqTermS [AVal.v (CVal.sl a), AVal.v (CVal.sl b)] [] = some R := fnW (by decide) rfl (Eq.trans (b := nf_l_eqTermS CC LL a b) (by kernel_rfl) h)
noncomputable def nf_l_heldTermS (C : CallT) (L : LoopT) (a : List CVal) (b : Int) : Option Ret :=
 (L f_l_heldTermS 0 lc_l_heldTermS_0 [] k_l_heldTermS_0 ((a, b, 0, ()), ())).bind
 fun r => loK r (fun r => some r) fun j p => br (j == 0) (some (CVal.int i64 p.fst.snd.1, [])) none
theorem go_l_heldTermS (a : List CVal) (b : Int) (R : Ret) (h : nf_l_heldTermS CC LL a b = some R) : CC f_l_heldTermS [AVal.v (CVal.sl a), AVal.v (CVal.int i64 b)] [] = some R := fnW (by decide) rfl (Eq.trans (b := nf_l_heldTermS CC LL a b) (by kernel_rfl) h)
noncomputable def nf_i_nodesIn (C : CallT) (L : LoopT) (a : CVal) (b : List CVal) : Option Ret :=
 br (a.isFlat && true)
 (br a.isPt
 (br ([a].all (CVal.fitsF false [CK.any]))
 (br (decide (b.length + 1 ≤ 4294967296) && true && true)
 (a.asFp.bind fun y =>
 (y.1.cell (y.2 + 10)).bind fun c =>
 c.asSl.bind fun xs =>
 c.asSl.bind fun xs_1 =>
 (L f_i_nodesIn 0 lc_i_nodesIn_0 [PSh.arr (Md.mk true false 0) false 1]
 k_i_nodesIn_0
 (((), xs_1, (↑xs.length : Int), 0, ()), b ++ [a], ())).bind
 fun r => loK r (fun r => some r) fun j p => br (j == 0) (some (CVal.nilp, [p.snd.1])) none)
 none)
 none)
 none)
 none
theorem go_i_nodesIn (a : CVal) (b : List CVal) (R : Ret) (h : nf_i_nodesIn CC LL a b = some R) : CC f_i_nodesIn [AVal.v a, AVal.lref 0 0] [PB.arr (Md.mk true false 0) false 1 b] = some R := fnW (by decide) rfl (Eq.trans (b := nf_i_nodesIn CC LL a b) (by kernel_rfl) h)
noncomputable def nf_s_l2Number (C : CallT) (L : LoopT) (a0 : Int) (a1 : Int) (a2 : List UInt8) (a3 : List UInt8) (a40 : Int) (a41 : Int) (a42 : List CVal) (a5 : List CVal) (a6 : List CVal) : Option Ret :=
 br (decide (a0 = 1))
 ((C f_s_l1In
 [AVal.v (CVal.int i64 a1), AVal.v (CVal.int i64 (-1000000 : Int)),
 AVal.v (CVal.int i64 1000000)]
 []).bind
 fun r => some (r.1, []))
 (br (decide (a0 = 2))
 ((C f_s_l1In
 [AVal.v (CVal.int i64 a1), AVal.v (CVal.int i64 0),
 AVal.v (CVal.int i64 1)]
 []).bind
 fun r => some (r.1, []))
 (br (decide (a0 = 6))
 ((C f_s_l1In
 [AVal.v (CVal.int i64 a1), AVal.v (CVal.int i64 0),
 AVal.v (CVal.int i64 2)]
 []).bind
 fun r => some (r.1, []))
 (br (decide (a0 = 7))
 ((C f_s_l1In
 [AVal.v (CVal.int i64 a1), AVal.v (CVal.int i64 0),
 AVal.v (CVal.int i64 2)]
 []).bind
 fun r => some (r.1, []))
 (br (decide (a0 = 15))
 ((C f_s_l1In
 [AVal.v (CVal.int i64 a1), AVal.v (CVal.int i64 1),
 AVal.v (CVal.int i64 5)]
 []).bind
 fun r => some (r.1, []))
 (some (CVal.bool (decide (a1 = 0)), []))))))
theorem go_s_l2Number (a0 : Int) (a1 : Int) (a2 : List UInt8) (a3 : List UInt8) (a40 : Int) (a41 : Int) (a42 : List CVal) (a5 : List CVal) (a6 : List CVal) (R : Ret) (h : nf_s_l2Number CC LL a0 a1 a2 a3 a40 a41 a42 a5 a6 = some R) : CC f_s_l2Number [AVal.v
 (CVal.agg
 [CVal.int i64 a0, CVal.int i64 a1, CVal.str a2, CVal.str a3, CVal.int i64 a40,
 CVal.int i64 a41, CVal.sl a42, CVal.sl a5, CVal.sl a6])] [] = some R := fnW (by decide) rfl (Eq.trans (b := nf_s_l2Number CC LL a0 a1 a2 a3 a40 a41 a42 a5 a6) (by kernel_rfl) h)
noncomputable def nf_i_parts (C : CallT) (L : LoopT) (a : Int) : Option Ret :=
 br (decide (a = 1)) (some (CVal.int i64 0, []))
 (br (decide (a = 2)) (some (CVal.int i64 0, []))
 (br (decide (a = 3)) (some (CVal.int i64 0, []))
 (br (decide (a = 12)) (some (CVal.int i64 0, []))
 (br (decide (a = 4)) (some (CVal.int i64 1, []))
 (br (decide (a = 10)) (some (CVal.int i64 1, []))
 (br (decide (a = 11)) (some (CVal.int i64 1, []))
 (br (decide (a = 16)) (some (CVal.int i64 1, []))
 (br (decide (a = 5)) (some (CVal.int i64 2, []))
 (br (decide (a = 6)) (some (CVal.int i64 2, []))
 (br (decide (a = 7)) (some (CVal.int i64 2, []))
 (br (decide (a = 9)) (some (CVal.int i64 2, []))
 (br (decide (a = 13)) (some (CVal.int i64 2, []))
 (br (decide (a = 15)) (some (CVal.int i64 2, []))
 (br (decide (a = 17)) (some (CVal.int i64 2, []))
 (br (decide (a = 8)) (some (CVal.int i64 3, []))
 (br (decide (a = 14)) (some (CVal.int i64 3, []))
 (some (CVal.int i64 (-1 : Int), []))))))))))))))))))
theorem go_i_parts (a : Int) (R : Ret) (h : nf_i_parts CC LL a = some R) : CC f_i_parts [AVal.v (CVal.int i64 a)] [] = some R := fnW (by decide) rfl (Eq.trans (b := nf_i_parts CC LL a) (by kernel_rfl) h)
noncomputable def nf_slices_ContainsFunc_Ty (C : CallT) (L : LoopT) (a : List CVal) (b : CVal) : Option Ret :=
 (C f_slices_IndexFunc_Ty [AVal.v (CVal.sl a), AVal.v b] []).bind fun r =>
 (CVal.asInt i64 r.1).bind fun n => some (CVal.bool (decide (0 ≤ n)), [])
theorem go_slices_ContainsFunc_Ty (a : List CVal) (b : CVal) (R : Ret) (h : nf_slices_ContainsFunc_Ty CC LL a b = some R) : CC f_slices_ContainsFunc_Ty [AVal.v (CVal.sl a), AVal.v b] [] = some R := fnW (by decide) rfl (Eq.trans (b := nf_slices_ContainsFunc_Ty CC LL a b) (by kernel_rfl) h)
noncomputable def nf_slices_EqualFunc_Ty (C : CallT) (L : LoopT) (a : List CVal) (b : List CVal) (c : CVal) : Option Ret :=
 br (!decide ((↑a.length : Int) = (↑b.length : Int))) (some (CVal.bool false, []))
 ((L f_slices_EqualFunc_Ty 0 lc_slices_EqualFunc_Ty_0 [] k_slices_EqualFunc_Ty_0
 ((b, c, a, (↑a.length : Int), 0, ()), ())).bind
 fun r => loK r (fun r => some r) fun j p => br (j == 0) (some (CVal.bool true, [])) none)
theorem go_slices_EqualFunc_Ty (a : List CVal) (b : List CVal) (c : CVal) (R : Ret) (h : nf_slices_EqualFunc_Ty CC LL a b c = some R) : CC f_slices_EqualFunc_Ty [AVal.v (CVal.sl a), AVal.v (CVal.sl b), AVal.v c] [] = some R := fnW (by decide) rfl (Eq.trans (b := nf_slices_EqualFunc_Ty CC LL a b c) (by kernel_rfl) h)
noncomputable def nl_l_toTermS_0 (C : CallT) (L : LoopT) (x00 : List CVal) (x02 : Int) (x1 : List CVal) : Option (LO k_l_toTermS_0.T) :=
 br (decide (x02 < (↑x00.length : Int)))
 (br (decide (0 ≤ x02) && true)
 (x00[x02.toNat]?.bind fun y =>
 br (CVal.fits true 9 y)
 ((y.sub 0 9).bind fun y =>
 (C f_l_toTerm [AVal.v y] []).bind fun r =>
 br (CVal.isAggN 9 r.1)
 ((r.1.cell 0).bind fun c =>
 (r.1.cell 1).bind fun c_1 =>
 (r.1.cell 2).bind fun c_2 =>
 (r.1.cell 3).bind fun c_3 =>
 (r.1.cell 4).bind fun c_4 =>
 (r.1.cell 5).bind fun c_5 =>
 (r.1.cell 6).bind fun c_6 =>
 (r.1.cell 7).bind fun c_7 =>
 (r.1.cell 8).bind fun c_8 =>
 c_6.asSl.bind fun xs =>
 c_7.asSl.bind fun xs_1 =>
 c_8.asSl.bind fun xs_2 =>
 br (decide (0 ≤ x02) && true)
 (br (decide (x02.toNat < x1.length) && true)
 ((CVal.asInt i64 c).bind fun n =>
 (CVal.asInt i64 c_1).bind fun n_1 =>
 c_2.asStr.bind fun s =>
 c_3.asStr.bind fun s_1 =>
 (CVal.asInt i64 c_4).bind fun n_2 =>
 (CVal.asInt i64 c_5).bind fun n_3 =>
 x1[x02.toNat]?.bind fun y =>
 br (CVal.fits true 9 y)
 (L f_l_toTermS 0 lc_l_toTermS_0 [] k_l_toTermS_0
 ((x00, (), i64.wrap (x02 + 1),
 ()),
 x1.set x02.toNat
 (CVal.agg
 [CVal.int i64 n, CVal.int i64 n_1,
 CVal.str s, CVal.str s_1, CVal.int i64 n_2,
 CVal.int i64 n_3, CVal.sl xs, CVal.sl xs_1,
 CVal.sl xs_2]),
 ()))
 (br (y.isAgg && decide (9 ≤ y.cells.length))
 (L f_l_toTermS 0 lc_l_toTermS_0 [] k_l_toTermS_0
 ((x00, (), i64.wrap (x02 + 1),
 ()),
 x1.set x02.toNat
 (CVal.agg
 (CVal.int i64 n ::
 CVal.int i64 n_1 ::
 CVal.str s ::
 CVal.str s_1 ::
 CVal.int i64 n_2 ::
 CVal.int i64 n_3 ::
 CVal.sl xs ::
 CVal.sl xs_1 ::
 CVal.sl xs_2 ::
 List.drop 9 y.cells)),
 ()))
 none))
 none)
 none)
 none)
 none)
 none)
 (some (LO.out 0 ((x00, (), x02, ()), x1, ())))
theorem gl_l_toTermS_0 (x00 : List CVal) (x02 : Int) (x1 : List CVal) (R : LO k_l_toTermS_0.T) (h : nl_l_toTermS_0 CC LL x00 x02 x1 = some R) : LL f_l_toTermS 0 lc_l_toTermS_0 [] k_l_toTermS_0 ((x00, (), x02, ()), x1, ()) = some R := loopW (Eq.trans (b := nl_l_toTermS_0 CC LL x00 x02 x1) (by kernel_rfl) h)
noncomputable def nl_l_eqTermS_0 (C : CallT) (L : LoopT) (x00 : List CVal) (x01 : List CVal) (x02 : Int) : Option (LO k_l_eqTermS_0.T) :=
 br (decide (x02 < (↑x00.length : Int)))
 (br (decide (0 ≤ x02) && true)
 (x00[x02.toNat]?.bind fun y =>
 br (CVal.fits true 9 y)
 ((y.sub 0 9).bind fun y =>
 br (decide (0 ≤ x02) && true)
 (x01[x02.toNat]?.bind fun y_1 =>
 br (CVal.fits true 9 y_1)
 ((y_1.sub 0 9).bind fun y_2 =>
 (C f_l_eqTerm [AVal.v y, AVal.v y_2] []).bind fun r =>
 r.1.asBool.bind fun b =>
 br (!b) (some (LO.ret (CVal.bool false, [])))
 (L f_l_eqTermS 0 lc_l_eqTermS_0 [] k_l_eqTermS_0
 ((x00, x01, i64.wrap (x02 + 1), ()), ())))
 none)
 none)
 none)
 none)
 (some (LO.out 0 ((x00, x01, x02, ()), ())))
theorem gl_l_eqTermS_0 (x00 : List CVal) (x01 : List CVal) (x02 : Int) (R : LO k_l_eqTermS_0.T) (h : nl_l_eqTermS_0 CC LL x00 x01 x02 = some R) : LL f_l_eqTermS 0 lc_l_eqTermS_0 [] k_l_eqTermS_0 ((x00, x01, x02, ()), ()) = some R := loopW (Eq.trans (b := nl_l_eqTermS_0 CC LL x00 x01 x02) (by kernel_rfl) h)
noncomputable def nl_s_l1Copy_0 (C : CallT) (L : LoopT) (x03 : Int) (x10 : Int) (x11 : Int) (x12 : List CVal) (x20 : Int) (x21 : Int) (x3 : List CVal) (x40 : Int) (x41 : Int) (x5 : List CVal) : Option (LO k_s_l1Copy_0.T) :=
 br (decide (x03 < (↑x12.length : Int)))
 (br (decide (0 ≤ x03) && true)
 (x12[x03.toNat]?.bind fun y =>
 br (CVal.fits true 3 y)
 ((y.sub 0 3).bind fun y =>
 (C f_s_l1Copy [AVal.v y] []).bind fun r =>
 br (CVal.isAggN 3 r.1)
 ((r.1.cell 0).bind fun c =>
 (r.1.cell 1).bind fun c_1 =>
 (r.1.cell 2).bind fun c_2 =>
 c_2.asSl.bind fun xs =>
 (CVal.asInt i64 c).bind fun n =>
 (CVal.asInt i64 c_1).bind fun n_1 =>
 br (decide (x5.length + 1 ≤ 4294967296) && true && true)
 (L f_s_l1Copy 0 lc_s_l1Copy_0 [] k_s_l1Copy_0
 (((), (), (), i64.wrap (x03 + 1), ()),
 (x10, x11, x12, ()), (x20, x21, (), ()), x3,
 (x40, x41, (), ()),
 x5 ++ [CVal.agg [CVal.int i64 n, CVal.int i64 n_1, CVal.sl xs]],
 ()))
 none)
 none)
 none)
 none)
 (some
 (LO.out 0
 (((), (), (), x03, ()), (x10, x11, x12, ()),
 (x20, x21, (), ()), x3, (x40, x41, (), ()), x5, ())))
theorem gl_s_l1Copy_0 (x03 : Int) (x10 : Int) (x11 : Int) (x12 : List CVal) (x20 : Int) (x21 : Int) (x3 : List CVal) (x40 : Int) (x41 : Int) (x5 : List CVal) (R : LO k_s_l1Copy_0.T) (h : nl_s_l1Copy_0 CC LL x03 x10 x11 x12 x20 x21 x3 x40 x41 x5 = some R) : LL f_s_l1Copy 0 lc_s_l1Copy_0 [] k_s_l1Copy_0 (((), (), (), x03, ()), (x10, x11, x12, ()), (x20, x21, (), ()), x3, (x40, x41, (), ()), x5, ()) = some R := loopW (Eq.trans (b := nl_s_l1Copy_0 CC LL x03 x10 x11 x12 x20 x21 x3 x40 x41 x5) (by kernel_rfl) h)
noncomputable def nl_s_l2One_0 (C : CallT) (L : LoopT) (x01 : Int) (x10 : Int) (x11 : Int) (x12 : List UInt8) (x13 : List UInt8) (x14 : Int) (x15 : Int) (x16 : List CVal) (x17 : List CVal) (x18 : List CVal) : Option (LO k_s_l2One_0.T) :=
 br (decide (x01 < (↑x17.length : Int)))
 (br (decide (0 ≤ x01) && true)
 (x17[x01.toNat]?.bind fun y =>
 br (CVal.fits true 3 y)
 ((y.sub 0 3).bind fun y =>
 (C f_s_TyOk [AVal.v y] []).bind fun r =>
 r.1.asBool.bind fun b =>
 br (!b) (some (LO.ret (CVal.bool false, [])))
 (L f_s_l2One 0 lc_s_l2One_0 [] k_s_l2One_0
 (((), i64.wrap (x01 + 1), ()),
 (x10, x11, x12, x13, x14, x15, x16, x17, x18, ()), ())))
 none)
 none)
 (some
 (LO.out 0
 (((), x01, ()), (x10, x11, x12, x13, x14, x15, x16, x17, x18, ()), ())))
theorem gl_s_l2One_0 (x01 : Int) (x10 : Int) (x11 : Int) (x12 : List UInt8) (x13 : List UInt8) (x14 : Int) (x15 : Int) (x16 : List CVal) (x17 : List CVal) (x18 : List CVal) (R : LO k_s_l2One_0.T) (h : nl_s_l2One_0 CC LL x01 x10 x11 x12 x13 x14 x15 x16 x17 x18 = some R) : LL f_s_l2One 0 lc_s_l2One_0 [] k_s_l2One_0 (((), x01, ()), (x10, x11, x12, x13, x14, x15, x16, x17, x18, ()), ()) = some R := loopW (Eq.trans (b := nl_s_l2One_0 CC LL x01 x10 x11 x12 x13 x14 x15 x16 x17 x18) (by kernel_rfl) h)
noncomputable def nl_i_measure_0 (C : CallT) (L : LoopT) (x00 : Int) (x01 : Int) (x02 : List CVal) (x03 : Int) (x04 : Int) : Option (LO k_i_measure_0.T) :=
 br (decide (x04 < x03))
 (br (decide (0 ≤ x04) && true)
 (x02[x04.toNat]?.bind fun y =>
 br (CVal.fits true 3 y)
 ((y.sub 0 3).bind fun y =>
 br (CVal.isAggN 3 y)
 ((y.cell 0).bind fun c =>
 (y.cell 1).bind fun c_1 =>
 (y.cell 2).bind fun c_2 =>
 (C f_i_measure [AVal.v (CVal.agg [c, c_1, c_2])] []).bind fun r =>
 r.1.asTup.bind fun y =>
 y[0]?.bind fun y =>
 r.1.asTup.bind fun y_1 =>
 y_1[1]?.bind fun y_2 =>
 r.1.asTup.bind fun y_3 =>
 y_3[2]?.bind fun y_4 =>
 y_4.asBool.bind fun b =>
 br (!b)
 (some
 (LO.ret
 (CVal.tup
 [CVal.int i64 0, CVal.int i64 0,
 CVal.bool false],
 [])))
 ((CVal.asInt i64 y).bind fun n =>
 (CVal.asInt i64 y_2).bind fun n_1 =>
 L f_i_measure 0 lc_i_measure_0 [] k_i_measure_0
 ((bif decide (x00 < n) then n else x00, i64.wrap (x01 + n_1), x02,
 x03, i64.wrap (x04 + 1), ()),
 ())))
 none)
 none)
 none)
 (some (LO.out 0 ((x00, x01, x02, x03, x04, ()), ())))
theorem gl_i_measure_0 (x00 : Int) (x01 : Int) (x02 : List CVal) (x03 : Int) (x04 : Int) (R : LO k_i_measure_0.T) (h : nl_i_measure_0 CC LL x00 x01 x02 x03 x04 = some R) : LL f_i_measure 0 lc_i_measure_0 [] k_i_measure_0 ((x00, x01, x02, x03, x04, ()), ()) = some R := loopW (Eq.trans (b := nl_i_measure_0 CC LL x00 x01 x02 x03 x04) (by kernel_rfl) h)
end Go.Proofs.Ytpmpjgfikdjpfaa.Abs
