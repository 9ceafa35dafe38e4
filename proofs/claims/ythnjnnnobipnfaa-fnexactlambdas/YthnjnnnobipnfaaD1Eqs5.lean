/- What the functions come to in the abstract machine. -/
import Derived.Test.YthnjnnnobipnfaaD1Ann
import Derived.KernelRfl
set_option linter.unusedVariables false
set_option maxRecDepth 100000
namespace Go.Proofs.Ythnjnnnobipnfaa.Abs
open Go Go.Proofs Go.IntKind
noncomputable def nf_i_Lambdas (C : CallT) (L : LoopT) (a0 : Int) (a1 : Int) (a2 : List UInt8) (a3 : List UInt8) (a40 : Int) (a41 : Int) (a42 : List CVal) (a5 : List CVal) (a6 : List CVal) : Option Ret :=
 (C f_i_lambdas
 [AVal.v
 (CVal.agg
 [CVal.int i64 a0, CVal.int i64 a1, CVal.str a2, CVal.str a3, CVal.int i64 a40,
 CVal.int i64 a41, CVal.sl a42, CVal.sl a5, CVal.sl a6])]
 []).bind
 fun r => r.1.asSl.bind fun xs => some (CVal.int i64 (↑xs.length : Int), [])
theorem go_i_Lambdas (a0 : Int) (a1 : Int) (a2 : List UInt8) (a3 : List UInt8) (a40 : Int) (a41 : Int) (a42 : List CVal) (a5 : List CVal) (a6 : List CVal) (R : Ret) (h : nf_i_Lambdas CC LL a0 a1 a2 a3 a40 a41 a42 a5 a6 = some R) : CC f_i_Lambdas [AVal.v
 (CVal.agg
 [CVal.int i64 a0, CVal.int i64 a1, CVal.str a2, CVal.str a3, CVal.int i64 a40,
 CVal.int i64 a41, CVal.sl a42, CVal.sl a5, CVal.sl a6])] [] = some R := fnW (by decide) rfl (Eq.trans (b := nf_i_Lambdas CC LL a0 a1 a2 a3 a40 a41 a42 a5 a6) (by kernel_rfl) h)
noncomputable def nf_l_szTy (C : CallT) (L : LoopT) (a0 : Int) (a1 : Int) (a2 : List CVal) (b : Int) : Option Ret :=
 (C f_l_szTyS [AVal.v (CVal.sl a2), AVal.v (CVal.int i64 b)] []).bind fun r =>
 (CVal.asInt i64 r.1).bind fun n =>
 br (decide (n < 0)) (some (CVal.int i64 (-1 : Int), [])) (some (r.1, []))
theorem go_l_szTy (a0 : Int) (a1 : Int) (a2 : List CVal) (b : Int) (R : Ret) (h : nf_l_szTy CC LL a0 a1 a2 b = some R) : CC f_l_szTy [AVal.v (CVal.agg [CVal.int i64 a0, CVal.int i64 a1, CVal.sl a2]), AVal.v (CVal.int i64 b)] [] = some R := fnW (by decide) rfl (Eq.trans (b := nf_l_szTy CC LL a0 a1 a2 b) (by kernel_rfl) h)
noncomputable def nf_s_l6Lambdas (C : CallT) (L : LoopT) (a0 : Int) (a1 : Int) (a2 : List UInt8) (a3 : List UInt8) (a40 : Int) (a41 : Int) (a42 : List CVal) (a5 : List CVal) (a6 : List CVal) : Option Ret :=
 (C f_s_TermOk
 [AVal.v
 (CVal.agg
 [CVal.int i64 a0, CVal.int i64 a1, CVal.str a2, CVal.str a3, CVal.int i64 a40,
 CVal.int i64 a41, CVal.sl a42, CVal.sl a5, CVal.sl a6])]
 []).bind
 fun r =>
 r.1.asBool.bind fun b =>
 br (!b) (some (CVal.sl [], []))
 ((C f_s_l6All
 [AVal.v
 (CVal.agg
 [CVal.int i64 a0, CVal.int i64 a1, CVal.str a2, CVal.str a3, CVal.int i64 a40,
 CVal.int i64 a41, CVal.sl a42, CVal.sl a5, CVal.sl a6]),
 AVal.lref 0 0]
 [PB.arr (Md.mk false false 0) false 9 []]).bind
 fun r =>
 r.2[0]?.bind fun y =>
 (L f_s_l6Lambdas 0 lc_s_l6Lambdas_0 [] k_s_l6Lambdas_0
 (((), (), 0, ()), [], y, ())).bind
 fun r => loK r (fun r => some r) fun j p => br (j == 0) (some (CVal.sl p.snd.1, [])) none)
theorem go_s_l6Lambdas (a0 : Int) (a1 : Int) (a2 : List UInt8) (a3 : List UInt8) (a40 : Int) (a41 : Int) (a42 : List CVal) (a5 : List CVal) (a6 : List CVal) (R : Ret) (h : nf_s_l6Lambdas CC LL a0 a1 a2 a3 a40 a41 a42 a5 a6 = some R) : CC f_s_l6Lambdas [AVal.v
 (CVal.agg
 [CVal.int i64 a0, CVal.int i64 a1, CVal.str a2, CVal.str a3, CVal.int i64 a40,
 CVal.int i64 a41, CVal.sl a42, CVal.sl a5, CVal.sl a6])] [] = some R := fnW (by decide) rfl (Eq.trans (b := nf_s_l6Lambdas CC LL a0 a1 a2 a3 a40 a41 a42 a5 a6) (by kernel_rfl) h)
noncomputable def nf_s_l2Copy (C : CallT) (L : LoopT) (a0 : Int) (a1 : Int) (a2 : List UInt8) (a3 : List UInt8) (a40 : Int) (a41 : Int) (a42 : List CVal) (a5 : List CVal) (a6 : List CVal) : Option Ret :=
 (C f_s_l1Copy [AVal.v (CVal.agg [CVal.int i64 a40, CVal.int i64 a41, CVal.sl a42])] []).bind fun r =>
 br (CVal.isAggN 3 r.1)
 ((r.1.cell 0).bind fun c =>
 (r.1.cell 1).bind fun c_1 =>
 (r.1.cell 2).bind fun c_2 =>
 c_2.asSl.bind fun xs =>
 (C f_s_l2CopyTys [AVal.v (CVal.sl a5)] []).bind fun r =>
 br r.1.isFlat
 (r.1.asSl.bind fun xs_1 =>
 (CVal.asInt i64 c).bind fun n =>
 (CVal.asInt i64 c_1).bind fun n_1 =>
 (L f_s_l2Copy 0 lc_s_l2Copy_0 [] k_s_l2Copy_0
 (((), (), (), 0, ()),
 (a0, a1, a2, a3, a40, a41, a42, a5, a6, ()),
 (0, 0, [], [], 0, 0, (), (), (),
 ()),
 [], [], [], (a0, a1, a2, a3, n, n_1, (), (), (), ()), xs,
 xs_1, [], ())).bind
 fun r =>
 loK r (fun r => some r) fun j p =>
 br (j == 0)
 (some
 (CVal.agg
 [CVal.int i64 p.snd.snd.snd.snd.snd.snd.fst.1,
 CVal.int i64 p.snd.snd.snd.snd.snd.snd.fst.snd.1,
 CVal.str p.snd.snd.snd.snd.snd.snd.fst.snd.snd.1,
 CVal.str p.snd.snd.snd.snd.snd.snd.fst.snd.snd.snd.1,
 CVal.int i64 p.snd.snd.snd.snd.snd.snd.fst.snd.snd.snd.snd.1,
 CVal.int i64 p.snd.snd.snd.snd.snd.snd.fst.snd.snd.snd.snd.snd.1,
 CVal.sl p.snd.snd.snd.snd.snd.snd.snd.1,
 CVal.sl p.snd.snd.snd.snd.snd.snd.snd.snd.1,
 CVal.sl p.snd.snd.snd.snd.snd.snd.snd.snd.snd.1],
 []))
 none)
 none)
 none
theorem go_s_l2Copy (a0 : Int) (a1 : Int) (a2 : List UInt8) (a3 : List UInt8) (a40 : Int) (a41 : Int) (a42 : List CVal) (a5 : List CVal) (a6 : List CVal) (R : Ret) (h : nf_s_l2Copy CC LL a0 a1 a2 a3 a40 a41 a42 a5 a6 = some R) : CC f_s_l2Copy [AVal.v
 (CVal.agg
 [CVal.int i64 a0, CVal.int i64 a1, CVal.str a2, CVal.str a3, CVal.int i64 a40,
 CVal.int i64 a41, CVal.sl a42, CVal.sl a5, CVal.sl a6])] [] = some R := fnW (by decide) rfl (Eq.trans (b := nf_s_l2Copy CC LL a0 a1 a2 a3 a40 a41 a42 a5 a6) (by kernel_rfl) h)
noncomputable def nf_l_heldTy (C : CallT) (L : LoopT) (a0 : Int) (a1 : Int) (a2 : List CVal) (b : Int) : Option Ret :=
 (C f_l_heldTyS [AVal.v (CVal.sl a2), AVal.v (CVal.int i64 b)] []).bind fun r =>
 (CVal.asInt i64 r.1).bind fun n =>
 br (decide (n < 0)) (some (CVal.int i64 (-1 : Int), [])) (some (r.1, []))
theorem go_l_heldTy (a0 : Int) (a1 : Int) (a2 : List CVal) (b : Int) (R : Ret) (h : nf_l_heldTy CC LL a0 a1 a2 b = some R) : CC f_l_heldTy [AVal.v (CVal.agg [CVal.int i64 a0, CVal.int i64 a1, CVal.sl a2]), AVal.v (CVal.int i64 b)] [] = some R := fnW (by decide) rfl (Eq.trans (b := nf_l_heldTy CC LL a0 a1 a2 b) (by kernel_rfl) h)
noncomputable def nf_slices_DeleteFunc_p_node (C : CallT) (L : LoopT) (a : List CVal) (b : CVal) : Option Ret :=
 (C f_slices_IndexFunc_p_node [AVal.v (CVal.sl a), AVal.v b] []).bind fun r =>
 br (!scalar r.1) none
 ((CVal.asInt i64 r.1).bind fun n =>
 br (decide (n = (-1 : Int))) (some (CVal.nilp, [a]))
 ((CVal.asInt i64 r.1).bind fun n =>
 (CVal.asInt i64 r.1).bind fun n_1 =>
 (L f_slices_DeleteFunc_p_node 0 lc_slices_DeleteFunc_p_node_0
 [PSh.arr (Md.mk true false 0) false 1] k_slices_DeleteFunc_p_node_0
 (((), b, n_1, i64.wrap (n + 1), ()), a, ())).bind
 fun r =>
 loK r (fun r => some r) fun j p =>
 br (j == 0)
 (br
 (decide (0 ≤ p.fst.snd.snd.1) &&
 decide (p.fst.snd.snd.1 ≤ (↑(List.length p.snd.1) : Int)) &&
 true)
 (br (decide (Int.toNat p.fst.snd.snd.1 ≤ List.length p.snd.1) && true)
 (br
 (decide (0 ≤ p.fst.snd.snd.1) &&
 decide
 (p.fst.snd.snd.1 ≤
 (↑(List.take (Int.toNat p.fst.snd.snd.1) p.snd.1 ++
 List.replicate (List.length p.snd.1 - Int.toNat p.fst.snd.snd.1)
 CVal.nilp).length :
 Int)) &&
 true)
 (some
 (CVal.nilp,
 [List.take (Int.toNat p.fst.snd.snd.1)
 (List.take (Int.toNat p.fst.snd.snd.1) p.snd.1 ++
 List.replicate (List.length p.snd.1 - Int.toNat p.fst.snd.snd.1) CVal.nilp)]))
 none)
 none)
 none)
 none))
theorem go_slices_DeleteFunc_p_node (a : List CVal) (b : CVal) (R : Ret) (h : nf_slices_DeleteFunc_p_node CC LL a b = some R) : CC f_slices_DeleteFunc_p_node [AVal.lref 0 0, AVal.v b] [PB.arr (Md.mk true false 0) false 1 a] = some R := fnW (by decide) rfl (Eq.trans (b := nf_slices_DeleteFunc_p_node CC LL a b) (by kernel_rfl) h)
noncomputable def nf_s_l2Look (C : CallT) (L : LoopT) (a0 : Int) (a1 : Int) (a2 : List UInt8) (a3 : List UInt8) (a40 : Int) (a41 : Int) (a42 : List CVal) (a5 : List CVal) (a6 : List CVal) (b : Int) (c : Int) : Option Ret :=
 (br (decide (b = 0)) (some (true, ()))
 (br (decide (150 < i64.wrap (c + 1))) (some (true, ()))
 ((C f_s_l2One
 [AVal.v
 (CVal.agg
 [CVal.int i64 a0, CVal.int i64 a1, CVal.str a2, CVal.str a3,
 CVal.int i64 a40, CVal.int i64 a41, CVal.sl a42, CVal.sl a5, CVal.sl a6])]
 []).bind
 fun r => r.1.asBool.bind fun b => some (!b, ())))).bind
 fun y =>
 br y.1 (some (CVal.bool false, [[CVal.int i64 (i64.wrap (c + 1))]]))
 ((L f_s_l2Look 0 lc_s_l2Look_0 [PSh.box [none]] k_s_l2Look_0
 ((b, (), (), 0, ()), (i64.wrap (c + 1), ()),
 (a0, a1, a2, a3, a40, a41, a42, a5, a6, ()), ())).bind
 fun r =>
 loK r (fun r => some r) fun j p =>
 br (j == 0) (some (CVal.bool true, [[CVal.int i64 p.snd.fst.1]])) none)
theorem go_s_l2Look (a0 : Int) (a1 : Int) (a2 : List UInt8) (a3 : List UInt8) (a40 : Int) (a41 : Int) (a42 : List CVal) (a5 : List CVal) (a6 : List CVal) (b : Int) (c : Int) (R : Ret) (h : nf_s_l2Look CC LL a0 a1 a2 a3 a40 a41 a42 a5 a6 b c = some R) : CC f_s_l2Look [AVal.v
 (CVal.agg
 [CVal.int i64 a0, CVal.int i64 a1, CVal.str a2, CVal.str a3, CVal.int i64 a40,
 CVal.int i64 a41, CVal.sl a42, CVal.sl a5, CVal.sl a6]),
 AVal.v (CVal.int i64 b), AVal.lptr 0 0] [PB.box [AVal.v (CVal.int i64 c)]] = some R := fnW (by decide) rfl (Eq.trans (b := nf_s_l2Look CC LL a0 a1 a2 a3 a40 a41 a42 a5 a6 b c) (by kernel_rfl) h)
noncomputable def nf_i_termSize (C : CallT) (L : LoopT) (a0 : Int) (a1 : Int) (a2 : List UInt8) (a3 : List UInt8) (a40 : Int) (a41 : Int) (a42 : List CVal) (a5 : List CVal) (a6 : List CVal) : Option Ret :=
 (C f_i_headOk
 [AVal.v
 (CVal.agg
 [CVal.int i64 a0, CVal.int i64 a1, CVal.str a2, CVal.str a3, CVal.int i64 a40,
 CVal.int i64 a41, CVal.sl a42, CVal.sl a5, CVal.sl a6])]
 []).bind
 fun r =>
 r.1.asBool.bind fun b =>
 br (!b) (some (CVal.tup [CVal.int i64 0, CVal.int i64 0, CVal.bool false], []))
 ((L f_i_termSize 0 lc_i_termSize_0 [] k_i_termSize_0
 ((0, 1, a6, (↑a6.length : Int), 0, ()), ())).bind
 fun r =>
 loK r (fun r => some r) fun j p =>
 br (j == 0)
 (some
 (CVal.tup
 [CVal.int i64 (i64.wrap (p.fst.1 + 1)), CVal.int i64 p.fst.snd.1,
 CVal.bool true],
 []))
 none)
theorem go_i_termSize (a0 : Int) (a1 : Int) (a2 : List UInt8) (a3 : List UInt8) (a40 : Int) (a41 : Int) (a42 : List CVal) (a5 : List CVal) (a6 : List CVal) (R : Ret) (h : nf_i_termSize CC LL a0 a1 a2 a3 a40 a41 a42 a5 a6 = some R) : CC f_i_termSize [AVal.v
 (CVal.agg
 [CVal.int i64 a0, CVal.int i64 a1, CVal.str a2, CVal.str a3, CVal.int i64 a40,
 CVal.int i64 a41, CVal.sl a42, CVal.sl a5, CVal.sl a6])] [] = some R := fnW (by decide) rfl (Eq.trans (b := nf_i_termSize CC LL a0 a1 a2 a3 a40 a41 a42 a5 a6) (by kernel_rfl) h)
noncomputable def nf_i_headOk (C : CallT) (L : LoopT) (a0 : Int) (a1 : Int) (a2 : List UInt8) (a3 : List UInt8) (a40 : Int) (a41 : Int) (a42 : List CVal) (a5 : List CVal) (a6 : List CVal) : Option Ret :=
 ((C f_i_parts [AVal.v (CVal.int i64 a0)] []).bind fun r =>
 (CVal.asInt i64 r.1).bind fun n =>
 br (!decide ((↑a6.length : Int) = n)) (some (true, ()))
 ((C f_i_numberOk [AVal.v (CVal.int i64 a0), AVal.v (CVal.int i64 a1)] []).bind fun r =>
 r.1.asBool.bind fun b =>
 br (!b) (some (true, ()))
 ((C f_i_namesOk [AVal.v (CVal.int i64 a0), AVal.v (CVal.str a2), AVal.v (CVal.str a3)] []).bind
 fun r =>
 r.1.asBool.bind fun b =>
 br (!b) (some (true, ()))
 (br (decide (a0 = 7))
 (a6[0]?.bind fun y =>
 br (CVal.fits true 9 y)
 ((y.cell 0).bind fun c =>
 (CVal.asInt i64 c).bind fun n => some (!decide (n = 4), ()))
 none)
 (some (false, ())))))).bind
 fun y =>
 br y.1 (some (CVal.bool false, []))
 (((C f_i_hasT [AVal.v (CVal.int i64 a0)] []).bind fun r =>
 (C f_i_TyOk [AVal.v (CVal.agg [CVal.int i64 a40, CVal.int i64 a41, CVal.sl a42])] []).bind
 fun r_1 =>
 r.1.asBool.bind fun b =>
 r_1.1.asBool.bind fun b_1 =>
 br (!b == b_1) (some (true, ()))
 ((C f_i_hasT [AVal.v (CVal.int i64 a0)] []).bind fun r =>
 r.1.asBool.bind fun b =>
 br (!b)
 ((C f_i_SameTy
 [AVal.v (CVal.agg [CVal.int i64 a40, CVal.int i64 a41, CVal.sl a42]),
 AVal.v
 (CVal.agg
 [CVal.int i64 0, CVal.int i64 0, CVal.sl []])]
 []).bind
 fun r => br (!scalar r.1) none (r.1.asBool.bind fun b => some (!b, ())))
 (some (false, ())))).bind
 fun y =>
 br y.1 (some (CVal.bool false, []))
 (br (decide (a0 = 3))
 ((br (decide ((↑a5.length : Int) ≤ 2))
 ((C f_slices_ContainsFunc_Ty [AVal.v (CVal.sl a5), AVal.v (CVal.func f_i_headOk_1 [])] []).bind fun r =>
 r.1.asBool.bind fun b => some (!b, ()))
 (some (false, ()))).bind
 fun y => some (CVal.bool y.1, []))
 ((br (decide ((↑a5.length : Int) ≤ 0))
 ((C f_slices_ContainsFunc_Ty [AVal.v (CVal.sl a5), AVal.v (CVal.func f_i_headOk_1 [])] []).bind fun r =>
 r.1.asBool.bind fun b => some (!b, ()))
 (some (false, ()))).bind
 fun y => some (CVal.bool y.1, []))))
theorem go_i_headOk (a0 : Int) (a1 : Int) (a2 : List UInt8) (a3 : List UInt8) (a40 : Int) (a41 : Int) (a42 : List CVal) (a5 : List CVal) (a6 : List CVal) (R : Ret) (h : nf_i_headOk CC LL a0 a1 a2 a3 a40 a41 a42 a5 a6 = some R) : CC f_i_headOk [AVal.v
 (CVal.agg
 [CVal.int i64 a0, CVal.int i64 a1, CVal.str a2, CVal.str a3, CVal.int i64 a40,
 CVal.int i64 a41, CVal.sl a42, CVal.sl a5, CVal.sl a6])] [] = some R := fnW (by decide) rfl (Eq.trans (b := nf_i_headOk CC LL a0 a1 a2 a3 a40 a41 a42 a5 a6) (by kernel_rfl) h)
noncomputable def nf_i_TyOk (C : CallT) (L : LoopT) (a0 : Int) (a1 : Int) (a2 : List CVal) : Option Ret :=
 (C f_i_measure [AVal.v (CVal.agg [CVal.int i64 a0, CVal.int i64 a1, CVal.sl a2])] []).bind fun r =>
 r.1.asTup.bind fun y =>
 y[0]?.bind fun y =>
 r.1.asTup.bind fun y_1 =>
 y_1[1]?.bind fun y_2 =>
 r.1.asTup.bind fun y_3 =>
 y_3[2]?.bind fun y_4 =>
 (y_4.asBool.bind fun b =>
 br b
 ((CVal.asInt i64 y).bind fun n =>
 br (decide (n ≤ 6))
 ((CVal.asInt i64 y_2).bind fun n => some (decide (n ≤ 60), ()))
 (some (false, ())))
 (some (false, ()))).bind
 fun y => some (CVal.bool y.1, [])
theorem go_i_TyOk (a0 : Int) (a1 : Int) (a2 : List CVal) (R : Ret) (h : nf_i_TyOk CC LL a0 a1 a2 = some R) : CC f_i_TyOk [AVal.v (CVal.agg [CVal.int i64 a0, CVal.int i64 a1, CVal.sl a2])] [] = some R := fnW (by decide) rfl (Eq.trans (b := nf_i_TyOk CC LL a0 a1 a2) (by kernel_rfl) h)
noncomputable def nf_i_bindsS (C : CallT) (L : LoopT) (a : Int) : Option Ret :=
 (br (decide (a = 4)) (some (true, ()))
 (br (decide (a = 6)) (some (true, ()))
 (br (decide (a = 7)) (some (true, ()))
 (br (decide (a = 14)) (some (true, ())) (some (decide (a = 17), ())))))).bind
 fun y => some (CVal.bool y.1, [])
theorem go_i_bindsS (a : Int) (R : Ret) (h : nf_i_bindsS CC LL a = some R) : CC f_i_bindsS [AVal.v (CVal.int i64 a)] [] = some R := fnW (by decide) rfl (Eq.trans (b := nf_i_bindsS CC LL a) (by kernel_rfl) h)
noncomputable def nl_l_szTermS_0 (C : CallT) (L : LoopT) (x00 : List CVal) (x01 : Int) (x02 : Int) : Option (LO k_l_szTermS_0.T) :=
 br (decide (x02 < (↑x00.length : Int)))
 (br (decide (0 ≤ x02) && true)
 (x00[x02.toNat]?.bind fun y =>
 br (CVal.fits true 9 y)
 ((y.sub 0 9).bind fun y =>
 (C f_l_szTerm [AVal.v y, AVal.v (CVal.int i64 x01)] []).bind fun r =>
 (CVal.asInt i64 r.1).bind fun n =>
 br (decide (n < 0)) (some (LO.ret (CVal.int i64 (-1 : Int), [])))
 ((CVal.asInt i64 r.1).bind fun n =>
 L f_l_szTermS 0 lc_l_szTermS_0 [] k_l_szTermS_0
 ((x00, n, i64.wrap (x02 + 1), ()), ())))
 none)
 none)
 (some (LO.out 0 ((x00, x01, x02, ()), ())))
theorem gl_l_szTermS_0 (x00 : List CVal) (x01 : Int) (x02 : Int) (R : LO k_l_szTermS_0.T) (h : nl_l_szTermS_0 CC LL x00 x01 x02 = some R) : LL f_l_szTermS 0 lc_l_szTermS_0 [] k_l_szTermS_0 ((x00, x01, x02, ()), ()) = some R := loopW (Eq.trans (b := nl_l_szTermS_0 CC LL x00 x01 x02) (by kernel_rfl) h)
noncomputable def nl_s_l2Copy_0 (C : CallT) (L : LoopT) (x03 : Int) (x10 : Int) (x11 : Int) (x12 : List UInt8) (x13 : List UInt8) (x14 : Int) (x15 : Int) (x16 : List CVal) (x17 : List CVal) (x18 : List CVal) (x20 : Int) (x21 : Int) (x22 : List UInt8) (x23 : List UInt8) (x24 : Int) (x25 : Int) (x3 : List CVal) (x4 : List CVal) (x5 : List CVal) (x60 : Int) (x61 : Int) (x62 : List UInt8) (x63 : List UInt8) (x64 : Int) (x65 : Int) (x7 : List CVal) (x8 : List CVal) (x9 : List CVal) : Option (LO k_s_l2Copy_0.T) :=
 br (decide (x03 < (↑x18.length : Int)))
 (br (decide (0 ≤ x03) && true)
 (x18[x03.toNat]?.bind fun y =>
 br (CVal.fits true 9 y)
 ((y.sub 0 9).bind fun y =>
 (C f_s_l2Copy [AVal.v y] []).bind fun r =>
 br (CVal.isAggN 9 r.1)
 ((r.1.cell 0).bind fun c =>
 (r.1.cell 1).bind fun c_1 =>
 (r.1.cell 2).bind fun c_2 =>
 (r.1.cell 3).bind fun c_3 =>
 (r.1.cell 4).bind fun c_4 =>
 (r.1.cell 5).bind fun c_5 =>
 (r.1.cell 6).bind fun c_6 =>
 (r.1.cell 7).bind fun c_7 =>
 (r.1.cell 8).bind fun c_8 =>
 c_6.asSl.bind fun xs =>
 c_7.asSl.bind fun xs_1 =>
 c_8.asSl.bind fun xs_2 =>
 (CVal.asInt i64 c).bind fun n =>
 (CVal.asInt i64 c_1).bind fun n_1 =>
 c_2.asStr.bind fun s =>
 c_3.asStr.bind fun s_1 =>
 (CVal.asInt i64 c_4).bind fun n_2 =>
 (CVal.asInt i64 c_5).bind fun n_3 =>
 br
 (decide (x9.length + 1 ≤ 4294967296) && true &&
 true)
 (L f_s_l2Copy 0 lc_s_l2Copy_0 [] k_s_l2Copy_0
 (((), (), (),
 i64.wrap (x03 + 1), ()),
 (x10, x11, x12, x13, x14, x15, x16, x17, x18, ()),
 (x20, x21, x22, x23, x24, x25, (), (),
 (), ()),
 x3, x4, x5,
 (x60, x61, x62, x63, x64, x65, (), (),
 (), ()),
 x7, x8,
 x9 ++
 [CVal.agg
 [CVal.int i64 n, CVal.int i64 n_1,
 CVal.str s, CVal.str s_1, CVal.int i64 n_2,
 CVal.int i64 n_3, CVal.sl xs, CVal.sl xs_1,
 CVal.sl xs_2]],
 ()))
 none)
 none)
 none)
 none)
 (some
 (LO.out 0
 (((), (), (), x03, ()), (x10, x11, x12, x13, x14, x15, x16, x17, x18, ()),
 (x20, x21, x22, x23, x24, x25, (), (), (), ()), x3, x4, x5,
 (x60, x61, x62, x63, x64, x65, (), (), (), ()), x7, x8, x9, ())))
theorem gl_s_l2Copy_0 (x03 : Int) (x10 : Int) (x11 : Int) (x12 : List UInt8) (x13 : List UInt8) (x14 : Int) (x15 : Int) (x16 : List CVal) (x17 : List CVal) (x18 : List CVal) (x20 : Int) (x21 : Int) (x22 : List UInt8) (x23 : List UInt8) (x24 : Int) (x25 : Int) (x3 : List CVal) (x4 : List CVal) (x5 : List CVal) (x60 : Int) (x61 : Int) (x62 : List UInt8) (x63 : List UInt8) (x64 : Int) (x65 : Int) (x7 : List CVal) (x8 : List CVal) (x9 : List CVal) (R : LO k_s_l2Copy_0.T) (h : nl_s_l2Copy_0 CC LL x03 x10 x11 x12 x13 x14 x15 x16 x17 x18 x20 x21 x22 x23 x24 x25 x3 x4 x5 x60 x61 x62 x63 x64 x65 x7 x8 x9 = some R) : LL f_s_l2Copy 0 lc_s_l2Copy_0 [] k_s_l2Copy_0 (((), (), (), x03, ()), (x10, x11, x12, x13, x14, x15, x16, x17, x18, ()),
 (x20, x21, x22, x23, x24, x25, (), (), (), ()), x3, x4, x5, (x60, x61, x62, x63, x64, x65, (), (), (), ()), x7, x8,
 x9, ()) = some R := loopW (Eq.trans (b := nl_s_l2Copy_0 CC LL x03 x10 x11 x12 x13 x14 x15 x16 x17 x18 x20 x21 x22 x23 x24 x25 x3 x4 x5 x60 x61 x62 x63 x64 x65 x7 x8 x9) (by kernel_rfl) h)
noncomputable def nl_l_heldTermS_0 (C : CallT) (L : LoopT) (x00 : List CVal) (x01 : Int) (x02 : Int) : Option (LO k_l_heldTermS_0.T) :=
 br (decide (x02 < (↑x00.length : Int)))
 (br (decide (0 ≤ x02) && true)
 (x00[x02.toNat]?.bind fun y =>
 br (CVal.fits true 9 y)
 ((y.cell 0).bind fun c =>
 (CVal.asInt i64 c).bind fun n =>
 br (!decide (n = x01)) (some (LO.ret (CVal.int i64 (-1 : Int), [])))
 (br (decide (0 ≤ x02) && true)
 (x00[x02.toNat]?.bind fun y =>
 br (CVal.fits true 9 y)
 ((y.cell 1).bind fun c =>
 (CVal.asInt i64 c).bind fun n =>
 br (!decide (n = i64.wrap (x01 + 1)))
 (some (LO.ret (CVal.int i64 (-1 : Int), [])))
 (br (decide (0 ≤ x02) && true)
 (x00[x02.toNat]?.bind fun y =>
 br (CVal.fits true 9 y)
 ((y.cell 2).bind fun c =>
 (C f_l_markText
 [AVal.v
 (CVal.int i64
 (i64.wrap (i64.wrap (x01 + 1) + 1)))]
 []).bind
 fun r =>
 c.asStr.bind fun s =>
 r.1.asStr.bind fun s_1 =>
 br (!decide (s = s_1)) (some (LO.ret (CVal.int i64 (-1 : Int), [])))
 (br (decide (0 ≤ x02) && true)
 (x00[x02.toNat]?.bind fun y =>
 br (CVal.fits true 9 y)
 ((y.cell 3).bind fun c =>
 (C f_l_markText
 [AVal.v
 (CVal.int i64
 (i64.wrap
 (i64.wrap
 (i64.wrap (x01 + 1) + 1) +
 1)))]
 []).bind
 fun r =>
 c.asStr.bind fun s =>
 r.1.asStr.bind fun s_2 =>
 br (!decide (s = s_2))
 (some (LO.ret (CVal.int i64 (-1 : Int), [])))
 (br (decide (0 ≤ x02) && true)
 (x00[x02.toNat]?.bind fun y =>
 br (CVal.fits true 9 y)
 ((y.cell 4).bind fun c =>
 (CVal.asInt i64 c).bind fun n =>
 br
 (!decide
 (n =
 i64.wrap
 (i64.wrap
 (i64.wrap
 (i64.wrap
 (x01 + 1) +
 1) +
 1) +
 1)))
 (some
 (LO.ret (CVal.int i64 (-1 : Int), [])))
 (br (decide (0 ≤ x02) && true)
 (x00[x02.toNat]?.bind fun y =>
 br (CVal.fits true 9 y)
 ((y.cell 5).bind fun c =>
 (CVal.asInt i64 c).bind fun n =>
 br
 (!decide
 (n =
 i64.wrap
 (i64.wrap
 (i64.wrap
 (i64.wrap
 (i64.wrap
 (x01 +
 1) +
 1) +
 1) +
 1) +
 1)))
 (some
 (LO.ret
 (CVal.int i64 (-1 : Int),
 [])))
 (br (decide (0 ≤ x02) && true)
 (x00[x02.toNat]?.bind fun y =>
 br (CVal.fits true 9 y)
 ((y.cell 6).bind
 fun c =>
 (C f_l_heldTyS
 [AVal.v c,
 AVal.v
 (CVal.int
 i64
 (i64.wrap
 (i64.wrap
 (i64.wrap
 (i64.wrap
 (i64.wrap
 (i64.wrap
 (x01 +
 (1 :
 Int)) +
 (1 :
 Int)) +
 (1 :
 Int)) +
 (1 :
 Int)) +
 (1 :
 Int)) +
 1)))]
 []).bind
 fun r =>
 (CVal.asInt i64
 r.1).bind
 fun n =>
 br
 (decide (n < 0))
 (some
 (LO.ret
 (CVal.int
 i64
 (-1 : Int),
 [])))
 (br
 (decide
 (0 ≤
 x02) &&
 true)
 (x00[x02.toNat]?.bind
 fun y =>
 br
 (CVal.fits true
 9 y)
 ((y.cell
 (7 :
 Nat)).bind
 fun c =>
 (C f_l_heldTyS
 [AVal.v c,
 AVal.v
 r.1]
 []).bind
 fun r =>
 (CVal.asInt
 i64
 r.1).bind
 fun n =>
 br
 (decide
 (n <
 (0 :
 Int)))
 (some
 (LO.ret
 (CVal.int
 i64
 (-1 :
 Int),
 [])))
 (br
 (decide
 ((0 :
 Int) ≤
 x02) &&
 true)
 (x00[x02.toNat]?.bind
 fun
 y =>
 br
 (CVal.fits
 true
 (9 :
 Nat)
 y)
 ((y.cell
 (8 :
 Nat)).bind
 fun
 c =>
 (C
 f_l_heldTermS
 [AVal.v
 c,
 AVal.v
 r.1]
 []).bind
 fun
 r =>
 (CVal.asInt
 i64
 r.1).bind
 fun
 n =>
 br
 (decide
 (n <
 (0 :
 Int)))
 (some
 (LO.ret
 (CVal.int
 i64
 (-1 :
 Int),
 [])))
 ((CVal.asInt
 i64
 r.1).bind
 fun
 n =>
 L
 f_l_heldTermS
 (0 :
 Nat)
 lc_l_heldTermS_0
 []
 k_l_heldTermS_0
 ((x00,
 n,
 i64.wrap
 (x02 +
 (1 :
 Int)),
 ()),
 ())))
 none)
 none))
 none)
 none))
 none)
 none))
 none)
 none))
 none)
 none))
 none)
 none))
 none)
 none))
 none)
 none))
 none)
 none)
 (some (LO.out 0 ((x00, x01, x02, ()), ())))
theorem gl_l_heldTermS_0 (x00 : List CVal) (x01 : Int) (x02 : Int) (R : LO k_l_heldTermS_0.T) (h : nl_l_heldTermS_0 CC LL x00 x01 x02 = some R) : LL f_l_heldTermS 0 lc_l_heldTermS_0 [] k_l_heldTermS_0 ((x00, x01, x02, ()), ()) = some R := loopW (Eq.trans (b := nl_l_heldTermS_0 CC LL x00 x01 x02) (by kernel_rfl) h)
noncomputable def nl_l_markText_0 (C : CallT) (L : LoopT) (x00 : Int) (x01 : List UInt8) : Option (LO k_l_markText_0.T) :=
 br (decide (0 < x00))
 (br (decide (1 + x01.length ≤ 1152921504606846976))
 (L f_l_markText 0 lc_l_markText_0 [] k_l_markText_0
 ((i64.wrap (x00.tdiv 10),
 [UInt8.ofNat (IntKind.u8.wrap (i64.wrap (48 + x00.tmod 10))).toNat] ++ x01,
 ()),
 ()))
 none)
 (some (LO.out 0 ((x00, x01, ()), ())))
theorem gl_l_markText_0 (x00 : Int) (x01 : List UInt8) (R : LO k_l_markText_0.T) (h : nl_l_markText_0 CC LL x00 x01 = some R) : LL f_l_markText 0 lc_l_markText_0 [] k_l_markText_0 ((x00, x01, ()), ()) = some R := loopW (Eq.trans (b := nl_l_markText_0 CC LL x00 x01) (by kernel_rfl) h)
noncomputable def nl_i_termSize_0 (C : CallT) (L : LoopT) (x00 : Int) (x01 : Int) (x02 : List CVal) (x03 : Int) (x04 : Int) : Option (LO k_i_termSize_0.T) :=
 br (decide (x04 < x03))
 (br (decide (0 ≤ x04) && true)
 (x02[x04.toNat]?.bind fun y =>
 br (CVal.fits true 9 y)
 ((y.sub 0 9).bind fun y =>
 br (CVal.isAggN 9 y)
 ((y.cell 0).bind fun c =>
 (y.cell 1).bind fun c_1 =>
 (y.cell 2).bind fun c_2 =>
 (y.cell 3).bind fun c_3 =>
 (y.cell 4).bind fun c_4 =>
 (y.cell 5).bind fun c_5 =>
 (y.cell 6).bind fun c_6 =>
 (y.cell 7).bind fun c_7 =>
 (y.cell 8).bind fun c_8 =>
 (C f_i_termSize [AVal.v (CVal.agg [c, c_1, c_2, c_3, c_4, c_5, c_6, c_7, c_8])] []).bind
 fun r =>
 r.1.asTup.bind fun y =>
 y[0]?.bind fun y =>
 r.1.asTup.bind fun y_1 =>
 y_1[1]?.bind fun y_2 =>
 r.1.asTup.bind fun y_3 =>
 y_3[2]?.bind fun y_4 =>
 y_4.asBool.bind fun b =>
 br (!b)
 (some
 (LO.ret
 (CVal.tup
 [CVal.int i64 0, CVal.int i64 0,
 CVal.bool false],
 [])))
 ((CVal.asInt i64 y).bind fun n =>
 (CVal.asInt i64 y_2).bind fun n_1 =>
 L f_i_termSize 0 lc_i_termSize_0 [] k_i_termSize_0
 ((bif decide (x00 < n) then n else x00,
 i64.wrap (x01 + n_1), x02, x03,
 i64.wrap (x04 + 1), ()),
 ())))
 none)
 none)
 none)
 (some (LO.out 0 ((x00, x01, x02, x03, x04, ()), ())))
theorem gl_i_termSize_0 (x00 : Int) (x01 : Int) (x02 : List CVal) (x03 : Int) (x04 : Int) (R : LO k_i_termSize_0.T) (h : nl_i_termSize_0 CC LL x00 x01 x02 x03 x04 = some R) : LL f_i_termSize 0 lc_i_termSize_0 [] k_i_termSize_0 ((x00, x01, x02, x03, x04, ()), ()) = some R := loopW (Eq.trans (b := nl_i_termSize_0 CC LL x00 x01 x02 x03 x04) (by kernel_rfl) h)
noncomputable def nl_slices_EqualFunc_Ty_0 (C : CallT) (L : LoopT) (x00 : List CVal) (x01 : CVal) (x02 : List CVal) (x03 : Int) (x04 : Int) : Option (LO k_slices_EqualFunc_Ty_0.T) :=
 br (decide (x04 < x03))
 (br (decide (0 ≤ x04) && true)
 (x02[x04.toNat]?.bind fun y =>
 br (CVal.fits true 3 y)
 ((y.sub 0 3).bind fun y =>
 br (CVal.isAggN 3 y)
 ((y.cell 0).bind fun c =>
 (y.cell 1).bind fun c_1 =>
 (y.cell 2).bind fun c_2 =>
 br (decide (0 ≤ x04) && true)
 (x00[x04.toNat]?.bind fun y =>
 br (CVal.fits true 3 y)
 ((y.sub 0 3).bind fun y =>
 br (CVal.isAggN 3 y)
 ((y.cell 0).bind fun c_3 =>
 (y.cell 1).bind fun c_4 =>
 (y.cell 2).bind fun c_5 =>
 (C apId
 [AVal.v x01, AVal.v (CVal.agg [c, c_1, c_2]), AVal.v (CVal.agg [c_3, c_4, c_5])]
 []).bind
 fun r =>
 r.1.asBool.bind fun b =>
 br (!b) (some (LO.ret (CVal.bool false, [])))
 (L f_slices_EqualFunc_Ty 0 lc_slices_EqualFunc_Ty_0 []
 k_slices_EqualFunc_Ty_0
 ((x00, x01, x02, x03, i64.wrap (x04 + 1), ()),
 ())))
 none)
 none)
 none)
 none)
 none)
 none)
 (some (LO.out 0 ((x00, x01, x02, x03, x04, ()), ())))
theorem gl_slices_EqualFunc_Ty_0 (x00 : List CVal) (x01 : CVal) (x02 : List CVal) (x03 : Int) (x04 : Int) (R : LO k_slices_EqualFunc_Ty_0.T) (h : nl_slices_EqualFunc_Ty_0 CC LL x00 x01 x02 x03 x04 = some R) : LL f_slices_EqualFunc_Ty 0 lc_slices_EqualFunc_Ty_0 [] k_slices_EqualFunc_Ty_0 ((x00, x01, x02, x03, x04, ()), ()) = some R := loopW (Eq.trans (b := nl_slices_EqualFunc_Ty_0 CC LL x00 x01 x02 x03 x04) (by kernel_rfl) h)
end Go.Proofs.Ythnjnnnobipnfaa.Abs
