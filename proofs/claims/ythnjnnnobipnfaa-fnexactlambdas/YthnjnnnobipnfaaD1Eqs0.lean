/- What the functions come to in the abstract machine. -/
import Derived.Test.YthnjnnnobipnfaaD1Ann
import Derived.KernelRfl
set_option linter.unusedVariables false
set_option maxRecDepth 100000
namespace Go.Proofs.Ythnjnnnobipnfaa.Abs
open Go Go.Proofs Go.IntKind
noncomputable def nf_l_FnExactLambdas (C : CallT) (L : LoopT) (a0 : Int) (a1 : Int) (a2 : List UInt8) (a3 : List UInt8) (a40 : Int) (a41 : Int) (a42 : List CVal) (a5 : List CVal) (a6 : List CVal) : Option Ret :=
 (C f_l_szTerm
 [AVal.v
 (CVal.agg
 [CVal.int i64 a0, CVal.int i64 a1, CVal.str a2, CVal.str a3, CVal.int i64 a40,
 CVal.int i64 a41, CVal.sl a42, CVal.sl a5, CVal.sl a6]),
 AVal.v (CVal.int i64 1048576)]
 []).bind
 fun r =>
 (CVal.asInt i64 r.1).bind fun n =>
 br (decide (n < 0)) (some (CVal.bool true, []))
 ((C f_l_toTerm
 [AVal.v
 (CVal.agg
 [CVal.int i64 a0, CVal.int i64 a1, CVal.str a2, CVal.str a3, CVal.int i64 a40,
 CVal.int i64 a41, CVal.sl a42, CVal.sl a5, CVal.sl a6])]
 []).bind
 fun r =>
 (C f_s_Lambdas [AVal.v r.1] []).bind fun r =>
 (C f_l_toTerm
 [AVal.v
 (CVal.agg
 [CVal.int i64 a0, CVal.int i64 a1, CVal.str a2, CVal.str a3,
 CVal.int i64 a40, CVal.int i64 a41, CVal.sl a42, CVal.sl a5, CVal.sl a6])]
 []).bind
 fun r_1 =>
 br (CVal.isAggN 9 r_1.1)
 ((r_1.1.cell 0).bind fun c =>
 (r_1.1.cell 1).bind fun c_1 =>
 (r_1.1.cell 2).bind fun c_2 =>
 (r_1.1.cell 3).bind fun c_3 =>
 (r_1.1.cell 4).bind fun c_4 =>
 (r_1.1.cell 5).bind fun c_5 =>
 (r_1.1.cell 6).bind fun c_6 =>
 (r_1.1.cell 7).bind fun c_7 =>
 (r_1.1.cell 8).bind fun c_8 =>
 c_6.asSl.bind fun xs =>
 c_7.asSl.bind fun xs_1 =>
 c_8.asSl.bind fun xs_2 =>
 (C f_i_Lambdas
 [AVal.v
 (CVal.agg
 [c, c_1, c_2, c_3, c_4, c_5, CVal.sl xs, CVal.sl xs_1, CVal.sl xs_2])]
 []).bind
 fun r_2 =>
 br (!scalar r_2.1) none
 ((CVal.asInt i64 r_2.1).bind fun n =>
 (CVal.asInt i64 r.1).bind fun n_1 =>
 br (!decide (n = n_1)) (some (CVal.bool false, []))
 ((C f_l_toTerm
 [AVal.v
 (CVal.agg
 [CVal.int i64 a0, CVal.int i64 a1,
 CVal.str a2, CVal.str a3, CVal.int i64 a40,
 CVal.int i64 a41, CVal.sl a42, CVal.sl a5,
 CVal.sl a6])]
 []).bind
 fun r =>
 (C f_l_eqTerm
 [AVal.v
 (CVal.agg
 [c, c_1, c_2, c_3, c_4, c_5, CVal.sl xs, CVal.sl xs_1,
 CVal.sl xs_2]),
 AVal.v r.1]
 []).bind
 fun r =>
 br (!scalar r.1) none
 (r.1.asBool.bind fun b =>
 br (!b) (some (CVal.bool false, []))
 (some (CVal.bool true, []))))))
 none)
theorem go_l_FnExactLambdas (a0 : Int) (a1 : Int) (a2 : List UInt8) (a3 : List UInt8) (a40 : Int) (a41 : Int) (a42 : List CVal) (a5 : List CVal) (a6 : List CVal) (R : Ret) (h : nf_l_FnExactLambdas CC LL a0 a1 a2 a3 a40 a41 a42 a5 a6 = some R) : CC f_l_FnExactLambdas [AVal.v
 (CVal.agg
 [CVal.int i64 a0, CVal.int i64 a1, CVal.str a2, CVal.str a3, CVal.int i64 a40,
 CVal.int i64 a41, CVal.sl a42, CVal.sl a5, CVal.sl a6])] [] = some R := fnW (by decide) rfl (Eq.trans (b := nf_l_FnExactLambdas CC LL a0 a1 a2 a3 a40 a41 a42 a5 a6) (by kernel_rfl) h)
noncomputable def nf_l_eqTerm (C : CallT) (L : LoopT) (a0 : Int) (a1 : Int) (a2 : List UInt8) (a3 : List UInt8) (a40 : Int) (a41 : Int) (a42 : List CVal) (a5 : List CVal) (a6 : List CVal) (b0 : Int) (b1 : Int) (b2 : List UInt8) (b3 : List UInt8) (b40 : Int) (b41 : Int) (b42 : List CVal) (b5 : List CVal) (b6 : List CVal) : Option Ret :=
 br (!decide (a0 = b0)) (some (CVal.bool false, []))
 (br (!decide (a1 = b1)) (some (CVal.bool false, []))
 (br (!decide (a2 = b2)) (some (CVal.bool false, []))
 (br (!decide (a3 = b3)) (some (CVal.bool false, []))
 ((C f_l_eqTy
 [AVal.v (CVal.agg [CVal.int i64 a40, CVal.int i64 a41, CVal.sl a42]),
 AVal.v (CVal.agg [CVal.int i64 b40, CVal.int i64 b41, CVal.sl b42])]
 []).bind
 fun r =>
 r.1.asBool.bind fun b =>
 br (!b) (some (CVal.bool false, []))
 ((C f_l_eqTyS [AVal.v (CVal.sl a5), AVal.v (CVal.sl b5)] []).bind fun r =>
 r.1.asBool.bind fun b =>
 br (!b) (some (CVal.bool false, []))
 ((C f_l_eqTermS [AVal.v (CVal.sl a6), AVal.v (CVal.sl b6)] []).bind fun r =>
 r.1.asBool.bind fun b => br (!b) (some (CVal.bool false, [])) (some (CVal.bool true, []))))))))
theorem go_l_eqTerm (a0 : Int) (a1 : Int) (a2 : List UInt8) (a3 : List UInt8) (a40 : Int) (a41 : Int) (a42 : List CVal) (a5 : List CVal) (a6 : List CVal) (b0 : Int) (b1 : Int) (b2 : List UInt8) (b3 : List UInt8) (b40 : Int) (b41 : Int) (b42 : List CVal) (b5 : List CVal) (b6 : List CVal) (R : Ret) (h : nf_l_eqTerm CC LL a0 a1 a2 a3 a40 a41 a42 a5 a6 b0 b1 b2 b3 b40 b41 b42 b5 b6 = some R) : CC f_l_eqTerm [AVal.v
 (CVal.agg
 [CVal.int i64 a0, CVal.int i64 a1, CVal.str a2, CVal.str a3, CVal.int i64 a40,
 CVal.int i64 a41, CVal.sl a42, CVal.sl a5, CVal.sl a6]),
 AVal.v
 (CVal.agg
 [CVal.int i64 b0, CVal.int i64 b1, CVal.str b2, CVal.str b3, CVal.int i64 b40,
 CVal.int i64 b41, CVal.sl b42, CVal.sl b5, CVal.sl b6])] [] = some R := fnW (by decide) rfl (Eq.trans (b := nf_l_eqTerm CC LL a0 a1 a2 a3 a40 a41 a42 a5 a6 b0 b1 b2 b3 b40 b41 b42 b5 b6) (by kernel_rfl) h)
noncomputable def nf_l_szTyS (C : CallT) (L : LoopT) (a : List CVal) (b : Int) : Option Ret :=
 br (decide (i64.wrap (b - (↑a.length : Int)) < 0)) (some (CVal.int i64 (-1 : Int), []))
 ((L f_l_szTyS 0 lc_l_szTyS_0 [] k_l_szTyS_0
 ((a, i64.wrap (b - (↑a.length : Int)), 0, ()), ())).bind
 fun r => loK r (fun r => some r) fun j p => br (j == 0) (some (CVal.int i64 p.fst.snd.1, [])) none)
theorem go_l_szTyS (a : List CVal) (b : Int) (R : Ret) (h : nf_l_szTyS CC LL a b = some R) : CC f_l_szTyS [AVal.v (CVal.sl a), AVal.v (CVal.int i64 b)] [] = some R := fnW (by decide) rfl (Eq.trans (b := nf_l_szTyS CC LL a b) (by kernel_rfl) h)
noncomputable def nf_i_lambdas (C : CallT) (L : LoopT) (a0 : Int) (a1 : Int) (a2 : List UInt8) (a3 : List UInt8) (a40 : Int) (a41 : Int) (a42 : List CVal) (a5 : List CVal) (a6 : List CVal) : Option Ret :=
 (C f_i_allNodes
 [AVal.v
 (CVal.agg
 [CVal.int i64 a0, CVal.int i64 a1, CVal.str a2, CVal.str a3, CVal.int i64 a40,
 CVal.int i64 a41, CVal.sl a42, CVal.sl a5, CVal.sl a6])]
 []).bind
 fun r =>
 br r.1.isFlat
 (r.1.asSl.bind fun xs =>
 (C f_slices_DeleteFunc_p_node [AVal.lref 0 0, AVal.v (CVal.func f_i_lambdas_1 [])]
 [PB.arr (Md.mk true false 0) false 1 xs]).bind
 fun r => r.2[0]?.bind fun y => some (CVal.sl y, []))
 none
theorem go_i_lambdas (a0 : Int) (a1 : Int) (a2 : List UInt8) (a3 : List UInt8) (a40 : Int) (a41 : Int) (a42 : List CVal) (a5 : List CVal) (a6 : List CVal) (R : Ret) (h : nf_i_lambdas CC LL a0 a1 a2 a3 a40 a41 a42 a5 a6 = some R) : CC f_i_lambdas [AVal.v
 (CVal.agg
 [CVal.int i64 a0, CVal.int i64 a1, CVal.str a2, CVal.str a3, CVal.int i64 a40,
 CVal.int i64 a41, CVal.sl a42, CVal.sl a5, CVal.sl a6])] [] = some R := fnW (by decide) rfl (Eq.trans (b := nf_i_lambdas CC LL a0 a1 a2 a3 a40 a41 a42 a5 a6) (by kernel_rfl) h)
noncomputable def nf_i_in (C : CallT) (L : LoopT) (a : Int) (b : Int) (c : Int) : Option Ret :=
 (br (decide (b ≤ a)) (some (decide (a ≤ c), ())) (some (false, ()))).bind fun y =>
 some (CVal.bool y.1, [])
theorem go_i_in (a : Int) (b : Int) (c : Int) (R : Ret) (h : nf_i_in CC LL a b c = some R) : CC f_i_in [AVal.v (CVal.int i64 a), AVal.v (CVal.int i64 b), AVal.v (CVal.int i64 c)] [] = some R := fnW (by decide) rfl (Eq.trans (b := nf_i_in CC LL a b c) (by kernel_rfl) h)
noncomputable def nf_l_heldTyS (C : CallT) (L : LoopT) (a : List CVal) (b : Int) : Option Ret :=
 (L f_l_heldTyS 0 lc_l_heldTyS_0 [] k_l_heldTyS_0 ((a, b, 0, ()), ())).bind fun r =>
 loK r (fun r => some r) fun j p => br (j == 0) (some (CVal.int i64 p.fst.snd.1, [])) none
theorem go_l_heldTyS (a : List CVal) (b : Int) (R : Ret) (h : nf_l_heldTyS CC LL a b = some R) : CC f_l_heldTyS [AVal.v (CVal.sl a), AVal.v (CVal.int i64 b)] [] = some R := fnW (by decide) rfl (Eq.trans (b := nf_l_heldTyS CC LL a b) (by kernel_rfl) h)
noncomputable def nf_i_lambdas_1 (C : CallT) (L : LoopT) (a : CVal) : Option Ret :=
 a.asFp.bind fun y =>
 (y.1.cell (y.2 + 0 + 0)).bind fun c =>
 (CVal.asInt i64 c).bind fun n => some (CVal.bool !decide (n = 4), [])
theorem go_i_lambdas_1 (a : CVal) (R : Ret) (h : nf_i_lambdas_1 CC LL a = some R) : CC f_i_lambdas_1 [AVal.v a] [] = some R := fnW (by decide) rfl (Eq.trans (b := nf_i_lambdas_1 CC LL a) (by kernel_rfl) h)
noncomputable def nf_i_TermOk (C : CallT) (L : LoopT) (a0 : Int) (a1 : Int) (a2 : List UInt8) (a3 : List UInt8) (a40 : Int) (a41 : Int) (a42 : List CVal) (a5 : List CVal) (a6 : List CVal) : Option Ret :=
 (C f_i_termSize
 [AVal.v
 (CVal.agg
 [CVal.int i64 a0, CVal.int i64 a1, CVal.str a2, CVal.str a3, CVal.int i64 a40,
 CVal.int i64 a41, CVal.sl a42, CVal.sl a5, CVal.sl a6])]
 []).bind
 fun r =>
 r.1.asTup.bind fun y =>
 y[0]?.bind fun y =>
 r.1.asTup.bind fun y_1 =>
 y_1[1]?.bind fun y_2 =>
 r.1.asTup.bind fun y_3 =>
 y_3[2]?.bind fun y_4 =>
 (y_4.asBool.bind fun b =>
 br b
 ((CVal.asInt i64 y).bind fun n =>
 br (decide (n ≤ 24))
 ((CVal.asInt i64 y_2).bind fun n => some (decide (n ≤ 150), ()))
 (some (false, ())))
 (some (false, ()))).bind
 fun y => some (CVal.bool y.1, [])
theorem go_i_TermOk (a0 : Int) (a1 : Int) (a2 : List UInt8) (a3 : List UInt8) (a40 : Int) (a41 : Int) (a42 : List CVal) (a5 : List CVal) (a6 : List CVal) (R : Ret) (h : nf_i_TermOk CC LL a0 a1 a2 a3 a40 a41 a42 a5 a6 = some R) : CC f_i_TermOk [AVal.v
 (CVal.agg
 [CVal.int i64 a0, CVal.int i64 a1, CVal.str a2, CVal.str a3, CVal.int i64 a40,
 CVal.int i64 a41, CVal.sl a42, CVal.sl a5, CVal.sl a6])] [] = some R := fnW (by decide) rfl (Eq.trans (b := nf_i_TermOk CC LL a0 a1 a2 a3 a40 a41 a42 a5 a6) (by kernel_rfl) h)
noncomputable def nf_s_l2Of (C : CallT) (L : LoopT) (a : Int) : Option Ret :=
 br (decide (a = 1))
 (some
 (CVal.agg
 [CVal.int i64 0, CVal.int i64 1, CVal.bool false, CVal.bool false,
 CVal.bool false],
 []))
 (br (decide (a = 2))
 (some
 (CVal.agg
 [CVal.int i64 0, CVal.int i64 1, CVal.bool false, CVal.bool false,
 CVal.bool false],
 []))
 (br (decide (a = 3))
 (some
 (CVal.agg
 [CVal.int i64 0, CVal.int i64 0, CVal.bool true, CVal.bool false,
 CVal.bool false],
 []))
 (br (decide (a = 4))
 (some
 (CVal.agg
 [CVal.int i64 1, CVal.int i64 0, CVal.bool true, CVal.bool false,
 CVal.bool true],
 []))
 (br (decide (a = 5))
 (some
 (CVal.agg
 [CVal.int i64 2, CVal.int i64 0, CVal.bool false, CVal.bool false,
 CVal.bool false],
 []))
 (br (decide (a = 9))
 (some
 (CVal.agg
 [CVal.int i64 2, CVal.int i64 0, CVal.bool false, CVal.bool false,
 CVal.bool false],
 []))
 (br (decide (a = 13))
 (some
 (CVal.agg
 [CVal.int i64 2, CVal.int i64 0, CVal.bool false, CVal.bool false,
 CVal.bool false],
 []))
 (br (decide (a = 6))
 (some
 (CVal.agg
 [CVal.int i64 2, CVal.int i64 1, CVal.bool true, CVal.bool false,
 CVal.bool false],
 []))
 (br (decide (a = 7))
 (some
 (CVal.agg
 [CVal.int i64 2, CVal.int i64 1, CVal.bool true,
 CVal.bool false, CVal.bool true],
 []))
 (br (decide (a = 8))
 (some
 (CVal.agg
 [CVal.int i64 3, CVal.int i64 0, CVal.bool false,
 CVal.bool false, CVal.bool false],
 []))
 (br (decide (a = 10))
 (some
 (CVal.agg
 [CVal.int i64 1, CVal.int i64 0, CVal.bool false,
 CVal.bool false, CVal.bool false],
 []))
 (br (decide (a = 11))
 (some
 (CVal.agg
 [CVal.int i64 1, CVal.int i64 0, CVal.bool false,
 CVal.bool false, CVal.bool false],
 []))
 (br (decide (a = 12))
 (some
 (CVal.agg
 [CVal.int i64 0, CVal.int i64 0, CVal.bool false,
 CVal.bool false, CVal.bool true],
 []))
 (br (decide (a = 14))
 (some
 (CVal.agg
 [CVal.int i64 3, CVal.int i64 0, CVal.bool true,
 CVal.bool true, CVal.bool false],
 []))
 (br (decide (a = 15))
 (some
 (CVal.agg
 [CVal.int i64 2, CVal.int i64 1, CVal.bool false,
 CVal.bool false, CVal.bool false],
 []))
 (br (decide (a = 16))
 (some
 (CVal.agg
 [CVal.int i64 1, CVal.int i64 0, CVal.bool false,
 CVal.bool false, CVal.bool true],
 []))
 (br (decide (a = 17))
 (some
 (CVal.agg
 [CVal.int i64 2, CVal.int i64 0, CVal.bool true,
 CVal.bool false, CVal.bool false],
 []))
 (some
 (CVal.agg
 [CVal.int i64 (-1 : Int), CVal.int i64 0,
 CVal.bool false, CVal.bool false, CVal.bool false],
 []))))))))))))))))))
theorem go_s_l2Of (a : Int) (R : Ret) (h : nf_s_l2Of CC LL a = some R) : CC f_s_l2Of [AVal.v (CVal.int i64 a)] [] = some R := fnW (by decide) rfl (Eq.trans (b := nf_s_l2Of CC LL a) (by kernel_rfl) h)
noncomputable def nf_s_l1Look (C : CallT) (L : LoopT) (a0 : Int) (a1 : Int) (a2 : List CVal) (b : Int) (c : Int) : Option Ret :=
 (br (decide (b = 0)) (some (true, ()))
 (br (decide (60 < i64.wrap (c + 1))) (some (true, ()))
 ((C f_s_l1Args [AVal.v (CVal.int i64 a0)] []).bind fun r =>
 (CVal.asInt i64 r.1).bind fun n =>
 br (!decide ((↑a2.length : Int) = n)) (some (true, ()))
 (br (decide (a0 = 3))
 ((C f_s_l1In
 [AVal.v (CVal.int i64 a1), AVal.v (CVal.int i64 0),
 AVal.v (CVal.int i64 1)]
 []).bind
 fun r =>
 r.1.asBool.bind fun b =>
 br (!b) (some (true, ()))
 (br (!decide (a0 = 3)) (some (!decide (a1 = 0), ()))
 (some (false, ()))))
 (br (!decide (a0 = 3)) (some (!decide (a1 = 0), ()))
 (some (false, ()))))))).bind
 fun y =>
 br y.1 (some (CVal.bool false, [[CVal.int i64 (i64.wrap (c + 1))]]))
 ((L f_s_l1Look 0 lc_s_l1Look_0 [PSh.box [none]] k_s_l1Look_0
 ((b, (), (), 0, ()), (i64.wrap (c + 1), ()),
 (a0, a1, a2, ()), ())).bind
 fun r =>
 loK r (fun r => some r) fun j p =>
 br (j == 0) (some (CVal.bool true, [[CVal.int i64 p.snd.fst.1]])) none)
theorem go_s_l1Look (a0 : Int) (a1 : Int) (a2 : List CVal) (b : Int) (c : Int) (R : Ret) (h : nf_s_l1Look CC LL a0 a1 a2 b c = some R) : CC f_s_l1Look [AVal.v (CVal.agg [CVal.int i64 a0, CVal.int i64 a1, CVal.sl a2]), AVal.v (CVal.int i64 b),
 AVal.lptr 0 0] [PB.box [AVal.v (CVal.int i64 c)]] = some R := fnW (by decide) rfl (Eq.trans (b := nf_s_l1Look CC LL a0 a1 a2 b c) (by kernel_rfl) h)
noncomputable def nf_i_SameTy (C : CallT) (L : LoopT) (a0 : Int) (a1 : Int) (a2 : List CVal) (b0 : Int) (b1 : Int) (b2 : List CVal) : Option Ret :=
 (br (decide (a0 = b0))
 (br (decide (a1 = b1))
 ((C f_slices_EqualFunc_Ty [AVal.v (CVal.sl a2), AVal.v (CVal.sl b2), AVal.v (CVal.func f_i_SameTy [])] []).bind
 fun r => (bif true then r.1 else CVal.bool false).asBool.bind fun b => some (b, ()))
 (some (false, ())))
 (some (false, ()))).bind
 fun y => some (CVal.bool y.1, [])
theorem go_i_SameTy (a0 : Int) (a1 : Int) (a2 : List CVal) (b0 : Int) (b1 : Int) (b2 : List CVal) (R : Ret) (h : nf_i_SameTy CC LL a0 a1 a2 b0 b1 b2 = some R) : CC f_i_SameTy [AVal.v (CVal.agg [CVal.int i64 a0, CVal.int i64 a1, CVal.sl a2]),
 AVal.v (CVal.agg [CVal.int i64 b0, CVal.int i64 b1, CVal.sl b2])] [] = some R := fnW (by decide) rfl (Eq.trans (b := nf_i_SameTy CC LL a0 a1 a2 b0 b1 b2) (by kernel_rfl) h)
noncomputable def nf_i_measure (C : CallT) (L : LoopT) (a0 : Int) (a1 : Int) (a2 : List CVal) : Option Ret :=
 ((C f_i_tyParts [AVal.v (CVal.int i64 a0)] []).bind fun r =>
 (CVal.asInt i64 r.1).bind fun n =>
 br (!decide ((↑a2.length : Int) = n)) (some (true, ()))
 (br (!decide (a1 = 0))
 (br (!decide (a0 = 3)) (some (true, ())) (some (!decide (a1 = 1), ())))
 (some (false, ())))).bind
 fun y =>
 br y.1 (some (CVal.tup [CVal.int i64 0, CVal.int i64 0, CVal.bool false], []))
 ((L f_i_measure 0 lc_i_measure_0 [] k_i_measure_0
 ((0, 1, a2, (↑a2.length : Int), 0, ()), ())).bind
 fun r =>
 loK r (fun r => some r) fun j p =>
 br (j == 0)
 (some
 (CVal.tup
 [CVal.int i64 (i64.wrap (p.fst.1 + 1)), CVal.int i64 p.fst.snd.1,
 CVal.bool true],
 []))
 none)
theorem go_i_measure (a0 : Int) (a1 : Int) (a2 : List CVal) (R : Ret) (h : nf_i_measure CC LL a0 a1 a2 = some R) : CC f_i_measure [AVal.v (CVal.agg [CVal.int i64 a0, CVal.int i64 a1, CVal.sl a2])] [] = some R := fnW (by decide) rfl (Eq.trans (b := nf_i_measure CC LL a0 a1 a2) (by kernel_rfl) h)
noncomputable def nl_l_toTyS_0 (C : CallT) (L : LoopT) (x00 : List CVal) (x02 : Int) (x1 : List CVal) : Option (LO k_l_toTyS_0.T) :=
 br (decide (x02 < (↑x00.length : Int)))
 (br (decide (0 ≤ x02) && true)
 (x00[x02.toNat]?.bind fun y =>
 br (CVal.fits true 3 y)
 ((y.sub 0 3).bind fun y =>
 (C f_l_toTy [AVal.v y] []).bind fun r =>
 br (CVal.isAggN 3 r.1)
 ((r.1.cell 0).bind fun c =>
 (r.1.cell 1).bind fun c_1 =>
 (r.1.cell 2).bind fun c_2 =>
 c_2.asSl.bind fun xs =>
 br (decide (0 ≤ x02) && true)
 (br (decide (x02.toNat < x1.length) && true)
 ((CVal.asInt i64 c).bind fun n =>
 (CVal.asInt i64 c_1).bind fun n_1 =>
 x1[x02.toNat]?.bind fun y =>
 br (CVal.fits true 3 y)
 (L f_l_toTyS 0 lc_l_toTyS_0 [] k_l_toTyS_0
 ((x00, (), i64.wrap (x02 + 1), ()),
 x1.set x02.toNat
 (CVal.agg [CVal.int i64 n, CVal.int i64 n_1, CVal.sl xs]),
 ()))
 (br (y.isAgg && decide (3 ≤ y.cells.length))
 (L f_l_toTyS 0 lc_l_toTyS_0 [] k_l_toTyS_0
 ((x00, (), i64.wrap (x02 + 1), ()),
 x1.set x02.toNat
 (CVal.agg
 (CVal.int i64 n ::
 CVal.int i64 n_1 :: CVal.sl xs :: List.drop 3 y.cells)),
 ()))
 none))
 none)
 none)
 none)
 none)
 none)
 (some (LO.out 0 ((x00, (), x02, ()), x1, ())))
theorem gl_l_toTyS_0 (x00 : List CVal) (x02 : Int) (x1 : List CVal) (R : LO k_l_toTyS_0.T) (h : nl_l_toTyS_0 CC LL x00 x02 x1 = some R) : LL f_l_toTyS 0 lc_l_toTyS_0 [] k_l_toTyS_0 ((x00, (), x02, ()), x1, ()) = some R := loopW (Eq.trans (b := nl_l_toTyS_0 CC LL x00 x02 x1) (by kernel_rfl) h)
noncomputable def nl_i_cloneTerm_2 (C : CallT) (L : LoopT) (x02 : List CVal) (x03 : Int) (x04 : Int) (x10 : Int) (x11 : Int) (x12 : List UInt8) (x13 : List UInt8) (x14 : Int) (x15 : Int) (x2 : List CVal) (x3 : List CVal) (x4 : List CVal) (x50 : Int) (x51 : Int) (x52 : List UInt8) (x53 : List UInt8) (x54 : Int) (x55 : Int) (x6 : List CVal) (x7 : List CVal) (x8 : List CVal) : Option (LO k_i_cloneTerm_2.T) :=
 br (decide (x04 < x03))
 (br (decide (0 ≤ x04) && true)
 (x02[x04.toNat]?.bind fun y =>
 br (CVal.fits true 9 y)
 ((y.sub 0 9).bind fun y =>
 br (CVal.isAggN 9 y)
 ((y.cell 0).bind fun c =>
 (y.cell 1).bind fun c_1 =>
 (y.cell 2).bind fun c_2 =>
 (y.cell 3).bind fun c_3 =>
 (y.cell 4).bind fun c_4 =>
 (y.cell 5).bind fun c_5 =>
 (y.cell 6).bind fun c_6 =>
 (y.cell 7).bind fun c_7 =>
 (y.cell 8).bind fun c_8 =>
 (C f_i_cloneTerm [AVal.v (CVal.agg [c, c_1, c_2, c_3, c_4, c_5, c_6, c_7, c_8])] []).bind
 fun r =>
 br (CVal.isAggN 9 r.1)
 ((r.1.cell 0).bind fun c =>
 (r.1.cell 1).bind fun c_9 =>
 (r.1.cell 2).bind fun c_10 =>
 (r.1.cell 3).bind fun c_11 =>
 (r.1.cell 4).bind fun c_12 =>
 (r.1.cell 5).bind fun c_13 =>
 (r.1.cell 6).bind fun c_14 =>
 (r.1.cell 7).bind fun c_15 =>
 (r.1.cell 8).bind fun c_16 =>
 c_14.asSl.bind fun xs =>
 c_15.asSl.bind fun xs_1 =>
 c_16.asSl.bind fun xs_2 =>
 (CVal.asInt i64 c).bind fun n =>
 (CVal.asInt i64 c_9).bind fun n_1 =>
 c_10.asStr.bind fun s =>
 c_11.asStr.bind fun s_1 =>
 (CVal.asInt i64 c_12).bind fun n_2 =>
 (CVal.asInt i64 c_13).bind fun n_3 =>
 br
 (decide
 (x8.length + 1 ≤
 4294967296) &&
 true &&
 true)
 (L f_i_cloneTerm 2 lc_i_cloneTerm_2 []
 k_i_cloneTerm_2
 (((), (), x02, x03,
 i64.wrap (x04 + 1),
 ()),
 (x10, x11, x12, x13, x14, x15, (),
 (), (), ()),
 x2, x3, x4,
 (x50, x51, x52, x53, x54, x55, (),
 (), (), ()),
 x6, x7,
 x8 ++
 [CVal.agg
 [CVal.int i64 n,
 CVal.int i64 n_1,
 CVal.str s, CVal.str s_1,
 CVal.int i64 n_2,
 CVal.int i64 n_3,
 CVal.sl xs, CVal.sl xs_1,
 CVal.sl xs_2]],
 ()))
 none)
 none)
 none)
 none)
 none)
 (some
 (LO.out 2
 (((), (), x02, x03, x04, ()),
 (x10, x11, x12, x13, x14, x15, (), (), (), ()), x2, x3, x4,
 (x50, x51, x52, x53, x54, x55, (), (), (), ()), x6, x7, x8, ())))
theorem gl_i_cloneTerm_2 (x02 : List CVal) (x03 : Int) (x04 : Int) (x10 : Int) (x11 : Int) (x12 : List UInt8) (x13 : List UInt8) (x14 : Int) (x15 : Int) (x2 : List CVal) (x3 : List CVal) (x4 : List CVal) (x50 : Int) (x51 : Int) (x52 : List UInt8) (x53 : List UInt8) (x54 : Int) (x55 : Int) (x6 : List CVal) (x7 : List CVal) (x8 : List CVal) (R : LO k_i_cloneTerm_2.T) (h : nl_i_cloneTerm_2 CC LL x02 x03 x04 x10 x11 x12 x13 x14 x15 x2 x3 x4 x50 x51 x52 x53 x54 x55 x6 x7 x8 = some R) : LL f_i_cloneTerm 2 lc_i_cloneTerm_2 [] k_i_cloneTerm_2 (((), (), x02, x03, x04, ()), (x10, x11, x12, x13, x14, x15, (), (), (), ()), x2, x3, x4,
 (x50, x51, x52, x53, x54, x55, (), (), (), ()), x6, x7, x8, ()) = some R := loopW (Eq.trans (b := nl_i_cloneTerm_2 CC LL x02 x03 x04 x10 x11 x12 x13 x14 x15 x2 x3 x4 x50 x51 x52 x53 x54 x55 x6 x7 x8) (by kernel_rfl) h)
noncomputable def nl_s_l6All_0 (C : CallT) (L : LoopT) (x02 : Int) (x1 : List CVal) (x20 : Int) (x21 : Int) (x22 : List UInt8) (x23 : List UInt8) (x24 : Int) (x25 : Int) (x26 : List CVal) (x27 : List CVal) (x28 : List CVal) : Option (LO k_s_l6All_0.T) :=
 br (decide (x02 < (↑x28.length : Int)))
 (br (decide (0 ≤ x02) && true)
 (x28[x02.toNat]?.bind fun y =>
 br (CVal.fits true 9 y)
 ((y.sub 0 9).bind fun y =>
 (C f_s_l6All [AVal.v y, AVal.lref 0 0]
 [PB.arr (Md.mk false false 0) false 9 x1]).bind
 fun r =>
 r.2[0]?.bind fun y =>
 L f_s_l6All 0 lc_s_l6All_0 [PSh.arr (Md.mk false false 0) false 9] k_s_l6All_0
 (((), (), i64.wrap (x02 + 1), ()), y,
 (x20, x21, x22, x23, x24, x25, x26, x27, x28, ()), ()))
 none)
 none)
 (some
 (LO.out 0
 (((), (), x02, ()), x1, (x20, x21, x22, x23, x24, x25, x26, x27, x28, ()),
 ())))
theorem gl_s_l6All_0 (x02 : Int) (x1 : List CVal) (x20 : Int) (x21 : Int) (x22 : List UInt8) (x23 : List UInt8) (x24 : Int) (x25 : Int) (x26 : List CVal) (x27 : List CVal) (x28 : List CVal) (R : LO k_s_l6All_0.T) (h : nl_s_l6All_0 CC LL x02 x1 x20 x21 x22 x23 x24 x25 x26 x27 x28 = some R) : LL f_s_l6All 0 lc_s_l6All_0 [PSh.arr (Md.mk false false 0) false 9] k_s_l6All_0 (((), (), x02, ()), x1, (x20, x21, x22, x23, x24, x25, x26, x27, x28, ()), ()) = some R := loopW (Eq.trans (b := nl_s_l6All_0 CC LL x02 x1 x20 x21 x22 x23 x24 x25 x26 x27 x28) (by kernel_rfl) h)
noncomputable def nl_s_l2Look_0 (C : CallT) (L : LoopT) (x00 : Int) (x03 : Int) (x10 : Int) (x20 : Int) (x21 : Int) (x22 : List UInt8) (x23 : List UInt8) (x24 : Int) (x25 : Int) (x26 : List CVal) (x27 : List CVal) (x28 : List CVal) : Option (LO k_s_l2Look_0.T) :=
 br (decide (x03 < (↑x28.length : Int)))
 (br (decide (0 ≤ x03) && true)
 (x28[x03.toNat]?.bind fun y =>
 br (CVal.fits true 9 y)
 ((y.sub 0 9).bind fun y =>
 (C f_s_l2Look
 [AVal.v y, AVal.v (CVal.int i64 (i64.wrap (x00 - 1))),
 AVal.lptr 0 0]
 [PB.box [AVal.v (CVal.int i64 x10)]]).bind
 fun r =>
 r.2[0]?.bind fun y =>
 y[0]?.bind fun y =>
 r.1.asBool.bind fun b =>
 br (!b) (some (LO.ret (CVal.bool false, [[y]])))
 ((CVal.asInt i64 y).bind fun n =>
 L f_s_l2Look 0 lc_s_l2Look_0 [PSh.box [none]] k_s_l2Look_0
 ((x00, (), (), i64.wrap (x03 + 1), ()), (n, ()),
 (x20, x21, x22, x23, x24, x25, x26, x27, x28, ()), ())))
 none)
 none)
 (some
 (LO.out 0
 ((x00, (), (), x03, ()), (x10, ()),
 (x20, x21, x22, x23, x24, x25, x26, x27, x28, ()), ())))
theorem gl_s_l2Look_0 (x00 : Int) (x03 : Int) (x10 : Int) (x20 : Int) (x21 : Int) (x22 : List UInt8) (x23 : List UInt8) (x24 : Int) (x25 : Int) (x26 : List CVal) (x27 : List CVal) (x28 : List CVal) (R : LO k_s_l2Look_0.T) (h : nl_s_l2Look_0 CC LL x00 x03 x10 x20 x21 x22 x23 x24 x25 x26 x27 x28 = some R) : LL f_s_l2Look 0 lc_s_l2Look_0 [PSh.box [none]] k_s_l2Look_0 ((x00, (), (), x03, ()), (x10, ()), (x20, x21, x22, x23, x24, x25, x26, x27, x28, ()), ()) = some R := loopW (Eq.trans (b := nl_s_l2Look_0 CC LL x00 x03 x10 x20 x21 x22 x23 x24 x25 x26 x27 x28) (by kernel_rfl) h)
noncomputable def nl_s_l2Name_0 (C : CallT) (L : LoopT) (x00 : List UInt8) (x01 : Bool) (x02 : Int) : Option (LO k_s_l2Name_0.T) :=
 br (decide (x02 < (↑x00.length : Int)))
 (br (decide (0 ≤ x02))
 (x00[x02.toNat]?.bind fun y =>
 ((C f_s_l1In
 [AVal.v (CVal.int i64 (i64.wrap (↑y.toNat : Int))),
 AVal.v (CVal.int i64 97), AVal.v (CVal.int i64 122)]
 []).bind
 fun r =>
 r.1.asBool.bind fun b =>
 br (!b)
 ((C f_s_l1In
 [AVal.v (CVal.int i64 (i64.wrap (↑y.toNat : Int))),
 AVal.v (CVal.int i64 48), AVal.v (CVal.int i64 57)]
 []).bind
 fun r =>
 r.1.asBool.bind fun b =>
 br (!b)
 (br x01 (some (true, ()))
 (some (!decide (i64.wrap (↑y.toNat : Int) = 46), ())))
 (some (false, ())))
 (some (false, ()))).bind
 fun y =>
 br y.1 (some (LO.ret (CVal.bool false, [])))
 (L f_s_l2Name 0 lc_s_l2Name_0 [] k_s_l2Name_0
 ((x00, x01, i64.wrap (x02 + 1), ()), ())))
 none)
 (some (LO.out 0 ((x00, x01, x02, ()), ())))
theorem gl_s_l2Name_0 (x00 : List UInt8) (x01 : Bool) (x02 : Int) (R : LO k_s_l2Name_0.T) (h : nl_s_l2Name_0 CC LL x00 x01 x02 = some R) : LL f_s_l2Name 0 lc_s_l2Name_0 [] k_s_l2Name_0 ((x00, x01, x02, ()), ()) = some R := loopW (Eq.trans (b := nl_s_l2Name_0 CC LL x00 x01 x02) (by kernel_rfl) h)
noncomputable def nl_slices_IndexFunc_Ty_0 (C : CallT) (L : LoopT) (x00 : List CVal) (x01 : CVal) (x02 : Int) (x03 : Int) : Option (LO k_slices_IndexFunc_Ty_0.T) :=
 br (decide (x03 < x02))
 (br (decide (0 ≤ x03) && true)
 (x00[x03.toNat]?.bind fun y =>
 br (CVal.fits true 3 y)
 ((y.sub 0 3).bind fun y =>
 (C apId [AVal.v x01, AVal.v y] []).bind fun r =>
 r.1.asBool.bind fun b =>
 br b (some (LO.ret (CVal.int i64 x03, [])))
 (L f_slices_IndexFunc_Ty 0 lc_slices_IndexFunc_Ty_0 [] k_slices_IndexFunc_Ty_0
 ((x00, x01, x02, i64.wrap (x03 + 1), ()), ())))
 none)
 none)
 (some (LO.out 0 ((x00, x01, x02, x03, ()), ())))
theorem gl_slices_IndexFunc_Ty_0 (x00 : List CVal) (x01 : CVal) (x02 : Int) (x03 : Int) (R : LO k_slices_IndexFunc_Ty_0.T) (h : nl_slices_IndexFunc_Ty_0 CC LL x00 x01 x02 x03 = some R) : LL f_slices_IndexFunc_Ty 0 lc_slices_IndexFunc_Ty_0 [] k_slices_IndexFunc_Ty_0 ((x00, x01, x02, x03, ()), ()) = some R := loopW (Eq.trans (b := nl_slices_IndexFunc_Ty_0 CC LL x00 x01 x02 x03) (by kernel_rfl) h)
end Go.Proofs.Ythnjnnnobipnfaa.Abs
