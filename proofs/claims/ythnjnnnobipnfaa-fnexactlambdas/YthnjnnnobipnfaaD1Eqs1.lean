/- What the functions come to in the abstract machine. -/
import Derived.Test.YthnjnnnobipnfaaD1Ann
import Derived.KernelRfl
set_option linter.unusedVariables false
set_option maxRecDepth 100000
namespace Go.Proofs.Ythnjnnnobipnfaa.Abs
open Go Go.Proofs Go.IntKind
noncomputable def nf_l_FnExactLambdaAt (C : CallT) (L : LoopT) (a0 : Int) (a1 : Int) (a2 : List UInt8) (a3 : List UInt8) (a40 : Int) (a41 : Int) (a42 : List CVal) (a5 : List CVal) (a6 : List CVal) (b : Int) : Option Ret :=
 (C f_l_szTerm
 [AVal.v
 (CVal.agg
 [CVal.int i64 a0, CVal.int i64 a1, CVal.str a2, CVal.str a3, CVal.int i64 a40,
 CVal.int i64 a41, CVal.sl a42, CVal.sl a5, CVal.sl a6]),
 AVal.v (CVal.int i64 1048576)]
 []).bind
 fun r =>
 (CVal.asInt i64 r.1).bind fun n =>
 br (decide (n < 0)) (some (CVal.bool true, []))
 ((C f_l_toTerm
 [AVal.v
 (CVal.agg
 [CVal.int i64 a0, CVal.int i64 a1, CVal.str a2, CVal.str a3, CVal.int i64 a40,
 CVal.int i64 a41, CVal.sl a42, CVal.sl a5, CVal.sl a6])]
 []).bind
 fun r =>
 (C f_s_LambdaAt [AVal.v r.1, AVal.v (CVal.int i64 b)] []).bind fun r =>
 r.1.asTup.bind fun y =>
 y[0]?.bind fun y_1 =>
 y[1]?.bind fun y =>
 br (CVal.isAggN 9 y_1)
 ((y_1.cell 0).bind fun c =>
 (y_1.cell 1).bind fun c_1 =>
 (y_1.cell 2).bind fun c_2 =>
 (y_1.cell 3).bind fun c_3 =>
 (y_1.cell 4).bind fun c_4 =>
 (y_1.cell 5).bind fun c_5 =>
 (y_1.cell 6).bind fun c_6 =>
 (y_1.cell 7).bind fun c_7 =>
 (y_1.cell 8).bind fun c_8 =>
 c_6.asSl.bind fun xs =>
 c_7.asSl.bind fun xs_1 =>
 c_8.asSl.bind fun xs_2 =>
 br y.isFlat
 ((C f_l_toTerm
 [AVal.v
 (CVal.agg
 [CVal.int i64 a0, CVal.int i64 a1, CVal.str a2,
 CVal.str a3, CVal.int i64 a40,
 CVal.int i64 a41, CVal.sl a42, CVal.sl a5,
 CVal.sl a6])]
 []).bind
 fun r =>
 br (CVal.isAggN 9 r.1)
 ((r.1.cell 0).bind fun c_9 =>
 (r.1.cell 1).bind fun c_10 =>
 (r.1.cell 2).bind fun c_11 =>
 (r.1.cell 3).bind fun c_12 =>
 (r.1.cell 4).bind fun c_13 =>
 (r.1.cell 5).bind fun c_14 =>
 (r.1.cell 6).bind fun c_15 =>
 (r.1.cell 7).bind fun c_16 =>
 (r.1.cell 8).bind fun c_17 =>
 c_15.asSl.bind fun xs_3 =>
 c_16.asSl.bind fun xs_4 =>
 c_17.asSl.bind fun xs_5 =>
 (C f_i_LambdaAt
 [AVal.v
 (CVal.agg
 [c_9, c_10, c_11, c_12, c_13, c_14,
 CVal.sl xs_3, CVal.sl xs_4,
 CVal.sl xs_5]),
 AVal.v (CVal.int i64 b)]
 []).bind
 fun r =>
 br (!r.1.plain) none
 (r.1.asTup.bind fun y_2 =>
 y_2[0]?.bind fun y_3 =>
 y_2[1]?.bind fun y_4 =>
 br (CVal.isAggN 9 y_3)
 ((y_3.cell 0).bind
 fun c_18 =>
 (y_3.cell 1).bind
 fun c_19 =>
 (y_3.cell 2).bind
 fun c_20 =>
 (y_3.cell 3).bind
 fun c_21 =>
 (y_3.cell 4).bind
 fun c_22 =>
 (y_3.cell 5).bind
 fun c_23 =>
 (y_3.cell
 6).bind
 fun c_24 =>
 (y_3.cell
 7).bind
 fun c_25 =>
 (y_3.cell
 (8 :
 Nat)).bind
 fun c_26 =>
 c_24.asSl.bind
 fun xs_6 =>
 c_25.asSl.bind
 fun xs_7 =>
 c_26.asSl.bind
 fun xs_8 =>
 br
 y_4.isFlat
 (((C
 f_l_eqTerm
 [AVal.v
 (CVal.agg
 [c_18,
 c_19,
 c_20,
 c_21,
 c_22,
 c_23,
 CVal.sl
 xs_6,
 CVal.sl
 xs_7,
 CVal.sl
 xs_8]),
 AVal.v
 (CVal.agg
 [c,
 c_1,
 c_2,
 c_3,
 c_4,
 c_5,
 CVal.sl
 xs,
 CVal.sl
 xs_1,
 CVal.sl
 xs_2])]
 []).bind
 fun
 r =>
 br
 (!scalar
 r.1)
 none
 (r.1.asBool.bind
 fun
 b =>
 br
 (!b)
 (some
 (true,
 ()))
 (y_4.asBool.bind
 fun
 b =>
 y.asBool.bind
 fun
 b_1 =>
 some
 (!b ==
 b_1,
 ())))).bind
 fun
 y_5 =>
 br y_5.1
 (some
 (CVal.bool
 false,
 []))
 ((C
 f_l_toTerm
 [AVal.v
 (CVal.agg
 [CVal.int
 i64
 a0,
 CVal.int
 i64
 a1,
 CVal.str
 a2,
 CVal.str
 a3,
 CVal.int
 i64
 a40,
 CVal.int
 i64
 a41,
 CVal.sl
 a42,
 CVal.sl
 a5,
 CVal.sl
 a6])]
 []).bind
 fun
 r =>
 (C
 f_l_eqTerm
 [AVal.v
 (CVal.agg
 [c_9,
 c_10,
 c_11,
 c_12,
 c_13,
 c_14,
 CVal.sl
 xs_3,
 CVal.sl
 xs_4,
 CVal.sl
 xs_5]),
 AVal.v
 r.1]
 []).bind
 fun
 r =>
 br
 (!scalar
 r.1)
 none
 (r.1.asBool.bind
 fun
 b_1 =>
 br
 (!b_1)
 (some
 (CVal.bool
 false,
 []))
 ((C
 f_l_markTerm
 [AVal.agg
 [AVal.v
 c_9,
 AVal.v
 c_10,
 AVal.v
 c_11,
 AVal.v
 c_12,
 AVal.v
 c_13,
 AVal.v
 c_14,
 AVal.lref
 (0 :
 Nat)
 (0 :
 Nat),
 AVal.lref
 (1 :
 Nat)
 (0 :
 Nat),
 AVal.lref
 (2 :
 Nat)
 (0 :
 Nat)],
 AVal.v
 (CVal.int
 i64
 (1 :
 Int))]
 [PB.arr
 (Md.mk
 true
 true
 (0 :
 Nat))
 false
 (3 :
 Nat)
 xs_3,
 PB.arr
 (Md.mk
 true
 true
 (0 :
 Nat))
 false
 (3 :
 Nat)
 xs_4,
 PB.arr
 (Md.mk
 true
 true
 (0 :
 Nat))
 false
 (9 :
 Nat)
 xs_5]).bind
 fun
 r =>
 r.2[(0 :
 Nat)]?.bind
 fun
 y_6 =>
 r.2[(1 :
 Nat)]?.bind
 fun
 y_7 =>
 r.2[(2 :
 Nat)]?.bind
 fun
 y_8 =>
 ((CVal.asInt
 i64
 r.1).bind
 fun
 n =>
 br
 (decide
 (n <
 (0 :
 Int)))
 (some
 (true,
 ()))
 ((C
 f_l_eqTerm
 [AVal.v
 (CVal.agg
 [c_18,
 c_19,
 c_20,
 c_21,
 c_22,
 c_23,
 CVal.sl
 xs_6,
 CVal.sl
 xs_7,
 CVal.sl
 xs_8]),
 AVal.v
 (CVal.agg
 [c,
 c_1,
 c_2,
 c_3,
 c_4,
 c_5,
 CVal.sl
 xs,
 CVal.sl
 xs_1,
 CVal.sl
 xs_2])]
 []).bind
 fun
 r =>
 br
 (!scalar
 r.1)
 none
 (r.1.asBool.bind
 fun
 b =>
 br
 (!b)
 (some
 (true,
 ()))
 (y_4.asBool.bind
 fun
 b =>
 y.asBool.bind
 fun
 b_2 =>
 some
 (!b ==
 b_2,
 ()))))).bind
 fun
 y_9 =>
 br
 y_9.1
 (some
 (CVal.bool
 false,
 []))
 ((C
 f_l_markTerm
 [AVal.agg
 [AVal.v
 c_18,
 AVal.v
 c_19,
 AVal.v
 c_20,
 AVal.v
 c_21,
 AVal.v
 c_22,
 AVal.v
 c_23,
 AVal.lref
 (0 :
 Nat)
 (0 :
 Nat),
 AVal.lref
 (1 :
 Nat)
 (0 :
 Nat),
 AVal.lref
 (2 :
 Nat)
 (0 :
 Nat)],
 AVal.v
 (CVal.int
 i64
 (1 :
 Int))]
 [PB.arr
 (Md.mk
 true
 true
 (0 :
 Nat))
 false
 (3 :
 Nat)
 xs_6,
 PB.arr
 (Md.mk
 true
 true
 (0 :
 Nat))
 false
 (3 :
 Nat)
 xs_7,
 PB.arr
 (Md.mk
 true
 true
 (0 :
 Nat))
 false
 (9 :
 Nat)
 xs_8]).bind
 fun
 r =>
 r.2[(0 :
 Nat)]?.bind
 fun
 y_10 =>
 r.2[(1 :
 Nat)]?.bind
 fun
 y_11 =>
 r.2[(2 :
 Nat)]?.bind
 fun
 y_12 =>
 (C
 f_l_heldTerm
 [AVal.v
 (CVal.agg
 [c_18,
 c_19,
 c_20,
 c_21,
 c_22,
 c_23,
 CVal.sl
 y_10,
 CVal.sl
 y_11,
 CVal.sl
 y_12]),
 AVal.v
 (CVal.int
 i64
 (1 :
 Int))]
 []).bind
 fun
 r_1 =>
 br
 (!scalar
 r_1.1)
 none
 ((CVal.asInt
 i64
 r_1.1).bind
 fun
 n =>
 br
 (decide
 (n <
 (0 :
 Int)))
 (some
 (CVal.bool
 false,
 []))
 ((CVal.asInt
 i64
 r_1.1).bind
 fun
 n =>
 (CVal.asInt
 i64
 r.1).bind
 fun
 n_1 =>
 br
 (!decide
 (n =
 n_1))
 (some
 (CVal.bool
 false,
 []))
 ((C
 f_l_toTerm
 [AVal.v
 (CVal.agg
 [CVal.int
 i64
 a0,
 CVal.int
 i64
 a1,
 CVal.str
 a2,
 CVal.str
 a3,
 CVal.int
 i64
 a40,
 CVal.int
 i64
 a41,
 CVal.sl
 a42,
 CVal.sl
 a5,
 CVal.sl
 a6])]
 []).bind
 fun
 r_2 =>
 (C
 f_i_LambdaAt
 [AVal.v
 r_2.1,
 AVal.v
 (CVal.int
 i64
 b)]
 []).bind
 fun
 r_3 =>
 r_3.1.asTup.bind
 fun
 y_13 =>
 y_13[(0 :
 Nat)]?.bind
 fun
 y_14 =>
 y_13[(1 :
 Nat)]?.bind
 fun
 y_15 =>
 br
 (CVal.isAggN
 (9 :
 Nat)
 y_14)
 ((y_14.cell
 (0 :
 Nat)).bind
 fun
 c_27 =>
 (y_14.cell
 (1 :
 Nat)).bind
 fun
 c_28 =>
 (y_14.cell
 (2 :
 Nat)).bind
 fun
 c_29 =>
 (y_14.cell
 (3 :
 Nat)).bind
 fun
 c_30 =>
 (y_14.cell
 (4 :
 Nat)).bind
 fun
 c_31 =>
 (y_14.cell
 (5 :
 Nat)).bind
 fun
 c_32 =>
 (y_14.cell
 (6 :
 Nat)).bind
 fun
 c_33 =>
 (y_14.cell
 (7 :
 Nat)).bind
 fun
 c_34 =>
 (y_14.cell
 (8 :
 Nat)).bind
 fun
 c_35 =>
 c_33.asSl.bind
 fun
 xs_9 =>
 c_34.asSl.bind
 fun
 xs_10 =>
 c_35.asSl.bind
 fun
 xs_11 =>
 br
 y_15.isFlat
 (((C
 f_l_eqTerm
 [AVal.v
 (CVal.agg
 [c_27,
 c_28,
 c_29,
 c_30,
 c_31,
 c_32,
 CVal.sl
 xs_9,
 CVal.sl
 xs_10,
 CVal.sl
 xs_11]),
 AVal.v
 (CVal.agg
 [c,
 c_1,
 c_2,
 c_3,
 c_4,
 c_5,
 CVal.sl
 xs,
 CVal.sl
 xs_1,
 CVal.sl
 xs_2])]
 []).bind
 fun
 r =>
 br
 (!scalar
 r.1)
 none
 (r.1.asBool.bind
 fun
 b =>
 br
 (!b)
 (some
 (true,
 ()))
 (y_15.asBool.bind
 fun
 b =>
 y.asBool.bind
 fun
 b_2 =>
 some
 (!b ==
 b_2,
 ())))).bind
 fun
 y =>
 br
 y.1
 (some
 (CVal.bool
 false,
 []))
 ((C
 f_l_heldTerm
 [AVal.v
 (CVal.agg
 [c_18,
 c_19,
 c_20,
 c_21,
 c_22,
 c_23,
 CVal.sl
 y_10,
 CVal.sl
 y_11,
 CVal.sl
 y_12]),
 AVal.v
 (CVal.int
 i64
 (1 :
 Int))]
 []).bind
 fun
 r_4 =>
 br
 (!scalar
 r_4.1)
 none
 ((CVal.asInt
 i64
 r_4.1).bind
 fun
 n =>
 br
 (decide
 (n <
 (0 :
 Int)))
 (some
 (CVal.bool
 false,
 []))
 ((CVal.asInt
 i64
 r_4.1).bind
 fun
 n =>
 (CVal.asInt
 i64
 r.1).bind
 fun
 n_2 =>
 br
 (!decide
 (n =
 n_2))
 (some
 (CVal.bool
 false,
 []))
 (some
 (CVal.bool
 true,
 []))))))
 none)
 none))))))))
 none)
 none))
 none)
 none)
 none)
theorem go_l_FnExactLambdaAt (a0 : Int) (a1 : Int) (a2 : List UInt8) (a3 : List UInt8) (a40 : Int) (a41 : Int) (a42 : List CVal) (a5 : List CVal) (a6 : List CVal) (b : Int) (R : Ret) (h : nf_l_FnExactLambdaAt CC LL a0 a1 a2 a3 a40 a41 a42 a5 a6 b = some R) : CC f_l_FnExactLambdaAt [AVal.v
 (CVal.agg
 [CVal.int i64 a0, CVal.int i64 a1, CVal.str a2, CVal.str a3, CVal.int i64 a40,
 CVal.int i64 a41, CVal.sl a42, CVal.sl a5, CVal.sl a6]),
 AVal.v (CVal.int i64 b)] [] = some R := fnW (by decide) rfl (Eq.trans (b := nf_l_FnExactLambdaAt CC LL a0 a1 a2 a3 a40 a41 a42 a5 a6 b) (by kernel_rfl) h)
noncomputable def nf_s_LambdaAt (C : CallT) (L : LoopT) (a0 : Int) (a1 : Int) (a2 : List UInt8) (a3 : List UInt8) (a40 : Int) (a41 : Int) (a42 : List CVal) (a5 : List CVal) (a6 : List CVal) (b : Int) : Option Ret :=
 (C f_s_l6Lambdas
 [AVal.v
 (CVal.agg
 [CVal.int i64 a0, CVal.int i64 a1, CVal.str a2, CVal.str a3, CVal.int i64 a40,
 CVal.int i64 a41, CVal.sl a42, CVal.sl a5, CVal.sl a6])]
 []).bind
 fun r =>
 r.1.asSl.bind fun xs =>
 (C f_s_l1In
 [AVal.v (CVal.int i64 b), AVal.v (CVal.int i64 0),
 AVal.v (CVal.int i64 (i64.wrap ((↑xs.length : Int) - 1)))]
 []).bind
 fun r_1 =>
 r_1.1.asBool.bind fun b_1 =>
 br (!b_1)
 (some
 (CVal.tup
 [CVal.agg
 [CVal.int i64 0, CVal.int i64 0, CVal.str [], CVal.str [],
 CVal.int i64 0, CVal.int i64 0, CVal.sl [], CVal.sl [],
 CVal.sl []],
 CVal.bool false],
 []))
 (br (decide (0 ≤ b) && true)
 (r.1.asSl.bind fun xs =>
 xs[b.toNat]?.bind fun y =>
 br (CVal.fits true 9 y)
 ((y.sub 0 9).bind fun y =>
 (C f_s_l2Copy [AVal.v y] []).bind fun r =>
 br (CVal.isAggN 9 r.1)
 ((r.1.cell 0).bind fun c =>
 (r.1.cell 1).bind fun c_1 =>
 (r.1.cell 2).bind fun c_2 =>
 (r.1.cell 3).bind fun c_3 =>
 (r.1.cell 4).bind fun c_4 =>
 (r.1.cell 5).bind fun c_5 =>
 (r.1.cell 6).bind fun c_6 =>
 (r.1.cell 7).bind fun c_7 =>
 (r.1.cell 8).bind fun c_8 =>
 c_6.asSl.bind fun xs =>
 c_7.asSl.bind fun xs_1 =>
 c_8.asSl.bind fun xs_2 =>
 (CVal.asInt i64 c).bind fun n =>
 (CVal.asInt i64 c_1).bind fun n_1 =>
 c_2.asStr.bind fun s =>
 c_3.asStr.bind fun s_1 =>
 (CVal.asInt i64 c_4).bind fun n_2 =>
 (CVal.asInt i64 c_5).bind fun n_3 =>
 some
 (CVal.tup
 [CVal.agg
 [CVal.int i64 n, CVal.int i64 n_1,
 CVal.str s, CVal.str s_1,
 CVal.int i64 n_2,
 CVal.int i64 n_3, CVal.sl xs,
 CVal.sl xs_1, CVal.sl xs_2],
 CVal.bool true],
 []))
 none)
 none)
 none)
theorem go_s_LambdaAt (a0 : Int) (a1 : Int) (a2 : List UInt8) (a3 : List UInt8) (a40 : Int) (a41 : Int) (a42 : List CVal) (a5 : List CVal) (a6 : List CVal) (b : Int) (R : Ret) (h : nf_s_LambdaAt CC LL a0 a1 a2 a3 a40 a41 a42 a5 a6 b = some R) : CC f_s_LambdaAt [AVal.v
 (CVal.agg
 [CVal.int i64 a0, CVal.int i64 a1, CVal.str a2, CVal.str a3, CVal.int i64 a40,
 CVal.int i64 a41, CVal.sl a42, CVal.sl a5, CVal.sl a6]),
 AVal.v (CVal.int i64 b)] [] = some R := fnW (by decide) rfl (Eq.trans (b := nf_s_LambdaAt CC LL a0 a1 a2 a3 a40 a41 a42 a5 a6 b) (by kernel_rfl) h)
noncomputable def nf_l_szTermS (C : CallT) (L : LoopT) (a : List CVal) (b : Int) : Option Ret :=
 br (decide (i64.wrap (b - (↑a.length : Int)) < 0)) (some (CVal.int i64 (-1 : Int), []))
 ((L f_l_szTermS 0 lc_l_szTermS_0 [] k_l_szTermS_0
 ((a, i64.wrap (b - (↑a.length : Int)), 0, ()), ())).bind
 fun r => loK r (fun r => some r) fun j p => br (j == 0) (some (CVal.int i64 p.fst.snd.1, [])) none)
theorem go_l_szTermS (a : List CVal) (b : Int) (R : Ret) (h : nf_l_szTermS CC LL a b = some R) : CC f_l_szTermS [AVal.v (CVal.sl a), AVal.v (CVal.int i64 b)] [] = some R := fnW (by decide) rfl (Eq.trans (b := nf_l_szTermS CC LL a b) (by kernel_rfl) h)
noncomputable def nf_l_eqTy (C : CallT) (L : LoopT) (a0 : Int) (a1 : Int) (a2 : List CVal) (b0 : Int) (b1 : Int) (b2 : List CVal) : Option Ret :=
 br (!decide (a0 = b0)) (some (CVal.bool false, []))
 (br (!decide (a1 = b1)) (some (CVal.bool false, []))
 ((C f_l_eqTyS [AVal.v (CVal.sl a2), AVal.v (CVal.sl b2)] []).bind fun r =>
 r.1.asBool.bind fun b => br (!b) (some (CVal.bool false, [])) (some (CVal.bool true, []))))
theorem go_l_eqTy (a0 : Int) (a1 : Int) (a2 : List CVal) (b0 : Int) (b1 : Int) (b2 : List CVal) (R : Ret) (h : nf_l_eqTy CC LL a0 a1 a2 b0 b1 b2 = some R) : CC f_l_eqTy [AVal.v (CVal.agg [CVal.int i64 a0, CVal.int i64 a1, CVal.sl a2]),
 AVal.v (CVal.agg [CVal.int i64 b0, CVal.int i64 b1, CVal.sl b2])] [] = some R := fnW (by decide) rfl (Eq.trans (b := nf_l_eqTy CC LL a0 a1 a2 b0 b1 b2) (by kernel_rfl) h)
noncomputable def nf_i_cloneTerm (C : CallT) (L : LoopT) (a0 : Int) (a1 : Int) (a2 : List UInt8) (a3 : List UInt8) (a40 : Int) (a41 : Int) (a42 : List CVal) (a5 : List CVal) (a6 : List CVal) : Option Ret :=
 (C f_i_cloneTy [AVal.v (CVal.agg [CVal.int i64 a40, CVal.int i64 a41, CVal.sl a42])] []).bind fun r =>
 br (CVal.isAggN 3 r.1)
 ((r.1.cell 0).bind fun c =>
 (r.1.cell 1).bind fun c_1 =>
 (r.1.cell 2).bind fun c_2 =>
 c_2.asSl.bind fun xs =>
 (CVal.asInt i64 c).bind fun n =>
 (CVal.asInt i64 c_1).bind fun n_1 =>
 (L f_i_cloneTerm 0 lc_i_cloneTerm_0 [] k_i_cloneTerm_0
 (((), (), (), a5, (↑a5.length : Int), 0, ()),
 (a0, a1, a2, a3, a40, a41, a42, a5, a6, ()),
 (0, 0, [], [], 0, 0, (), (), (),
 ()),
 [], [], [], (a0, a1, a2, a3, n, n_1, (), (), (), ()), xs, [],
 [], ())).bind
 fun r =>
 loK r (fun r => some r) fun j p =>
 br (j == 0)
 ((L f_i_cloneTerm 2 lc_i_cloneTerm_2 [] k_i_cloneTerm_2
 (((), (), p.snd.fst.snd.snd.snd.snd.snd.snd.snd.snd.1,
 (↑(List.length p.snd.fst.snd.snd.snd.snd.snd.snd.snd.snd.1) : Int), 0,
 ()),
 (p.snd.snd.fst.1, p.snd.snd.fst.snd.1, p.snd.snd.fst.snd.snd.1,
 p.snd.snd.fst.snd.snd.snd.1, p.snd.snd.fst.snd.snd.snd.snd.1,
 p.snd.snd.fst.snd.snd.snd.snd.snd.1, (), (), (), ()),
 p.snd.snd.snd.1, p.snd.snd.snd.snd.1, p.snd.snd.snd.snd.snd.1,
 (p.snd.snd.snd.snd.snd.snd.fst.1, p.snd.snd.snd.snd.snd.snd.fst.snd.1,
 p.snd.snd.snd.snd.snd.snd.fst.snd.snd.1, p.snd.snd.snd.snd.snd.snd.fst.snd.snd.snd.1,
 p.snd.snd.snd.snd.snd.snd.fst.snd.snd.snd.snd.1,
 p.snd.snd.snd.snd.snd.snd.fst.snd.snd.snd.snd.snd.1, (), (), (),
 ()),
 p.snd.snd.snd.snd.snd.snd.snd.1, p.snd.snd.snd.snd.snd.snd.snd.snd.1,
 p.snd.snd.snd.snd.snd.snd.snd.snd.snd.1, ())).bind
 fun r =>
 loK r (fun r => some r) fun j p =>
 br (j == 2)
 (some
 (CVal.agg
 [CVal.int i64 p.snd.snd.snd.snd.snd.fst.1,
 CVal.int i64 p.snd.snd.snd.snd.snd.fst.snd.1,
 CVal.str p.snd.snd.snd.snd.snd.fst.snd.snd.1,
 CVal.str p.snd.snd.snd.snd.snd.fst.snd.snd.snd.1,
 CVal.int i64 p.snd.snd.snd.snd.snd.fst.snd.snd.snd.snd.1,
 CVal.int i64 p.snd.snd.snd.snd.snd.fst.snd.snd.snd.snd.snd.1,
 CVal.sl p.snd.snd.snd.snd.snd.snd.1, CVal.sl p.snd.snd.snd.snd.snd.snd.snd.1,
 CVal.sl p.snd.snd.snd.snd.snd.snd.snd.snd.1],
 []))
 none)
 none)
 none
theorem go_i_cloneTerm (a0 : Int) (a1 : Int) (a2 : List UInt8) (a3 : List UInt8) (a40 : Int) (a41 : Int) (a42 : List CVal) (a5 : List CVal) (a6 : List CVal) (R : Ret) (h : nf_i_cloneTerm CC LL a0 a1 a2 a3 a40 a41 a42 a5 a6 = some R) : CC f_i_cloneTerm [AVal.v
 (CVal.agg
 [CVal.int i64 a0, CVal.int i64 a1, CVal.str a2, CVal.str a3, CVal.int i64 a40,
 CVal.int i64 a41, CVal.sl a42, CVal.sl a5, CVal.sl a6])] [] = some R := fnW (by decide) rfl (Eq.trans (b := nf_i_cloneTerm CC LL a0 a1 a2 a3 a40 a41 a42 a5 a6) (by kernel_rfl) h)
noncomputable def nf_l_heldTermS (C : CallT) (L : LoopT) (a : List CVal) (b : Int) : Option Ret :=
 (L f_l_heldTermS 0 lc_l_heldTermS_0 [] k_l_heldTermS_0 ((a, b, 0, ()), ())).bind
 fun r => loK r (fun r => some r) fun j p => br (j == 0) (some (CVal.int i64 p.fst.snd.1, [])) none
theorem go_l_heldTermS (a : List CVal) (b : Int) (R : Ret) (h : nf_l_heldTermS CC LL a b = some R) : CC f_l_heldTermS [AVal.v (CVal.sl a), AVal.v (CVal.int i64 b)] [] = some R := fnW (by decide) rfl (Eq.trans (b := nf_l_heldTermS CC LL a b) (by kernel_rfl) h)
noncomputable def nf_s_l1Copy (C : CallT) (L : LoopT) (a0 : Int) (a1 : Int) (a2 : List CVal) : Option Ret :=
 (L f_s_l1Copy 0 lc_s_l1Copy_0 [] k_s_l1Copy_0
 (((), (), (), 0, ()), (a0, a1, a2, ()),
 (0, 0, (), ()), [], (a0, a1, (), ()), [], ())).bind
 fun r =>
 loK r (fun r => some r) fun j p =>
 br (j == 0)
 (some
 (CVal.agg
 [CVal.int i64 p.snd.snd.snd.snd.fst.1, CVal.int i64 p.snd.snd.snd.snd.fst.snd.1,
 CVal.sl p.snd.snd.snd.snd.snd.1],
 []))
 none
theorem go_s_l1Copy (a0 : Int) (a1 : Int) (a2 : List CVal) (R : Ret) (h : nf_s_l1Copy CC LL a0 a1 a2 = some R) : CC f_s_l1Copy [AVal.v (CVal.agg [CVal.int i64 a0, CVal.int i64 a1, CVal.sl a2])] [] = some R := fnW (by decide) rfl (Eq.trans (b := nf_s_l1Copy CC LL a0 a1 a2) (by kernel_rfl) h)
noncomputable def nf_i_numbered (C : CallT) (L : LoopT) (a0 : Int) (a1 : Int) (a2 : List UInt8) (a3 : List UInt8) (a40 : Int) (a41 : Int) (a42 : List CVal) (a5 : List CVal) (a6 : List CVal) (b : Int) : Option Ret :=
 (L f_i_numbered 0 lc_i_numbered_0 [PSh.box [none]] k_i_numbered_0
 (((), (), a6, (↑a6.length : Int), 0, ()),
 (i64.wrap (b + 1), ()),
 (a0, a1, a2, a3, a40, a41, a42, a5, a6, b, (), ()), [], ())).bind
 fun r =>
 loK r (fun r => some r) fun j p =>
 br (j == 0)
 (some
 ((CVal.agg
 [CVal.int i64 p.snd.snd.fst.1, CVal.int i64 p.snd.snd.fst.snd.1,
 CVal.str p.snd.snd.fst.snd.snd.1, CVal.str p.snd.snd.fst.snd.snd.snd.1,
 CVal.int i64 p.snd.snd.fst.snd.snd.snd.snd.1,
 CVal.int i64 p.snd.snd.fst.snd.snd.snd.snd.snd.1,
 CVal.sl p.snd.snd.fst.snd.snd.snd.snd.snd.snd.1, CVal.sl p.snd.snd.fst.snd.snd.snd.snd.snd.snd.snd.1,
 CVal.sl p.snd.snd.fst.snd.snd.snd.snd.snd.snd.snd.snd.1,
 CVal.int i64 p.snd.snd.fst.snd.snd.snd.snd.snd.snd.snd.snd.snd.1, CVal.sl p.snd.snd.snd.1]).fp
 0,
 [[CVal.int i64 p.snd.fst.1]]))
 none
theorem go_i_numbered (a0 : Int) (a1 : Int) (a2 : List UInt8) (a3 : List UInt8) (a40 : Int) (a41 : Int) (a42 : List CVal) (a5 : List CVal) (a6 : List CVal) (b : Int) (R : Ret) (h : nf_i_numbered CC LL a0 a1 a2 a3 a40 a41 a42 a5 a6 b = some R) : CC f_i_numbered [AVal.v
 (CVal.agg
 [CVal.int i64 a0, CVal.int i64 a1, CVal.str a2, CVal.str a3, CVal.int i64 a40,
 CVal.int i64 a41, CVal.sl a42, CVal.sl a5, CVal.sl a6]),
 AVal.lptr 0 0] [PB.box [AVal.v (CVal.int i64 b)]] = some R := fnW (by decide) rfl (Eq.trans (b := nf_i_numbered CC LL a0 a1 a2 a3 a40 a41 a42 a5 a6 b) (by kernel_rfl) h)
noncomputable def nf_s_l2Number (C : CallT) (L : LoopT) (a0 : Int) (a1 : Int) (a2 : List UInt8) (a3 : List UInt8) (a40 : Int) (a41 : Int) (a42 : List CVal) (a5 : List CVal) (a6 : List CVal) : Option Ret :=
 br (decide (a0 = 1))
 ((C f_s_l1In
 [AVal.v (CVal.int i64 a1), AVal.v (CVal.int i64 (-1000000 : Int)),
 AVal.v (CVal.int i64 1000000)]
 []).bind
 fun r => some (r.1, []))
 (br (decide (a0 = 2))
 ((C f_s_l1In
 [AVal.v (CVal.int i64 a1), AVal.v (CVal.int i64 0),
 AVal.v (CVal.int i64 1)]
 []).bind
 fun r => some (r.1, []))
 (br (decide (a0 = 6))
 ((C f_s_l1In
 [AVal.v (CVal.int i64 a1), AVal.v (CVal.int i64 0),
 AVal.v (CVal.int i64 2)]
 []).bind
 fun r => some (r.1, []))
 (br (decide (a0 = 7))
 ((C f_s_l1In
 [AVal.v (CVal.int i64 a1), AVal.v (CVal.int i64 0),
 AVal.v (CVal.int i64 2)]
 []).bind
 fun r => some (r.1, []))
 (br (decide (a0 = 15))
 ((C f_s_l1In
 [AVal.v (CVal.int i64 a1), AVal.v (CVal.int i64 1),
 AVal.v (CVal.int i64 5)]
 []).bind
 fun r => some (r.1, []))
 (some (CVal.bool (decide (a1 = 0)), []))))))
theorem go_s_l2Number (a0 : Int) (a1 : Int) (a2 : List UInt8) (a3 : List UInt8) (a40 : Int) (a41 : Int) (a42 : List CVal) (a5 : List CVal) (a6 : List CVal) (R : Ret) (h : nf_s_l2Number CC LL a0 a1 a2 a3 a40 a41 a42 a5 a6 = some R) : CC f_s_l2Number [AVal.v
 (CVal.agg
 [CVal.int i64 a0, CVal.int i64 a1, CVal.str a2, CVal.str a3, CVal.int i64 a40,
 CVal.int i64 a41, CVal.sl a42, CVal.sl a5, CVal.sl a6])] [] = some R := fnW (by decide) rfl (Eq.trans (b := nf_s_l2Number CC LL a0 a1 a2 a3 a40 a41 a42 a5 a6) (by kernel_rfl) h)
noncomputable def nf_i_parts (C : CallT) (L : LoopT) (a : Int) : Option Ret :=
 br (decide (a = 1)) (some (CVal.int i64 0, []))
 (br (decide (a = 2)) (some (CVal.int i64 0, []))
 (br (decide (a = 3)) (some (CVal.int i64 0, []))
 (br (decide (a = 12)) (some (CVal.int i64 0, []))
 (br (decide (a = 4)) (some (CVal.int i64 1, []))
 (br (decide (a = 10)) (some (CVal.int i64 1, []))
 (br (decide (a = 11)) (some (CVal.int i64 1, []))
 (br (decide (a = 16)) (some (CVal.int i64 1, []))
 (br (decide (a = 5)) (some (CVal.int i64 2, []))
 (br (decide (a = 6)) (some (CVal.int i64 2, []))
 (br (decide (a = 7)) (some (CVal.int i64 2, []))
 (br (decide (a = 9)) (some (CVal.int i64 2, []))
 (br (decide (a = 13)) (some (CVal.int i64 2, []))
 (br (decide (a = 15)) (some (CVal.int i64 2, []))
 (br (decide (a = 17)) (some (CVal.int i64 2, []))
 (br (decide (a = 8)) (some (CVal.int i64 3, []))
 (br (decide (a = 14)) (some (CVal.int i64 3, []))
 (some (CVal.int i64 (-1 : Int), []))))))))))))))))))
theorem go_i_parts (a : Int) (R : Ret) (h : nf_i_parts CC LL a = some R) : CC f_i_parts [AVal.v (CVal.int i64 a)] [] = some R := fnW (by decide) rfl (Eq.trans (b := nf_i_parts CC LL a) (by kernel_rfl) h)
noncomputable def nf_slices_ContainsFunc_Ty (C : CallT) (L : LoopT) (a : List CVal) (b : CVal) : Option Ret :=
 (C f_slices_IndexFunc_Ty [AVal.v (CVal.sl a), AVal.v b] []).bind fun r =>
 (CVal.asInt i64 r.1).bind fun n => some (CVal.bool (decide (0 ≤ n)), [])
theorem go_slices_ContainsFunc_Ty (a : List CVal) (b : CVal) (R : Ret) (h : nf_slices_ContainsFunc_Ty CC LL a b = some R) : CC f_slices_ContainsFunc_Ty [AVal.v (CVal.sl a), AVal.v b] [] = some R := fnW (by decide) rfl (Eq.trans (b := nf_slices_ContainsFunc_Ty CC LL a b) (by kernel_rfl) h)
noncomputable def nf_slices_EqualFunc_Ty (C : CallT) (L : LoopT) (a : List CVal) (b : List CVal) (c : CVal) : Option Ret :=
 br (!decide ((↑a.length : Int) = (↑b.length : Int))) (some (CVal.bool false, []))
 ((L f_slices_EqualFunc_Ty 0 lc_slices_EqualFunc_Ty_0 [] k_slices_EqualFunc_Ty_0
 ((b, c, a, (↑a.length : Int), 0, ()), ())).bind
 fun r => loK r (fun r => some r) fun j p => br (j == 0) (some (CVal.bool true, [])) none)
theorem go_slices_EqualFunc_Ty (a : List CVal) (b : List CVal) (c : CVal) (R : Ret) (h : nf_slices_EqualFunc_Ty CC LL a b c = some R) : CC f_slices_EqualFunc_Ty [AVal.v (CVal.sl a), AVal.v (CVal.sl b), AVal.v c] [] = some R := fnW (by decide) rfl (Eq.trans (b := nf_slices_EqualFunc_Ty CC LL a b c) (by kernel_rfl) h)
noncomputable def nl_l_toTermS_0 (C : CallT) (L : LoopT) (x00 : List CVal) (x02 : Int) (x1 : List CVal) : Option (LO k_l_toTermS_0.T) :=
 br (decide (x02 < (↑x00.length : Int)))
 (br (decide (0 ≤ x02) && true)
 (x00[x02.toNat]?.bind fun y =>
 br (CVal.fits true 9 y)
 ((y.sub 0 9).bind fun y =>
 (C f_l_toTerm [AVal.v y] []).bind fun r =>
 br (CVal.isAggN 9 r.1)
 ((r.1.cell 0).bind fun c =>
 (r.1.cell 1).bind fun c_1 =>
 (r.1.cell 2).bind fun c_2 =>
 (r.1.cell 3).bind fun c_3 =>
 (r.1.cell 4).bind fun c_4 =>
 (r.1.cell 5).bind fun c_5 =>
 (r.1.cell 6).bind fun c_6 =>
 (r.1.cell 7).bind fun c_7 =>
 (r.1.cell 8).bind fun c_8 =>
 c_6.asSl.bind fun xs =>
 c_7.asSl.bind fun xs_1 =>
 c_8.asSl.bind fun xs_2 =>
 br (decide (0 ≤ x02) && true)
 (br (decide (x02.toNat < x1.length) && true)
 ((CVal.asInt i64 c).bind fun n =>
 (CVal.asInt i64 c_1).bind fun n_1 =>
 c_2.asStr.bind fun s =>
 c_3.asStr.bind fun s_1 =>
 (CVal.asInt i64 c_4).bind fun n_2 =>
 (CVal.asInt i64 c_5).bind fun n_3 =>
 x1[x02.toNat]?.bind fun y =>
 br (CVal.fits true 9 y)
 (L f_l_toTermS 0 lc_l_toTermS_0 [] k_l_toTermS_0
 ((x00, (), i64.wrap (x02 + 1),
 ()),
 x1.set x02.toNat
 (CVal.agg
 [CVal.int i64 n, CVal.int i64 n_1,
 CVal.str s, CVal.str s_1, CVal.int i64 n_2,
 CVal.int i64 n_3, CVal.sl xs, CVal.sl xs_1,
 CVal.sl xs_2]),
 ()))
 (br (y.isAgg && decide (9 ≤ y.cells.length))
 (L f_l_toTermS 0 lc_l_toTermS_0 [] k_l_toTermS_0
 ((x00, (), i64.wrap (x02 + 1),
 ()),
 x1.set x02.toNat
 (CVal.agg
 (CVal.int i64 n ::
 CVal.int i64 n_1 ::
 CVal.str s ::
 CVal.str s_1 ::
 CVal.int i64 n_2 ::
 CVal.int i64 n_3 ::
 CVal.sl xs ::
 CVal.sl xs_1 ::
 CVal.sl xs_2 ::
 List.drop 9 y.cells)),
 ()))
 none))
 none)
 none)
 none)
 none)
 none)
 (some (LO.out 0 ((x00, (), x02, ()), x1, ())))
theorem gl_l_toTermS_0 (x00 : List CVal) (x02 : Int) (x1 : List CVal) (R : LO k_l_toTermS_0.T) (h : nl_l_toTermS_0 CC LL x00 x02 x1 = some R) : LL f_l_toTermS 0 lc_l_toTermS_0 [] k_l_toTermS_0 ((x00, (), x02, ()), x1, ()) = some R := loopW (Eq.trans (b := nl_l_toTermS_0 CC LL x00 x02 x1) (by kernel_rfl) h)
noncomputable def nl_i_cloneTerm_0 (C : CallT) (L : LoopT) (x03 : List CVal) (x04 : Int) (x05 : Int) (x10 : Int) (x11 : Int) (x12 : List UInt8) (x13 : List UInt8) (x14 : Int) (x15 : Int) (x16 : List CVal) (x17 : List CVal) (x18 : List CVal) (x20 : Int) (x21 : Int) (x22 : List UInt8) (x23 : List UInt8) (x24 : Int) (x25 : Int) (x3 : List CVal) (x4 : List CVal) (x5 : List CVal) (x60 : Int) (x61 : Int) (x62 : List UInt8) (x63 : List UInt8) (x64 : Int) (x65 : Int) (x7 : List CVal) (x8 : List CVal) (x9 : List CVal) : Option (LO k_i_cloneTerm_0.T) :=
 br (decide (x05 < x04))
 (br (decide (0 ≤ x05) && true)
 (x03[x05.toNat]?.bind fun y =>
 br (CVal.fits true 3 y)
 ((y.sub 0 3).bind fun y =>
 br (CVal.isAggN 3 y)
 ((y.cell 0).bind fun c =>
 (y.cell 1).bind fun c_1 =>
 (y.cell 2).bind fun c_2 =>
 (C f_i_cloneTy [AVal.v (CVal.agg [c, c_1, c_2])] []).bind fun r =>
 br (CVal.isAggN 3 r.1)
 ((r.1.cell 0).bind fun c =>
 (r.1.cell 1).bind fun c_3 =>
 (r.1.cell 2).bind fun c_4 =>
 c_4.asSl.bind fun xs =>
 (CVal.asInt i64 c).bind fun n =>
 (CVal.asInt i64 c_3).bind fun n_1 =>
 br (decide (x8.length + 1 ≤ 4294967296) && true && true)
 (L f_i_cloneTerm 0 lc_i_cloneTerm_0 [] k_i_cloneTerm_0
 (((), (), (), x03, x04,
 i64.wrap (x05 + 1), ()),
 (x10, x11, x12, x13, x14, x15, x16, x17, x18, ()),
 (x20, x21, x22, x23, x24, x25, (), (), (), ()),
 x3, x4, x5,
 (x60, x61, x62, x63, x64, x65, (), (), (), ()),
 x7,
 x8 ++ [CVal.agg [CVal.int i64 n, CVal.int i64 n_1, CVal.sl xs]],
 x9, ()))
 none)
 none)
 none)
 none)
 none)
 (some
 (LO.out 0
 (((), (), (), x03, x04, x05, ()),
 (x10, x11, x12, x13, x14, x15, x16, x17, x18, ()),
 (x20, x21, x22, x23, x24, x25, (), (), (), ()), x3, x4, x5,
 (x60, x61, x62, x63, x64, x65, (), (), (), ()), x7, x8, x9, ())))
theorem gl_i_cloneTerm_0 (x03 : List CVal) (x04 : Int) (x05 : Int) (x10 : Int) (x11 : Int) (x12 : List UInt8) (x13 : List UInt8) (x14 : Int) (x15 : Int) (x16 : List CVal) (x17 : List CVal) (x18 : List CVal) (x20 : Int) (x21 : Int) (x22 : List UInt8) (x23 : List UInt8) (x24 : Int) (x25 : Int) (x3 : List CVal) (x4 : List CVal) (x5 : List CVal) (x60 : Int) (x61 : Int) (x62 : List UInt8) (x63 : List UInt8) (x64 : Int) (x65 : Int) (x7 : List CVal) (x8 : List CVal) (x9 : List CVal) (R : LO k_i_cloneTerm_0.T) (h : nl_i_cloneTerm_0 CC LL x03 x04 x05 x10 x11 x12 x13 x14 x15 x16 x17 x18 x20 x21 x22 x23 x24 x25 x3 x4 x5 x60 x61 x62 x63 x64 x65 x7 x8 x9 = some R) : LL f_i_cloneTerm 0 lc_i_cloneTerm_0 [] k_i_cloneTerm_0 (((), (), (), x03, x04, x05, ()), (x10, x11, x12, x13, x14, x15, x16, x17, x18, ()),
 (x20, x21, x22, x23, x24, x25, (), (), (), ()), x3, x4, x5, (x60, x61, x62, x63, x64, x65, (), (), (), ()), x7, x8,
 x9, ()) = some R := loopW (Eq.trans (b := nl_i_cloneTerm_0 CC LL x03 x04 x05 x10 x11 x12 x13 x14 x15 x16 x17 x18 x20 x21 x22 x23 x24 x25 x3 x4 x5 x60 x61 x62 x63 x64 x65 x7 x8 x9) (by kernel_rfl) h)
noncomputable def nl_slices_DeleteFunc_p_node_0 (C : CallT) (L : LoopT) (x01 : CVal) (x02 : Int) (x03 : Int) (x1 : List CVal) : Option (LO k_slices_DeleteFunc_p_node_0.T) :=
 br (decide (x03 < (↑x1.length : Int)))
 (br (decide (0 ≤ x03) && true)
 (br (decide (x03.toNat < x1.length) && true)
 (x1[x03.toNat]?.bind fun y =>
 (y.cell 0).bind fun c =>
 br c.isPt
 ((C apId [AVal.v x01, AVal.v c] []).bind fun r =>
 r.1.asBool.bind fun b =>
 br (!b)
 (br (decide (0 ≤ x02) && true)
 (br (decide (x02.toNat < x1.length) && true)
 (br (c.isFlat && true)
 (br c.isPt
 (x1[x02.toNat]?.bind fun y =>
 br (CVal.fits false 1 c)
 (br (CVal.fits false 1 y)
 (L f_slices_DeleteFunc_p_node 0 lc_slices_DeleteFunc_p_node_0
 [PSh.arr (Md.mk true false 0) false 1] k_slices_DeleteFunc_p_node_0
 (((), x01, i64.wrap (x02 + 1),
 i64.wrap (x03 + 1), ()),
 x1.set x02.toNat c, ()))
 (br (y.isAgg && decide (0 + c.cells.length ≤ y.cells.length))
 (L f_slices_DeleteFunc_p_node 0 lc_slices_DeleteFunc_p_node_0
 [PSh.arr (Md.mk true false 0) false 1] k_slices_DeleteFunc_p_node_0
 (((), x01, i64.wrap (x02 + 1),
 i64.wrap (x03 + 1), ()),
 x1.set x02.toNat (CVal.agg (splice y.cells 0 c.cells)), ()))
 none))
 none)
 none)
 none)
 none)
 none)
 (L f_slices_DeleteFunc_p_node 0 lc_slices_DeleteFunc_p_node_0
 [PSh.arr (Md.mk true false 0) false 1] k_slices_DeleteFunc_p_node_0
 (((), x01, x02, i64.wrap (x03 + 1), ()), x1, ())))
 none)
 none)
 none)
 (some (LO.out 0 (((), x01, x02, x03, ()), x1, ())))
theorem gl_slices_DeleteFunc_p_node_0 (x01 : CVal) (x02 : Int) (x03 : Int) (x1 : List CVal) (R : LO k_slices_DeleteFunc_p_node_0.T) (h : nl_slices_DeleteFunc_p_node_0 CC LL x01 x02 x03 x1 = some R) : LL f_slices_DeleteFunc_p_node 0 lc_slices_DeleteFunc_p_node_0 [PSh.arr (Md.mk true false 0) false 1] k_slices_DeleteFunc_p_node_0 (((), x01, x02, x03, ()), x1, ()) = some R := loopW (Eq.trans (b := nl_slices_DeleteFunc_p_node_0 CC LL x01 x02 x03 x1) (by kernel_rfl) h)
noncomputable def nl_i_numbered_0 (C : CallT) (L : LoopT) (x02 : List CVal) (x03 : Int) (x04 : Int) (x10 : Int) (x20 : Int) (x21 : Int) (x22 : List UInt8) (x23 : List UInt8) (x24 : Int) (x25 : Int) (x26 : List CVal) (x27 : List CVal) (x28 : List CVal) (x29 : Int) (x3 : List CVal) : Option (LO k_i_numbered_0.T) :=
 br (decide (x04 < x03))
 (br (decide (0 ≤ x04) && true)
 (x02[x04.toNat]?.bind fun y =>
 br (CVal.fits true 9 y)
 ((y.sub 0 9).bind fun y =>
 br (CVal.isAggN 9 y)
 ((y.cell 0).bind fun c =>
 (y.cell 1).bind fun c_1 =>
 (y.cell 2).bind fun c_2 =>
 (y.cell 3).bind fun c_3 =>
 (y.cell 4).bind fun c_4 =>
 (y.cell 5).bind fun c_5 =>
 (y.cell 6).bind fun c_6 =>
 (y.cell 7).bind fun c_7 =>
 (y.cell 8).bind fun c_8 =>
 (C f_i_numbered
 [AVal.v (CVal.agg [c, c_1, c_2, c_3, c_4, c_5, c_6, c_7, c_8]),
 AVal.lptr 0 0]
 [PB.box [AVal.v (CVal.int i64 x10)]]).bind
 fun r =>
 r.2[0]?.bind fun y =>
 y[0]?.bind fun y =>
 br (r.1.isFlat && true)
 (br r.1.isPt
 (br
 ([bif false then CVal.agg [r.1] else [r.1].headD CVal.nilp].all
 (CVal.fitsF false [CK.any]))
 (br (decide (x3.length + 1 ≤ 4294967296) && true && true)
 ((CVal.asInt i64 y).bind fun n =>
 L f_i_numbered 0 lc_i_numbered_0 [PSh.box [none]] k_i_numbered_0
 (((), (), x02, x03, i64.wrap (x04 + 1),
 ()),
 (n, ()),
 (x20, x21, x22, x23, x24, x25, x26, x27, x28, x29, (),
 ()),
 x3 ++ [bif false then CVal.agg [r.1] else [r.1].headD CVal.nilp],
 ()))
 none)
 none)
 none)
 none)
 none)
 none)
 none)
 (some
 (LO.out 0
 (((), (), x02, x03, x04, ()), (x10, ()),
 (x20, x21, x22, x23, x24, x25, x26, x27, x28, x29, (), ()), x3, ())))
theorem gl_i_numbered_0 (x02 : List CVal) (x03 : Int) (x04 : Int) (x10 : Int) (x20 : Int) (x21 : Int) (x22 : List UInt8) (x23 : List UInt8) (x24 : Int) (x25 : Int) (x26 : List CVal) (x27 : List CVal) (x28 : List CVal) (x29 : Int) (x3 : List CVal) (R : LO k_i_numbered_0.T) (h : nl_i_numbered_0 CC LL x02 x03 x04 x10 x20 x21 x22 x23 x24 x25 x26 x27 x28 x29 x3 = some R) : LL f_i_numbered 0 lc_i_numbered_0 [PSh.box [none]] k_i_numbered_0 (((), (), x02, x03, x04, ()), (x10, ()), (x20, x21, x22, x23, x24, x25, x26, x27, x28, x29, (), ()), x3, ()) = some R := loopW (Eq.trans (b := nl_i_numbered_0 CC LL x02 x03 x04 x10 x20 x21 x22 x23 x24 x25 x26 x27 x28 x29 x3) (by kernel_rfl) h)
noncomputable def nl_s_SameTy_0 (C : CallT) (L : LoopT) (x02 : Int) (x10 : Int) (x11 : Int) (x12 : List CVal) (x20 : Int) (x21 : Int) (x22 : List CVal) : Option (LO k_s_SameTy_0.T) :=
 br (decide (x02 < (↑x12.length : Int)))
 (br (decide (0 ≤ x02) && true)
 (x12[x02.toNat]?.bind fun y =>
 br (CVal.fits true 3 y)
 ((y.sub 0 3).bind fun y =>
 br (decide (0 ≤ x02) && true)
 (x22[x02.toNat]?.bind fun y_1 =>
 br (CVal.fits true 3 y_1)
 ((y_1.sub 0 3).bind fun y_2 =>
 (C f_s_SameTy [AVal.v y, AVal.v y_2] []).bind fun r =>
 r.1.asBool.bind fun b =>
 br (!b) (some (LO.ret (CVal.bool false, [])))
 (L f_s_SameTy 0 lc_s_SameTy_0 [] k_s_SameTy_0
 (((), (), i64.wrap (x02 + 1), ()),
 (x10, x11, x12, ()), (x20, x21, x22, ()), ())))
 none)
 none)
 none)
 none)
 (some
 (LO.out 0
 (((), (), x02, ()), (x10, x11, x12, ()), (x20, x21, x22, ()),
 ())))
theorem gl_s_SameTy_0 (x02 : Int) (x10 : Int) (x11 : Int) (x12 : List CVal) (x20 : Int) (x21 : Int) (x22 : List CVal) (R : LO k_s_SameTy_0.T) (h : nl_s_SameTy_0 CC LL x02 x10 x11 x12 x20 x21 x22 = some R) : LL f_s_SameTy 0 lc_s_SameTy_0 [] k_s_SameTy_0 (((), (), x02, ()), (x10, x11, x12, ()), (x20, x21, x22, ()), ()) = some R := loopW (Eq.trans (b := nl_s_SameTy_0 CC LL x02 x10 x11 x12 x20 x21 x22) (by kernel_rfl) h)
end Go.Proofs.Ythnjnnnobipnfaa.Abs
