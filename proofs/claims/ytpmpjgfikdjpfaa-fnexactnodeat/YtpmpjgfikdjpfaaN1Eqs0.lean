/- What the functions come to in the abstract machine. -/
import Derived.Test.YtpmpjgfikdjpfaaN1Ann
import Derived.KernelRfl
set_option linter.unusedVariables false
set_option maxRecDepth 100000
namespace Go.Proofs.Ytpmpjgfikdjpfaa.Abs
open Go Go.Proofs Go.IntKind
noncomputable def nf_l_FnExactNodeAt (C : CallT) (L : LoopT) (a0 : Int) (a1 : Int) (a2 : List UInt8) (a3 : List UInt8) (a40 : Int) (a41 : Int) (a42 : List CVal) (a5 : List CVal) (a6 : List CVal) (b : Int) : Option Ret :=
 (C f_l_szTerm
 [AVal.v
 (CVal.agg
 [CVal.int i64 a0, CVal.int i64 a1, CVal.str a2, CVal.str a3, CVal.int i64 a40,
 CVal.int i64 a41, CVal.sl a42, CVal.sl a5, CVal.sl a6]),
 AVal.v (CVal.int i64 1048576)]
 []).bind
 fun r =>
 (CVal.asInt i64 r.1).bind fun n =>
 br (decide (n < 0)) (some (CVal.bool true, []))
 ((C f_l_toTerm
 [AVal.v
 (CVal.agg
 [CVal.int i64 a0, CVal.int i64 a1, CVal.str a2, CVal.str a3, CVal.int i64 a40,
 CVal.int i64 a41, CVal.sl a42, CVal.sl a5, CVal.sl a6])]
 []).bind
 fun r =>
 (C f_s_NodeAt [AVal.v r.1, AVal.v (CVal.int i64 b)] []).bind fun r =>
 r.1.asTup.bind fun y =>
 y[0]?.bind fun y_1 =>
 y[1]?.bind fun y =>
 br (CVal.isAggN 9 y_1)
 ((y_1.cell 0).bind fun c =>
 (y_1.cell 1).bind fun c_1 =>
 (y_1.cell 2).bind fun c_2 =>
 (y_1.cell 3).bind fun c_3 =>
 (y_1.cell 4).bind fun c_4 =>
 (y_1.cell 5).bind fun c_5 =>
 (y_1.cell 6).bind fun c_6 =>
 (y_1.cell 7).bind fun c_7 =>
 (y_1.cell 8).bind fun c_8 =>
 c_6.asSl.bind fun xs =>
 c_7.asSl.bind fun xs_1 =>
 c_8.asSl.bind fun xs_2 =>
 br y.isFlat
 ((C f_l_toTerm
 [AVal.v
 (CVal.agg
 [CVal.int i64 a0, CVal.int i64 a1, CVal.str a2,
 CVal.str a3, CVal.int i64 a40,
 CVal.int i64 a41, CVal.sl a42, CVal.sl a5,
 CVal.sl a6])]
 []).bind
 fun r =>
 br (CVal.isAggN 9 r.1)
 ((r.1.cell 0).bind fun c_9 =>
 (r.1.cell 1).bind fun c_10 =>
 (r.1.cell 2).bind fun c_11 =>
 (r.1.cell 3).bind fun c_12 =>
 (r.1.cell 4).bind fun c_13 =>
 (r.1.cell 5).bind fun c_14 =>
 (r.1.cell 6).bind fun c_15 =>
 (r.1.cell 7).bind fun c_16 =>
 (r.1.cell 8).bind fun c_17 =>
 c_15.asSl.bind fun xs_3 =>
 c_16.asSl.bind fun xs_4 =>
 c_17.asSl.bind fun xs_5 =>
 (C f_i_NodeAt
 [AVal.v
 (CVal.agg
 [c_9, c_10, c_11, c_12, c_13, c_14,
 CVal.sl xs_3, CVal.sl xs_4,
 CVal.sl xs_5]),
 AVal.v (CVal.int i64 b)]
 []).bind
 fun r =>
 br (!r.1.plain) none
 (r.1.asTup.bind fun y_2 =>
 y_2[0]?.bind fun y_3 =>
 y_2[1]?.bind fun y_4 =>
 br (CVal.isAggN 9 y_3)
 ((y_3.cell 0).bind
 fun c_18 =>
 (y_3.cell 1).bind
 fun c_19 =>
 (y_3.cell 2).bind
 fun c_20 =>
 (y_3.cell 3).bind
 fun c_21 =>
 (y_3.cell 4).bind
 fun c_22 =>
 (y_3.cell 5).bind
 fun c_23 =>
 (y_3.cell
 6).bind
 fun c_24 =>
 (y_3.cell
 7).bind
 fun c_25 =>
 (y_3.cell
 (8 :
 Nat)).bind
 fun c_26 =>
 c_24.asSl.bind
 fun xs_6 =>
 c_25.asSl.bind
 fun xs_7 =>
 c_26.asSl.bind
 fun xs_8 =>
 br
 y_4.isFlat
 (((C
 f_l_eqTerm
 [AVal.v
 (CVal.agg
 [c_18,
 c_19,
 c_20,
 c_21,
 c_22,
 c_23,
 CVal.sl
 xs_6,
 CVal.sl
 xs_7,
 CVal.sl
 xs_8]),
 AVal.v
 (CVal.agg
 [c,
 c_1,
 c_2,
 c_3,
 c_4,
 c_5,
 CVal.sl
 xs,
 CVal.sl
 xs_1,
 CVal.sl
 xs_2])]
 []).bind
 fun
 r =>
 br
 (!scalar
 r.1)
 none
 (r.1.asBool.bind
 fun
 b =>
 br
 (!b)
 (some
 (true,
 ()))
 (y_4.asBool.bind
 fun
 b =>
 y.asBool.bind
 fun
 b_1 =>
 some
 (!b ==
 b_1,
 ())))).bind
 fun
 y_5 =>
 br y_5.1
 (some
 (CVal.bool
 false,
 []))
 ((C
 f_l_toTerm
 [AVal.v
 (CVal.agg
 [CVal.int
 i64
 a0,
 CVal.int
 i64
 a1,
 CVal.str
 a2,
 CVal.str
 a3,
 CVal.int
 i64
 a40,
 CVal.int
 i64
 a41,
 CVal.sl
 a42,
 CVal.sl
 a5,
 CVal.sl
 a6])]
 []).bind
 fun
 r =>
 (C
 f_l_eqTerm
 [AVal.v
 (CVal.agg
 [c_9,
 c_10,
 c_11,
 c_12,
 c_13,
 c_14,
 CVal.sl
 xs_3,
 CVal.sl
 xs_4,
 CVal.sl
 xs_5]),
 AVal.v
 r.1]
 []).bind
 fun
 r =>
 br
 (!scalar
 r.1)
 none
 (r.1.asBool.bind
 fun
 b_1 =>
 br
 (!b_1)
 (some
 (CVal.bool
 false,
 []))
 ((C
 f_l_markTerm
 [AVal.agg
 [AVal.v
 c_9,
 AVal.v
 c_10,
 AVal.v
 c_11,
 AVal.v
 c_12,
 AVal.v
 c_13,
 AVal.v
 c_14,
 AVal.lref
 (0 :
 Nat)
 (0 :
 Nat),
 AVal.lref
 (1 :
 Nat)
 (0 :
 Nat),
 AVal.lref
 (2 :
 Nat)
 (0 :
 Nat)],
 AVal.v
 (CVal.int
 i64
 (1 :
 Int))]
 [PB.arr
 (Md.mk
 true
 true
 (0 :
 Nat))
 false
 (3 :
 Nat)
 xs_3,
 PB.arr
 (Md.mk
 true
 true
 (0 :
 Nat))
 false
 (3 :
 Nat)
 xs_4,
 PB.arr
 (Md.mk
 true
 true
 (0 :
 Nat))
 false
 (9 :
 Nat)
 xs_5]).bind
 fun
 r =>
 r.2[(0 :
 Nat)]?.bind
 fun
 y_6 =>
 r.2[(1 :
 Nat)]?.bind
 fun
 y_7 =>
 r.2[(2 :
 Nat)]?.bind
 fun
 y_8 =>
 ((CVal.asInt
 i64
 r.1).bind
 fun
 n =>
 br
 (decide
 (n <
 (0 :
 Int)))
 (some
 (true,
 ()))
 ((C
 f_l_eqTerm
 [AVal.v
 (CVal.agg
 [c_18,
 c_19,
 c_20,
 c_21,
 c_22,
 c_23,
 CVal.sl
 xs_6,
 CVal.sl
 xs_7,
 CVal.sl
 xs_8]),
 AVal.v
 (CVal.agg
 [c,
 c_1,
 c_2,
 c_3,
 c_4,
 c_5,
 CVal.sl
 xs,
 CVal.sl
 xs_1,
 CVal.sl
 xs_2])]
 []).bind
 fun
 r =>
 br
 (!scalar
 r.1)
 none
 (r.1.asBool.bind
 fun
 b =>
 br
 (!b)
 (some
 (true,
 ()))
 (y_4.asBool.bind
 fun
 b =>
 y.asBool.bind
 fun
 b_2 =>
 some
 (!b ==
 b_2,
 ()))))).bind
 fun
 y_9 =>
 br
 y_9.1
 (some
 (CVal.bool
 false,
 []))
 ((C
 f_l_markTerm
 [AVal.agg
 [AVal.v
 c_18,
 AVal.v
 c_19,
 AVal.v
 c_20,
 AVal.v
 c_21,
 AVal.v
 c_22,
 AVal.v
 c_23,
 AVal.lref
 (0 :
 Nat)
 (0 :
 Nat),
 AVal.lref
 (1 :
 Nat)
 (0 :
 Nat),
 AVal.lref
 (2 :
 Nat)
 (0 :
 Nat)],
 AVal.v
 (CVal.int
 i64
 (1 :
 Int))]
 [PB.arr
 (Md.mk
 true
 true
 (0 :
 Nat))
 false
 (3 :
 Nat)
 xs_6,
 PB.arr
 (Md.mk
 true
 true
 (0 :
 Nat))
 false
 (3 :
 Nat)
 xs_7,
 PB.arr
 (Md.mk
 true
 true
 (0 :
 Nat))
 false
 (9 :
 Nat)
 xs_8]).bind
 fun
 r =>
 r.2[(0 :
 Nat)]?.bind
 fun
 y_10 =>
 r.2[(1 :
 Nat)]?.bind
 fun
 y_11 =>
 r.2[(2 :
 Nat)]?.bind
 fun
 y_12 =>
 (C
 f_l_heldTerm
 [AVal.v
 (CVal.agg
 [c_18,
 c_19,
 c_20,
 c_21,
 c_22,
 c_23,
 CVal.sl
 y_10,
 CVal.sl
 y_11,
 CVal.sl
 y_12]),
 AVal.v
 (CVal.int
 i64
 (1 :
 Int))]
 []).bind
 fun
 r_1 =>
 br
 (!scalar
 r_1.1)
 none
 ((CVal.asInt
 i64
 r_1.1).bind
 fun
 n =>
 br
 (decide
 (n <
 (0 :
 Int)))
 (some
 (CVal.bool
 false,
 []))
 ((CVal.asInt
 i64
 r_1.1).bind
 fun
 n =>
 (CVal.asInt
 i64
 r.1).bind
 fun
 n_1 =>
 br
 (!decide
 (n =
 n_1))
 (some
 (CVal.bool
 false,
 []))
 ((C
 f_l_toTerm
 [AVal.v
 (CVal.agg
 [CVal.int
 i64
 a0,
 CVal.int
 i64
 a1,
 CVal.str
 a2,
 CVal.str
 a3,
 CVal.int
 i64
 a40,
 CVal.int
 i64
 a41,
 CVal.sl
 a42,
 CVal.sl
 a5,
 CVal.sl
 a6])]
 []).bind
 fun
 r_2 =>
 (C
 f_i_NodeAt
 [AVal.v
 r_2.1,
 AVal.v
 (CVal.int
 i64
 b)]
 []).bind
 fun
 r_3 =>
 r_3.1.asTup.bind
 fun
 y_13 =>
 y_13[(0 :
 Nat)]?.bind
 fun
 y_14 =>
 y_13[(1 :
 Nat)]?.bind
 fun
 y_15 =>
 br
 (CVal.isAggN
 (9 :
 Nat)
 y_14)
 ((y_14.cell
 (0 :
 Nat)).bind
 fun
 c_27 =>
 (y_14.cell
 (1 :
 Nat)).bind
 fun
 c_28 =>
 (y_14.cell
 (2 :
 Nat)).bind
 fun
 c_29 =>
 (y_14.cell
 (3 :
 Nat)).bind
 fun
 c_30 =>
 (y_14.cell
 (4 :
 Nat)).bind
 fun
 c_31 =>
 (y_14.cell
 (5 :
 Nat)).bind
 fun
 c_32 =>
 (y_14.cell
 (6 :
 Nat)).bind
 fun
 c_33 =>
 (y_14.cell
 (7 :
 Nat)).bind
 fun
 c_34 =>
 (y_14.cell
 (8 :
 Nat)).bind
 fun
 c_35 =>
 c_33.asSl.bind
 fun
 xs_9 =>
 c_34.asSl.bind
 fun
 xs_10 =>
 c_35.asSl.bind
 fun
 xs_11 =>
 br
 y_15.isFlat
 (((C
 f_l_eqTerm
 [AVal.v
 (CVal.agg
 [c_27,
 c_28,
 c_29,
 c_30,
 c_31,
 c_32,
 CVal.sl
 xs_9,
 CVal.sl
 xs_10,
 CVal.sl
 xs_11]),
 AVal.v
 (CVal.agg
 [c,
 c_1,
 c_2,
 c_3,
 c_4,
 c_5,
 CVal.sl
 xs,
 CVal.sl
 xs_1,
 CVal.sl
 xs_2])]
 []).bind
 fun
 r =>
 br
 (!scalar
 r.1)
 none
 (r.1.asBool.bind
 fun
 b =>
 br
 (!b)
 (some
 (true,
 ()))
 (y_15.asBool.bind
 fun
 b =>
 y.asBool.bind
 fun
 b_2 =>
 some
 (!b ==
 b_2,
 ())))).bind
 fun
 y =>
 br
 y.1
 (some
 (CVal.bool
 false,
 []))
 ((C
 f_l_heldTerm
 [AVal.v
 (CVal.agg
 [c_18,
 c_19,
 c_20,
 c_21,
 c_22,
 c_23,
 CVal.sl
 y_10,
 CVal.sl
 y_11,
 CVal.sl
 y_12]),
 AVal.v
 (CVal.int
 i64
 (1 :
 Int))]
 []).bind
 fun
 r_4 =>
 br
 (!scalar
 r_4.1)
 none
 ((CVal.asInt
 i64
 r_4.1).bind
 fun
 n =>
 br
 (decide
 (n <
 (0 :
 Int)))
 (some
 (CVal.bool
 false,
 []))
 ((CVal.asInt
 i64
 r_4.1).bind
 fun
 n =>
 (CVal.asInt
 i64
 r.1).bind
 fun
 n_2 =>
 br
 (!decide
 (n =
 n_2))
 (some
 (CVal.bool
 false,
 []))
 (some
 (CVal.bool
 true,
 []))))))
 none)
 none))))))))
 none)
 none))
 none)
 none)
 none)
theorem go_l_FnExactNodeAt (a0 : Int) (a1 : Int) (a2 : List UInt8) (a3 : List UInt8) (a40 : Int) (a41 : Int) (a42 : List CVal) (a5 : List CVal) (a6 : List CVal) (b : Int) (R : Ret) (h : nf_l_FnExactNodeAt CC LL a0 a1 a2 a3 a40 a41 a42 a5 a6 b = some R) : CC f_l_FnExactNodeAt [AVal.v
 (CVal.agg
 [CVal.int i64 a0, CVal.int i64 a1, CVal.str a2, CVal.str a3, CVal.int i64 a40,
 CVal.int i64 a41, CVal.sl a42, CVal.sl a5, CVal.sl a6]),
 AVal.v (CVal.int i64 b)] [] = some R := fnW (by decide) rfl (Eq.trans (b := nf_l_FnExactNodeAt CC LL a0 a1 a2 a3 a40 a41 a42 a5 a6 b) (by kernel_rfl) h)
noncomputable def nf_l_markTerm (C : CallT) (L : LoopT) (a0 : Int) (a1 : Int) (a2 : List UInt8) (a3 : List UInt8) (a40 : Int) (a41 : Int) (a42 : List CVal) (a5 : List CVal) (a6 : List CVal) (b : Int) : Option Ret :=
 (C f_l_markTy
 [AVal.agg [AVal.v (CVal.int i64 a40), AVal.v (CVal.int i64 a41), AVal.lref 0 0],
 AVal.v (CVal.int i64 b)]
 [PB.arr (Md.mk true true 0) false 3 a42]).bind
 fun r =>
 r.2[0]?.bind fun y =>
 (C f_l_markTyS [AVal.lref 0 0, AVal.v r.1]
 [PB.arr (Md.mk true true 0) false 3 a5]).bind
 fun r =>
 r.2[0]?.bind fun y_1 =>
 (C f_l_markTermS [AVal.lref 0 0, AVal.v r.1]
 [PB.arr (Md.mk true true 0) false 9 a6]).bind
 fun r => r.2[0]?.bind fun y_2 => some (r.1, [y, y_1, y_2])
theorem go_l_markTerm (a0 : Int) (a1 : Int) (a2 : List UInt8) (a3 : List UInt8) (a40 : Int) (a41 : Int) (a42 : List CVal) (a5 : List CVal) (a6 : List CVal) (b : Int) (R : Ret) (h : nf_l_markTerm CC LL a0 a1 a2 a3 a40 a41 a42 a5 a6 b = some R) : CC f_l_markTerm [AVal.agg
 [AVal.v (CVal.int i64 a0), AVal.v (CVal.int i64 a1), AVal.v (CVal.str a2), AVal.v (CVal.str a3),
 AVal.v (CVal.int i64 a40), AVal.v (CVal.int i64 a41), AVal.lref 0 0,
 AVal.lref 1 0, AVal.lref 2 0],
 AVal.v (CVal.int i64 b)] [PB.arr (Md.mk true true 0) false 3 a42, PB.arr (Md.mk true true 0) false 3 a5,
 PB.arr (Md.mk true true 0) false 9 a6] = some R := fnW (by decide) rfl (Eq.trans (b := nf_l_markTerm CC LL a0 a1 a2 a3 a40 a41 a42 a5 a6 b) (by kernel_rfl) h)
noncomputable def nf_l_toTyS (C : CallT) (L : LoopT) (a : List CVal) : Option Ret :=
 br (decide ((↑a.length : Int) = (↑a.length : Int)) && decide ((↑a.length : Int) ≤ 1048576))
 ((L f_l_toTyS 0 lc_l_toTyS_0 [] k_l_toTyS_0
 ((a, (), 0, ()),
 List.replicate (↑a.length : Int).toNat
 (CVal.agg [CVal.int i64 0, CVal.int i64 0, CVal.sl []]),
 ())).bind
 fun r => loK r (fun r => some r) fun j p => br (j == 0) (some (CVal.sl p.snd.1, [])) none)
 none
theorem go_l_toTyS (a : List CVal) (R : Ret) (h : nf_l_toTyS CC LL a = some R) : CC f_l_toTyS [AVal.v (CVal.sl a)] [] = some R := fnW (by decide) rfl (Eq.trans (b := nf_l_toTyS CC LL a) (by kernel_rfl) h)
noncomputable def nf_i_allNodes (C : CallT) (L : LoopT) (a0 : Int) (a1 : Int) (a2 : List UInt8) (a3 : List UInt8) (a40 : Int) (a41 : Int) (a42 : List CVal) (a5 : List CVal) (a6 : List CVal) : Option Ret :=
 (C f_i_TermOk
 [AVal.v
 (CVal.agg
 [CVal.int i64 a0, CVal.int i64 a1, CVal.str a2, CVal.str a3, CVal.int i64 a40,
 CVal.int i64 a41, CVal.sl a42, CVal.sl a5, CVal.sl a6])]
 []).bind
 fun r =>
 r.1.asBool.bind fun b =>
 br (!b) (some (CVal.sl [], []))
 ((C f_i_numbered
 [AVal.v
 (CVal.agg
 [CVal.int i64 a0, CVal.int i64 a1, CVal.str a2, CVal.str a3, CVal.int i64 a40,
 CVal.int i64 a41, CVal.sl a42, CVal.sl a5, CVal.sl a6]),
 AVal.lptr 0 0]
 [PB.box [AVal.v (CVal.int i64 0)]]).bind
 fun r =>
 r.2[0]?.bind fun y =>
 y[0]?.bind fun y =>
 (C f_i_nodesIn [AVal.v r.1, AVal.lref 0 0]
 [PB.arr (Md.mk true false 0) false 1 []]).bind
 fun r => r.2[0]?.bind fun y => some (CVal.sl y, []))
theorem go_i_allNodes (a0 : Int) (a1 : Int) (a2 : List UInt8) (a3 : List UInt8) (a40 : Int) (a41 : Int) (a42 : List CVal) (a5 : List CVal) (a6 : List CVal) (R : Ret) (h : nf_i_allNodes CC LL a0 a1 a2 a3 a40 a41 a42 a5 a6 = some R) : CC f_i_allNodes [AVal.v
 (CVal.agg
 [CVal.int i64 a0, CVal.int i64 a1, CVal.str a2, CVal.str a3, CVal.int i64 a40,
 CVal.int i64 a41, CVal.sl a42, CVal.sl a5, CVal.sl a6])] [] = some R := fnW (by decide) rfl (Eq.trans (b := nf_i_allNodes CC LL a0 a1 a2 a3 a40 a41 a42 a5 a6) (by kernel_rfl) h)
noncomputable def nf_l_markTy (C : CallT) (L : LoopT) (a0 : Int) (a1 : Int) (a2 : List CVal) (b : Int) : Option Ret :=
 (C f_l_markTyS [AVal.lref 0 0, AVal.v (CVal.int i64 b)]
 [PB.arr (Md.mk true true 0) false 3 a2]).bind
 fun r => r.2[0]?.bind fun y => some (r.1, [y])
theorem go_l_markTy (a0 : Int) (a1 : Int) (a2 : List CVal) (b : Int) (R : Ret) (h : nf_l_markTy CC LL a0 a1 a2 b = some R) : CC f_l_markTy [AVal.agg [AVal.v (CVal.int i64 a0), AVal.v (CVal.int i64 a1), AVal.lref 0 0],
 AVal.v (CVal.int i64 b)] [PB.arr (Md.mk true true 0) false 3 a2] = some R := fnW (by decide) rfl (Eq.trans (b := nf_l_markTy CC LL a0 a1 a2 b) (by kernel_rfl) h)
noncomputable def nf_s_l2Look (C : CallT) (L : LoopT) (a0 : Int) (a1 : Int) (a2 : List UInt8) (a3 : List UInt8) (a40 : Int) (a41 : Int) (a42 : List CVal) (a5 : List CVal) (a6 : List CVal) (b : Int) (c : Int) : Option Ret :=
 (br (decide (b = 0)) (some (true, ()))
 (br (decide (150 < i64.wrap (c + 1))) (some (true, ()))
 ((C f_s_l2One
 [AVal.v
 (CVal.agg
 [CVal.int i64 a0, CVal.int i64 a1, CVal.str a2, CVal.str a3,
 CVal.int i64 a40, CVal.int i64 a41, CVal.sl a42, CVal.sl a5, CVal.sl a6])]
 []).bind
 fun r => r.1.asBool.bind fun b => some (!b, ())))).bind
 fun y =>
 br y.1 (some (CVal.bool false, [[CVal.int i64 (i64.wrap (c + 1))]]))
 ((L f_s_l2Look 0 lc_s_l2Look_0 [PSh.box [none]] k_s_l2Look_0
 ((b, (), (), 0, ()), (i64.wrap (c + 1), ()),
 (a0, a1, a2, a3, a40, a41, a42, a5, a6, ()), ())).bind
 fun r =>
 loK r (fun r => some r) fun j p =>
 br (j == 0) (some (CVal.bool true, [[CVal.int i64 p.snd.fst.1]])) none)
theorem go_s_l2Look (a0 : Int) (a1 : Int) (a2 : List UInt8) (a3 : List UInt8) (a40 : Int) (a41 : Int) (a42 : List CVal) (a5 : List CVal) (a6 : List CVal) (b : Int) (c : Int) (R : Ret) (h : nf_s_l2Look CC LL a0 a1 a2 a3 a40 a41 a42 a5 a6 b c = some R) : CC f_s_l2Look [AVal.v
 (CVal.agg
 [CVal.int i64 a0, CVal.int i64 a1, CVal.str a2, CVal.str a3, CVal.int i64 a40,
 CVal.int i64 a41, CVal.sl a42, CVal.sl a5, CVal.sl a6]),
 AVal.v (CVal.int i64 b), AVal.lptr 0 0] [PB.box [AVal.v (CVal.int i64 c)]] = some R := fnW (by decide) rfl (Eq.trans (b := nf_s_l2Look CC LL a0 a1 a2 a3 a40 a41 a42 a5 a6 b c) (by kernel_rfl) h)
noncomputable def nf_i_cloneTy (C : CallT) (L : LoopT) (a0 : Int) (a1 : Int) (a2 : List CVal) : Option Ret :=
 (L f_i_cloneTy 0 lc_i_cloneTy_0 [] k_i_cloneTy_0
 (((), (), a2, (↑a2.length : Int), 0, ()),
 (0, 0, (), ()), [], (a0, a1, (), ()), [], ())).bind
 fun r =>
 loK r (fun r => some r) fun j p =>
 br (j == 0)
 (some
 (CVal.agg
 [CVal.int i64 p.snd.snd.snd.fst.1, CVal.int i64 p.snd.snd.snd.fst.snd.1,
 CVal.sl p.snd.snd.snd.snd.1],
 []))
 none
theorem go_i_cloneTy (a0 : Int) (a1 : Int) (a2 : List CVal) (R : Ret) (h : nf_i_cloneTy CC LL a0 a1 a2 = some R) : CC f_i_cloneTy [AVal.v (CVal.agg [CVal.int i64 a0, CVal.int i64 a1, CVal.sl a2])] [] = some R := fnW (by decide) rfl (Eq.trans (b := nf_i_cloneTy CC LL a0 a1 a2) (by kernel_rfl) h)
noncomputable def nf_s_l2Name (C : CallT) (L : LoopT) (a : List UInt8) (b : Bool) : Option Ret :=
 ((C f_s_l1In
 [AVal.v (CVal.int i64 (↑a.length : Int)), AVal.v (CVal.int i64 1),
 AVal.v (CVal.int i64 8)]
 []).bind
 fun r =>
 r.1.asBool.bind fun b =>
 br (!b) (some (true, ()))
 (a[0]?.bind fun y =>
 (C f_s_l1In
 [AVal.v (CVal.int i64 (i64.wrap (↑y.toNat : Int))),
 AVal.v (CVal.int i64 97), AVal.v (CVal.int i64 122)]
 []).bind
 fun r => r.1.asBool.bind fun b => some (!b, ()))).bind
 fun y =>
 br y.1 (some (CVal.bool false, []))
 ((L f_s_l2Name 0 lc_s_l2Name_0 [] k_s_l2Name_0 ((a, b, 0, ()), ())).bind fun r =>
 loK r (fun r => some r) fun j p => br (j == 0) (some (CVal.bool true, [])) none)
theorem go_s_l2Name (a : List UInt8) (b : Bool) (R : Ret) (h : nf_s_l2Name CC LL a b = some R) : CC f_s_l2Name [AVal.v (CVal.str a), AVal.v (CVal.bool b)] [] = some R := fnW (by decide) rfl (Eq.trans (b := nf_s_l2Name CC LL a b) (by kernel_rfl) h)
noncomputable def nf_i_numberOk (C : CallT) (L : LoopT) (a : Int) (b : Int) : Option Ret :=
 br (decide (a = 1))
 ((C f_i_in
 [AVal.v (CVal.int i64 b), AVal.v (CVal.int i64 (-1000000 : Int)),
 AVal.v (CVal.int i64 1000000)]
 []).bind
 fun r => some (r.1, []))
 (br (decide (a = 2))
 ((C f_i_in
 [AVal.v (CVal.int i64 b), AVal.v (CVal.int i64 0),
 AVal.v (CVal.int i64 1)]
 []).bind
 fun r => some (r.1, []))
 (br (decide (a = 6))
 ((C f_i_in
 [AVal.v (CVal.int i64 b), AVal.v (CVal.int i64 0),
 AVal.v (CVal.int i64 2)]
 []).bind
 fun r => some (r.1, []))
 (br (decide (a = 7))
 ((C f_i_in
 [AVal.v (CVal.int i64 b), AVal.v (CVal.int i64 0),
 AVal.v (CVal.int i64 2)]
 []).bind
 fun r => some (r.1, []))
 (br (decide (a = 15))
 ((C f_i_in
 [AVal.v (CVal.int i64 b), AVal.v (CVal.int i64 1),
 AVal.v (CVal.int i64 5)]
 []).bind
 fun r => some (r.1, []))
 (some (CVal.bool (decide (b = 0)), []))))))
theorem go_i_numberOk (a : Int) (b : Int) (R : Ret) (h : nf_i_numberOk CC LL a b = some R) : CC f_i_numberOk [AVal.v (CVal.int i64 a), AVal.v (CVal.int i64 b)] [] = some R := fnW (by decide) rfl (Eq.trans (b := nf_i_numberOk CC LL a b) (by kernel_rfl) h)
noncomputable def nf_i_headOk_1 (C : CallT) (L : LoopT) (a0 : Int) (a1 : Int) (a2 : List CVal) : Option Ret :=
 (C f_i_TyOk [AVal.v (CVal.agg [CVal.int i64 a0, CVal.int i64 a1, CVal.sl a2])] []).bind fun r =>
 r.1.asBool.bind fun b => some (CVal.bool !b, [])
theorem go_i_headOk_1 (a0 : Int) (a1 : Int) (a2 : List CVal) (R : Ret) (h : nf_i_headOk_1 CC LL a0 a1 a2 = some R) : CC f_i_headOk_1 [AVal.v (CVal.agg [CVal.int i64 a0, CVal.int i64 a1, CVal.sl a2])] [] = some R := fnW (by decide) rfl (Eq.trans (b := nf_i_headOk_1 CC LL a0 a1 a2) (by kernel_rfl) h)
noncomputable def nf_slices_IndexFunc_Ty (C : CallT) (L : LoopT) (a : List CVal) (b : CVal) : Option Ret :=
 (L f_slices_IndexFunc_Ty 0 lc_slices_IndexFunc_Ty_0 [] k_slices_IndexFunc_Ty_0
 ((a, b, (↑a.length : Int), 0, ()), ())).bind
 fun r => loK r (fun r => some r) fun j p => br (j == 0) (some (CVal.int i64 (-1 : Int), [])) none
theorem go_slices_IndexFunc_Ty (a : List CVal) (b : CVal) (R : Ret) (h : nf_slices_IndexFunc_Ty CC LL a b = some R) : CC f_slices_IndexFunc_Ty [AVal.v (CVal.sl a), AVal.v b] [] = some R := fnW (by decide) rfl (Eq.trans (b := nf_slices_IndexFunc_Ty CC LL a b) (by kernel_rfl) h)
noncomputable def nl_s_l6All_0 (C : CallT) (L : LoopT) (x02 : Int) (x1 : List CVal) (x20 : Int) (x21 : Int) (x22 : List UInt8) (x23 : List UInt8) (x24 : Int) (x25 : Int) (x26 : List CVal) (x27 : List CVal) (x28 : List CVal) : Option (LO k_s_l6All_0.T) :=
 br (decide (x02 < (↑x28.length : Int)))
 (br (decide (0 ≤ x02) && true)
 (x28[x02.toNat]?.bind fun y =>
 br (CVal.fits true 9 y)
 ((y.sub 0 9).bind fun y =>
 (C f_s_l6All [AVal.v y, AVal.lref 0 0]
 [PB.arr (Md.mk false false 0) false 9 x1]).bind
 fun r =>
 r.2[0]?.bind fun y =>
 L f_s_l6All 0 lc_s_l6All_0 [PSh.arr (Md.mk false false 0) false 9] k_s_l6All_0
 (((), (), i64.wrap (x02 + 1), ()), y,
 (x20, x21, x22, x23, x24, x25, x26, x27, x28, ()), ()))
 none)
 none)
 (some
 (LO.out 0
 (((), (), x02, ()), x1, (x20, x21, x22, x23, x24, x25, x26, x27, x28, ()),
 ())))
theorem gl_s_l6All_0 (x02 : Int) (x1 : List CVal) (x20 : Int) (x21 : Int) (x22 : List UInt8) (x23 : List UInt8) (x24 : Int) (x25 : Int) (x26 : List CVal) (x27 : List CVal) (x28 : List CVal) (R : LO k_s_l6All_0.T) (h : nl_s_l6All_0 CC LL x02 x1 x20 x21 x22 x23 x24 x25 x26 x27 x28 = some R) : LL f_s_l6All 0 lc_s_l6All_0 [PSh.arr (Md.mk false false 0) false 9] k_s_l6All_0 (((), (), x02, ()), x1, (x20, x21, x22, x23, x24, x25, x26, x27, x28, ()), ()) = some R := loopW (Eq.trans (b := nl_s_l6All_0 CC LL x02 x1 x20 x21 x22 x23 x24 x25 x26 x27 x28) (by kernel_rfl) h)
noncomputable def nl_l_markTyS_0 (C : CallT) (L : LoopT) (x01 : Int) (x02 : Int) (x1 : List CVal) : Option (LO k_l_markTyS_0.T) :=
 br (decide (x02 < (↑x1.length : Int)))
 (br (decide (0 ≤ x02) && true)
 (br (decide (x02.toNat < x1.length) && true)
 (x1[x02.toNat]?.bind fun y =>
 br (CVal.fits false 1 y)
 (br (decide (0 ≤ x02) && true)
 (br (decide (x02.toNat < (x1.set x02.toNat (CVal.int i64 x01)).length) && true)
 ((x1.set x02.toNat (CVal.int i64 x01))[x02.toNat]?.bind fun y =>
 br (y.isAgg && decide (2 ≤ y.cells.length))
 (br (decide (0 ≤ x02) && true)
 (br
 (decide
 (x02.toNat <
 ((x1.set x02.toNat (CVal.int i64 x01)).set x02.toNat
 (CVal.agg
 (splice y.cells 1
 [CVal.int i64 (i64.wrap (x01 + 1))]))).length) &&
 true)
 (((x1.set x02.toNat (CVal.int i64 x01)).set x02.toNat
 (CVal.agg
 (splice y.cells 1
 [CVal.int i64 (i64.wrap (x01 + 1))])))[x02.toNat]?.bind
 fun y_1 =>
 (y_1.cell 2).bind fun c =>
 c.asSl.bind fun xs =>
 ((x1.set x02.toNat (CVal.int i64 x01)).set x02.toNat
 (CVal.agg
 (splice y.cells 1
 [CVal.int i64 (i64.wrap (x01 + 1))])))[x02.toNat]?.bind
 fun y_2 =>
 (y_2.cell 2).bind fun c =>
 c.asSl.bind fun xs =>
 br (xs.all (CVal.fits true 3))
 ((C f_l_markTyS
 [AVal.lref 0 0,
 AVal.v
 (CVal.int i64
 (i64.wrap (i64.wrap (x01 + 1) + 1)))]
 [PB.arr (Md.mk true true 0) false 3 xs]).bind
 fun r =>
 r.2[0]?.bind fun y_3 =>
 (CVal.asInt i64 r.1).bind fun n =>
 L f_l_markTyS 0 lc_l_markTyS_0
 [PSh.arr (Md.mk true true 0) false 3] k_l_markTyS_0
 (((), n, i64.wrap (x02 + 1), ()),
 ((x1.set x02.toNat (CVal.int i64 x01)).set x02.toNat
 (CVal.agg
 (splice y.cells 1
 [CVal.int i64
 (i64.wrap (x01 + 1))]))).set
 x02.toNat (y_2.putCell 2 (CVal.sl y_3)),
 ()))
 none)
 none)
 none)
 none)
 none)
 none)
 (br (y.isAgg && decide (1 ≤ y.cells.length))
 (br (decide (0 ≤ x02) && true)
 (br
 (decide
 (x02.toNat <
 (x1.set x02.toNat (CVal.agg (CVal.int i64 x01 :: List.drop 1 y.cells))).length) &&
 true)
 ((x1.set x02.toNat
 (CVal.agg (CVal.int i64 x01 :: List.drop 1 y.cells)))[x02.toNat]?.bind
 fun y_1 =>
 br (y_1.isAgg && decide (2 ≤ y_1.cells.length))
 (br (decide (0 ≤ x02) && true)
 (br
 (decide
 (x02.toNat <
 ((x1.set x02.toNat
 (CVal.agg (CVal.int i64 x01 :: List.drop 1 y.cells))).set
 x02.toNat
 (CVal.agg
 (splice y_1.cells 1
 [CVal.int i64 (i64.wrap (x01 + 1))]))).length) &&
 true)
 (((x1.set x02.toNat (CVal.agg (CVal.int i64 x01 :: List.drop 1 y.cells))).set
 x02.toNat
 (CVal.agg
 (splice y_1.cells 1
 [CVal.int i64 (i64.wrap (x01 + 1))])))[x02.toNat]?.bind
 fun y_2 =>
 (y_2.cell 2).bind fun c =>
 c.asSl.bind fun xs =>
 ((x1.set x02.toNat
 (CVal.agg (CVal.int i64 x01 :: List.drop 1 y.cells))).set
 x02.toNat
 (CVal.agg
 (splice y_1.cells 1
 [CVal.int i64
 (i64.wrap (x01 + 1))])))[x02.toNat]?.bind
 fun y_3 =>
 (y_3.cell 2).bind fun c =>
 c.asSl.bind fun xs =>
 br (xs.all (CVal.fits true 3))
 ((C f_l_markTyS
 [AVal.lref 0 0,
 AVal.v
 (CVal.int i64
 (i64.wrap (i64.wrap (x01 + 1) + 1)))]
 [PB.arr (Md.mk true true 0) false 3 xs]).bind
 fun r =>
 r.2[0]?.bind fun y_4 =>
 (CVal.asInt i64 r.1).bind fun n =>
 L f_l_markTyS 0 lc_l_markTyS_0
 [PSh.arr (Md.mk true true 0) false 3] k_l_markTyS_0
 (((), n, i64.wrap (x02 + 1), ()),
 ((x1.set x02.toNat
 (CVal.agg
 (CVal.int i64 x01 ::
 List.drop 1 y.cells))).set
 x02.toNat
 (CVal.agg
 (splice y_1.cells 1
 [CVal.int i64
 (i64.wrap (x01 + 1))]))).set
 x02.toNat (y_3.putCell 2 (CVal.sl y_4)),
 ()))
 none)
 none)
 none)
 none)
 none)
 none)
 none))
 none)
 none)
 (some (LO.out 0 (((), x01, x02, ()), x1, ())))
theorem gl_l_markTyS_0 (x01 : Int) (x02 : Int) (x1 : List CVal) (R : LO k_l_markTyS_0.T) (h : nl_l_markTyS_0 CC LL x01 x02 x1 = some R) : LL f_l_markTyS 0 lc_l_markTyS_0 [PSh.arr (Md.mk true true 0) false 3] k_l_markTyS_0 (((), x01, x02, ()), x1, ()) = some R := loopW (Eq.trans (b := nl_l_markTyS_0 CC LL x01 x02 x1) (by kernel_rfl) h)
noncomputable def nl_s_l2CopyTys_0 (C : CallT) (L : LoopT) (x00 : List CVal) (x02 : Int) (x1 : List CVal) : Option (LO k_s_l2CopyTys_0.T) :=
 br (decide (x02 < (↑x00.length : Int)))
 (br (decide (0 ≤ x02) && true)
 (x00[x02.toNat]?.bind fun y =>
 br (CVal.fits true 3 y)
 ((y.sub 0 3).bind fun y =>
 (C f_s_l1Copy [AVal.v y] []).bind fun r =>
 br (CVal.isAggN 3 r.1)
 ((r.1.cell 0).bind fun c =>
 (r.1.cell 1).bind fun c_1 =>
 (r.1.cell 2).bind fun c_2 =>
 c_2.asSl.bind fun xs =>
 (CVal.asInt i64 c).bind fun n =>
 (CVal.asInt i64 c_1).bind fun n_1 =>
 br (decide (x1.length + 1 ≤ 4294967296) && true && true)
 (L f_s_l2CopyTys 0 lc_s_l2CopyTys_0 [] k_s_l2CopyTys_0
 ((x00, (), i64.wrap (x02 + 1), ()),
 x1 ++ [CVal.agg [CVal.int i64 n, CVal.int i64 n_1, CVal.sl xs]],
 ()))
 none)
 none)
 none)
 none)
 (some (LO.out 0 ((x00, (), x02, ()), x1, ())))
theorem gl_s_l2CopyTys_0 (x00 : List CVal) (x02 : Int) (x1 : List CVal) (R : LO k_s_l2CopyTys_0.T) (h : nl_s_l2CopyTys_0 CC LL x00 x02 x1 = some R) : LL f_s_l2CopyTys 0 lc_s_l2CopyTys_0 [] k_s_l2CopyTys_0 ((x00, (), x02, ()), x1, ()) = some R := loopW (Eq.trans (b := nl_s_l2CopyTys_0 CC LL x00 x02 x1) (by kernel_rfl) h)
noncomputable def nl_i_termSize_0 (C : CallT) (L : LoopT) (x00 : Int) (x01 : Int) (x02 : List CVal) (x03 : Int) (x04 : Int) : Option (LO k_i_termSize_0.T) :=
 br (decide (x04 < x03))
 (br (decide (0 ≤ x04) && true)
 (x02[x04.toNat]?.bind fun y =>
 br (CVal.fits true 9 y)
 ((y.sub 0 9).bind fun y =>
 br (CVal.isAggN 9 y)
 ((y.cell 0).bind fun c =>
 (y.cell 1).bind fun c_1 =>
 (y.cell 2).bind fun c_2 =>
 (y.cell 3).bind fun c_3 =>
 (y.cell 4).bind fun c_4 =>
 (y.cell 5).bind fun c_5 =>
 (y.cell 6).bind fun c_6 =>
 (y.cell 7).bind fun c_7 =>
 (y.cell 8).bind fun c_8 =>
 (C f_i_termSize [AVal.v (CVal.agg [c, c_1, c_2, c_3, c_4, c_5, c_6, c_7, c_8])] []).bind
 fun r =>
 r.1.asTup.bind fun y =>
 y[0]?.bind fun y =>
 r.1.asTup.bind fun y_1 =>
 y_1[1]?.bind fun y_2 =>
 r.1.asTup.bind fun y_3 =>
 y_3[2]?.bind fun y_4 =>
 y_4.asBool.bind fun b =>
 br (!b)
 (some
 (LO.ret
 (CVal.tup
 [CVal.int i64 0, CVal.int i64 0,
 CVal.bool false],
 [])))
 ((CVal.asInt i64 y).bind fun n =>
 (CVal.asInt i64 y_2).bind fun n_1 =>
 L f_i_termSize 0 lc_i_termSize_0 [] k_i_termSize_0
 ((bif decide (x00 < n) then n else x00,
 i64.wrap (x01 + n_1), x02, x03,
 i64.wrap (x04 + 1), ()),
 ())))
 none)
 none)
 none)
 (some (LO.out 0 ((x00, x01, x02, x03, x04, ()), ())))
theorem gl_i_termSize_0 (x00 : Int) (x01 : Int) (x02 : List CVal) (x03 : Int) (x04 : Int) (R : LO k_i_termSize_0.T) (h : nl_i_termSize_0 CC LL x00 x01 x02 x03 x04 = some R) : LL f_i_termSize 0 lc_i_termSize_0 [] k_i_termSize_0 ((x00, x01, x02, x03, x04, ()), ()) = some R := loopW (Eq.trans (b := nl_i_termSize_0 CC LL x00 x01 x02 x03 x04) (by kernel_rfl) h)
noncomputable def nl_slices_EqualFunc_Ty_0 (C : CallT) (L : LoopT) (x00 : List CVal) (x01 : CVal) (x02 : List CVal) (x03 : Int) (x04 : Int) : Option (LO k_slices_EqualFunc_Ty_0.T) :=
 br (decide (x04 < x03))
 (br (decide (0 ≤ x04) && true)
 (x02[x04.toNat]?.bind fun y =>
 br (CVal.fits true 3 y)
 ((y.sub 0 3).bind fun y =>
 br (CVal.isAggN 3 y)
 ((y.cell 0).bind fun c =>
 (y.cell 1).bind fun c_1 =>
 (y.cell 2).bind fun c_2 =>
 br (decide (0 ≤ x04) && true)
 (x00[x04.toNat]?.bind fun y =>
 br (CVal.fits true 3 y)
 ((y.sub 0 3).bind fun y =>
 br (CVal.isAggN 3 y)
 ((y.cell 0).bind fun c_3 =>
 (y.cell 1).bind fun c_4 =>
 (y.cell 2).bind fun c_5 =>
 (C apId
 [AVal.v x01, AVal.v (CVal.agg [c, c_1, c_2]), AVal.v (CVal.agg [c_3, c_4, c_5])]
 []).bind
 fun r =>
 r.1.asBool.bind fun b =>
 br (!b) (some (LO.ret (CVal.bool false, [])))
 (L f_slices_EqualFunc_Ty 0 lc_slices_EqualFunc_Ty_0 []
 k_slices_EqualFunc_Ty_0
 ((x00, x01, x02, x03, i64.wrap (x04 + 1), ()),
 ())))
 none)
 none)
 none)
 none)
 none)
 none)
 (some (LO.out 0 ((x00, x01, x02, x03, x04, ()), ())))
theorem gl_slices_EqualFunc_Ty_0 (x00 : List CVal) (x01 : CVal) (x02 : List CVal) (x03 : Int) (x04 : Int) (R : LO k_slices_EqualFunc_Ty_0.T) (h : nl_slices_EqualFunc_Ty_0 CC LL x00 x01 x02 x03 x04 = some R) : LL f_slices_EqualFunc_Ty 0 lc_slices_EqualFunc_Ty_0 [] k_slices_EqualFunc_Ty_0 ((x00, x01, x02, x03, x04, ()), ()) = some R := loopW (Eq.trans (b := nl_slices_EqualFunc_Ty_0 CC LL x00 x01 x02 x03 x04) (by kernel_rfl) h)
end Go.Proofs.Ytpmpjgfikdjpfaa.Abs
