/- What the functions come to in the abstract machine. -/
import Derived.Test.YtpmpjgfikdjpfaaN1Ann
import Derived.KernelRfl
set_option linter.unusedVariables false
set_option maxRecDepth 100000
namespace Go.Proofs.Ytpmpjgfikdjpfaa.Abs
open Go Go.Proofs Go.IntKind
noncomputable def nf_s_NodeAt (C : CallT) (L : LoopT) (a0 : Int) (a1 : Int) (a2 : List UInt8) (a3 : List UInt8) (a40 : Int) (a41 : Int) (a42 : List CVal) (a5 : List CVal) (a6 : List CVal) (b : Int) : Option Ret :=
 (C f_s_TermOk
 [AVal.v
 (CVal.agg
 [CVal.int i64 a0, CVal.int i64 a1, CVal.str a2, CVal.str a3, CVal.int i64 a40,
 CVal.int i64 a41, CVal.sl a42, CVal.sl a5, CVal.sl a6])]
 []).bind
 fun r =>
 r.1.asBool.bind fun b_1 =>
 br (!b_1)
 (some
 (CVal.tup
 [CVal.agg
 [CVal.int i64 0, CVal.int i64 0, CVal.str [], CVal.str [],
 CVal.int i64 0, CVal.int i64 0, CVal.sl [], CVal.sl [], CVal.sl []],
 CVal.bool false],
 []))
 ((C f_s_l6All
 [AVal.v
 (CVal.agg
 [CVal.int i64 a0, CVal.int i64 a1, CVal.str a2, CVal.str a3, CVal.int i64 a40,
 CVal.int i64 a41, CVal.sl a42, CVal.sl a5, CVal.sl a6]),
 AVal.lref 0 0]
 [PB.arr (Md.mk false false 0) false 9 []]).bind
 fun r =>
 r.2[0]?.bind fun y =>
 (C f_s_l1In
 [AVal.v (CVal.int i64 b), AVal.v (CVal.int i64 0),
 AVal.v (CVal.int i64 (i64.wrap ((↑y.length : Int) - 1)))]
 []).bind
 fun r =>
 r.1.asBool.bind fun b_2 =>
 br (!b_2)
 (some
 (CVal.tup
 [CVal.agg
 [CVal.int i64 0, CVal.int i64 0, CVal.str [], CVal.str [],
 CVal.int i64 0, CVal.int i64 0, CVal.sl [], CVal.sl [],
 CVal.sl []],
 CVal.bool false],
 []))
 (br (decide (0 ≤ b) && true)
 (br (decide (b.toNat < y.length) && true)
 (y[b.toNat]?.bind fun y =>
 (y.sub 0 9).bind fun y =>
 (C f_s_l2Copy [AVal.v y] []).bind fun r =>
 br (CVal.isAggN 9 r.1)
 ((r.1.cell 0).bind fun c =>
 (r.1.cell 1).bind fun c_1 =>
 (r.1.cell 2).bind fun c_2 =>
 (r.1.cell 3).bind fun c_3 =>
 (r.1.cell 4).bind fun c_4 =>
 (r.1.cell 5).bind fun c_5 =>
 (r.1.cell 6).bind fun c_6 =>
 (r.1.cell 7).bind fun c_7 =>
 (r.1.cell 8).bind fun c_8 =>
 c_6.asSl.bind fun xs =>
 c_7.asSl.bind fun xs_1 =>
 c_8.asSl.bind fun xs_2 =>
 (CVal.asInt i64 c).bind fun n =>
 (CVal.asInt i64 c_1).bind fun n_1 =>
 c_2.asStr.bind fun s =>
 c_3.asStr.bind fun s_1 =>
 (CVal.asInt i64 c_4).bind fun n_2 =>
 (CVal.asInt i64 c_5).bind fun n_3 =>
 some
 (CVal.tup
 [CVal.agg
 [CVal.int i64 n,
 CVal.int i64 n_1, CVal.str s,
 CVal.str s_1, CVal.int i64 n_2,
 CVal.int i64 n_3, CVal.sl xs,
 CVal.sl xs_1, CVal.sl xs_2],
 CVal.bool true],
 []))
 none)
 none)
 none))
theorem go_s_NodeAt (a0 : Int) (a1 : Int) (a2 : List UInt8) (a3 : List UInt8) (a40 : Int) (a41 : Int) (a42 : List CVal) (a5 : List CVal) (a6 : List CVal) (b : Int) (R : Ret) (h : nf_s_NodeAt CC LL a0 a1 a2 a3 a40 a41 a42 a5 a6 b = some R) : CC f_s_NodeAt [AVal.v
 (CVal.agg
 [CVal.int i64 a0, CVal.int i64 a1, CVal.str a2, CVal.str a3, CVal.int i64 a40,
 CVal.int i64 a41, CVal.sl a42, CVal.sl a5, CVal.sl a6]),
 AVal.v (CVal.int i64 b)] [] = some R := fnW (by decide) rfl (Eq.trans (b := nf_s_NodeAt CC LL a0 a1 a2 a3 a40 a41 a42 a5 a6 b) (by kernel_rfl) h)
noncomputable def nf_l_szTyS (C : CallT) (L : LoopT) (a : List CVal) (b : Int) : Option Ret :=
 br (decide (i64.wrap (b - (↑a.length : Int)) < 0)) (some (CVal.int i64 (-1 : Int), []))
 ((L f_l_szTyS 0 lc_l_szTyS_0 [] k_l_szTyS_0
 ((a, i64.wrap (b - (↑a.length : Int)), 0, ()), ())).bind
 fun r => loK r (fun r => some r) fun j p => br (j == 0) (some (CVal.int i64 p.fst.snd.1, [])) none)
theorem go_l_szTyS (a : List CVal) (b : Int) (R : Ret) (h : nf_l_szTyS CC LL a b = some R) : CC f_l_szTyS [AVal.v (CVal.sl a), AVal.v (CVal.int i64 b)] [] = some R := fnW (by decide) rfl (Eq.trans (b := nf_l_szTyS CC LL a b) (by kernel_rfl) h)
noncomputable def nf_s_l6All (C : CallT) (L : LoopT) (a0 : Int) (a1 : Int) (a2 : List UInt8) (a3 : List UInt8) (a40 : Int) (a41 : Int) (a42 : List CVal) (a5 : List CVal) (a6 : List CVal) (b : List CVal) : Option Ret :=
 br (decide (b.length + 1 ≤ 4294967296) && true && true)
 ((L f_s_l6All 0 lc_s_l6All_0 [PSh.arr (Md.mk false false 0) false 9] k_s_l6All_0
 (((), (), 0, ()),
 b ++
 [CVal.agg
 [CVal.int i64 a0, CVal.int i64 a1, CVal.str a2, CVal.str a3, CVal.int i64 a40,
 CVal.int i64 a41, CVal.sl a42, CVal.sl a5, CVal.sl a6]],
 (a0, a1, a2, a3, a40, a41, a42, a5, a6, ()), ())).bind
 fun r => loK r (fun r => some r) fun j p => br (j == 0) (some (CVal.nilp, [p.snd.1])) none)
 none
theorem go_s_l6All (a0 : Int) (a1 : Int) (a2 : List UInt8) (a3 : List UInt8) (a40 : Int) (a41 : Int) (a42 : List CVal) (a5 : List CVal) (a6 : List CVal) (b : List CVal) (R : Ret) (h : nf_s_l6All CC LL a0 a1 a2 a3 a40 a41 a42 a5 a6 b = some R) : CC f_s_l6All [AVal.v
 (CVal.agg
 [CVal.int i64 a0, CVal.int i64 a1, CVal.str a2, CVal.str a3, CVal.int i64 a40,
 CVal.int i64 a41, CVal.sl a42, CVal.sl a5, CVal.sl a6]),
 AVal.lref 0 0] [PB.arr (Md.mk false false 0) false 9 b] = some R := fnW (by decide) rfl (Eq.trans (b := nf_s_l6All CC LL a0 a1 a2 a3 a40 a41 a42 a5 a6 b) (by kernel_rfl) h)
noncomputable def nf_l_eqTy (C : CallT) (L : LoopT) (a0 : Int) (a1 : Int) (a2 : List CVal) (b0 : Int) (b1 : Int) (b2 : List CVal) : Option Ret :=
 br (!decide (a0 = b0)) (some (CVal.bool false, []))
 (br (!decide (a1 = b1)) (some (CVal.bool false, []))
 ((C f_l_eqTyS [AVal.v (CVal.sl a2), AVal.v (CVal.sl b2)] []).bind fun r =>
 r.1.asBool.bind fun b => br (!b) (some (CVal.bool false, [])) (some (CVal.bool true, []))))
theorem go_l_eqTy (a0 : Int) (a1 : Int) (a2 : List CVal) (b0 : Int) (b1 : Int) (b2 : List CVal) (R : Ret) (h : nf_l_eqTy CC LL a0 a1 a2 b0 b1 b2 = some R) : CC f_l_eqTy [AVal.v (CVal.agg [CVal.int i64 a0, CVal.int i64 a1, CVal.sl a2]),
 AVal.v (CVal.agg [CVal.int i64 b0, CVal.int i64 b1, CVal.sl b2])] [] = some R := fnW (by decide) rfl (Eq.trans (b := nf_l_eqTy CC LL a0 a1 a2 b0 b1 b2) (by kernel_rfl) h)
noncomputable def nf_l_heldTy (C : CallT) (L : LoopT) (a0 : Int) (a1 : Int) (a2 : List CVal) (b : Int) : Option Ret :=
 (C f_l_heldTyS [AVal.v (CVal.sl a2), AVal.v (CVal.int i64 b)] []).bind fun r =>
 (CVal.asInt i64 r.1).bind fun n =>
 br (decide (n < 0)) (some (CVal.int i64 (-1 : Int), [])) (some (r.1, []))
theorem go_l_heldTy (a0 : Int) (a1 : Int) (a2 : List CVal) (b : Int) (R : Ret) (h : nf_l_heldTy CC LL a0 a1 a2 b = some R) : CC f_l_heldTy [AVal.v (CVal.agg [CVal.int i64 a0, CVal.int i64 a1, CVal.sl a2]), AVal.v (CVal.int i64 b)] [] = some R := fnW (by decide) rfl (Eq.trans (b := nf_l_heldTy CC LL a0 a1 a2 b) (by kernel_rfl) h)
noncomputable def nf_i_TermOk (C : CallT) (L : LoopT) (a0 : Int) (a1 : Int) (a2 : List UInt8) (a3 : List UInt8) (a40 : Int) (a41 : Int) (a42 : List CVal) (a5 : List CVal) (a6 : List CVal) : Option Ret :=
 (C f_i_termSize
 [AVal.v
 (CVal.agg
 [CVal.int i64 a0, CVal.int i64 a1, CVal.str a2, CVal.str a3, CVal.int i64 a40,
 CVal.int i64 a41, CVal.sl a42, CVal.sl a5, CVal.sl a6])]
 []).bind
 fun r =>
 r.1.asTup.bind fun y =>
 y[0]?.bind fun y =>
 r.1.asTup.bind fun y_1 =>
 y_1[1]?.bind fun y_2 =>
 r.1.asTup.bind fun y_3 =>
 y_3[2]?.bind fun y_4 =>
 (y_4.asBool.bind fun b =>
 br b
 ((CVal.asInt i64 y).bind fun n =>
 br (decide (n ≤ 24))
 ((CVal.asInt i64 y_2).bind fun n => some (decide (n ≤ 150), ()))
 (some (false, ())))
 (some (false, ()))).bind
 fun y => some (CVal.bool y.1, [])
theorem go_i_TermOk (a0 : Int) (a1 : Int) (a2 : List UInt8) (a3 : List UInt8) (a40 : Int) (a41 : Int) (a42 : List CVal) (a5 : List CVal) (a6 : List CVal) (R : Ret) (h : nf_i_TermOk CC LL a0 a1 a2 a3 a40 a41 a42 a5 a6 = some R) : CC f_i_TermOk [AVal.v
 (CVal.agg
 [CVal.int i64 a0, CVal.int i64 a1, CVal.str a2, CVal.str a3, CVal.int i64 a40,
 CVal.int i64 a41, CVal.sl a42, CVal.sl a5, CVal.sl a6])] [] = some R := fnW (by decide) rfl (Eq.trans (b := nf_i_TermOk CC LL a0 a1 a2 a3 a40 a41 a42 a5 a6) (by kernel_rfl) h)
noncomputable def nf_i_termSize (C : CallT) (L : LoopT) (a0 : Int) (a1 : Int) (a2 : List UInt8) (a3 : List UInt8) (a40 : Int) (a41 : Int) (a42 : List CVal) (a5 : List CVal) (a6 : List CVal) : Option Ret :=
 (C f_i_headOk
 [AVal.v
 (CVal.agg
 [CVal.int i64 a0, CVal.int i64 a1, CVal.str a2, CVal.str a3, CVal.int i64 a40,
 CVal.int i64 a41, CVal.sl a42, CVal.sl a5, CVal.sl a6])]
 []).bind
 fun r =>
 r.1.asBool.bind fun b =>
 br (!b) (some (CVal.tup [CVal.int i64 0, CVal.int i64 0, CVal.bool false], []))
 ((L f_i_termSize 0 lc_i_termSize_0 [] k_i_termSize_0
 ((0, 1, a6, (↑a6.length : Int), 0, ()), ())).bind
 fun r =>
 loK r (fun r => some r) fun j p =>
 br (j == 0)
 (some
 (CVal.tup
 [CVal.int i64 (i64.wrap (p.fst.1 + 1)), CVal.int i64 p.fst.snd.1,
 CVal.bool true],
 []))
 none)
theorem go_i_termSize (a0 : Int) (a1 : Int) (a2 : List UInt8) (a3 : List UInt8) (a40 : Int) (a41 : Int) (a42 : List CVal) (a5 : List CVal) (a6 : List CVal) (R : Ret) (h : nf_i_termSize CC LL a0 a1 a2 a3 a40 a41 a42 a5 a6 = some R) : CC f_i_termSize [AVal.v
 (CVal.agg
 [CVal.int i64 a0, CVal.int i64 a1, CVal.str a2, CVal.str a3, CVal.int i64 a40,
 CVal.int i64 a41, CVal.sl a42, CVal.sl a5, CVal.sl a6])] [] = some R := fnW (by decide) rfl (Eq.trans (b := nf_i_termSize CC LL a0 a1 a2 a3 a40 a41 a42 a5 a6) (by kernel_rfl) h)
noncomputable def nf_i_headOk (C : CallT) (L : LoopT) (a0 : Int) (a1 : Int) (a2 : List UInt8) (a3 : List UInt8) (a40 : Int) (a41 : Int) (a42 : List CVal) (a5 : List CVal) (a6 : List CVal) : Option Ret :=
 ((C f_i_parts [AVal.v (CVal.int i64 a0)] []).bind fun r =>
 (CVal.asInt i64 r.1).bind fun n =>
 br (!decide ((↑a6.length : Int) = n)) (some (true, ()))
 ((C f_i_numberOk [AVal.v (CVal.int i64 a0), AVal.v (CVal.int i64 a1)] []).bind fun r =>
 r.1.asBool.bind fun b =>
 br (!b) (some (true, ()))
 ((C f_i_namesOk [AVal.v (CVal.int i64 a0), AVal.v (CVal.str a2), AVal.v (CVal.str a3)] []).bind
 fun r =>
 r.1.asBool.bind fun b =>
 br (!b) (some (true, ()))
 (br (decide (a0 = 7))
 (a6[0]?.bind fun y =>
 br (CVal.fits true 9 y)
 ((y.cell 0).bind fun c =>
 (CVal.asInt i64 c).bind fun n => some (!decide (n = 4), ()))
 none)
 (some (false, ())))))).bind
 fun y =>
 br y.1 (some (CVal.bool false, []))
 (((C f_i_hasT [AVal.v (CVal.int i64 a0)] []).bind fun r =>
 (C f_i_TyOk [AVal.v (CVal.agg [CVal.int i64 a40, CVal.int i64 a41, CVal.sl a42])] []).bind
 fun r_1 =>
 r.1.asBool.bind fun b =>
 r_1.1.asBool.bind fun b_1 =>
 br (!b == b_1) (some (true, ()))
 ((C f_i_hasT [AVal.v (CVal.int i64 a0)] []).bind fun r =>
 r.1.asBool.bind fun b =>
 br (!b)
 ((C f_i_SameTy
 [AVal.v (CVal.agg [CVal.int i64 a40, CVal.int i64 a41, CVal.sl a42]),
 AVal.v
 (CVal.agg
 [CVal.int i64 0, CVal.int i64 0, CVal.sl []])]
 []).bind
 fun r => br (!scalar r.1) none (r.1.asBool.bind fun b => some (!b, ())))
 (some (false, ())))).bind
 fun y =>
 br y.1 (some (CVal.bool false, []))
 (br (decide (a0 = 3))
 ((br (decide ((↑a5.length : Int) ≤ 2))
 ((C f_slices_ContainsFunc_Ty [AVal.v (CVal.sl a5), AVal.v (CVal.func f_i_headOk_1 [])] []).bind fun r =>
 r.1.asBool.bind fun b => some (!b, ()))
 (some (false, ()))).bind
 fun y => some (CVal.bool y.1, []))
 ((br (decide ((↑a5.length : Int) ≤ 0))
 ((C f_slices_ContainsFunc_Ty [AVal.v (CVal.sl a5), AVal.v (CVal.func f_i_headOk_1 [])] []).bind fun r =>
 r.1.asBool.bind fun b => some (!b, ()))
 (some (false, ()))).bind
 fun y => some (CVal.bool y.1, []))))
theorem go_i_headOk (a0 : Int) (a1 : Int) (a2 : List UInt8) (a3 : List UInt8) (a40 : Int) (a41 : Int) (a42 : List CVal) (a5 : List CVal) (a6 : List CVal) (R : Ret) (h : nf_i_headOk CC LL a0 a1 a2 a3 a40 a41 a42 a5 a6 = some R) : CC f_i_headOk [AVal.v
 (CVal.agg
 [CVal.int i64 a0, CVal.int i64 a1, CVal.str a2, CVal.str a3, CVal.int i64 a40,
 CVal.int i64 a41, CVal.sl a42, CVal.sl a5, CVal.sl a6])] [] = some R := fnW (by decide) rfl (Eq.trans (b := nf_i_headOk CC LL a0 a1 a2 a3 a40 a41 a42 a5 a6) (by kernel_rfl) h)
noncomputable def nf_i_TyOk (C : CallT) (L : LoopT) (a0 : Int) (a1 : Int) (a2 : List CVal) : Option Ret :=
 (C f_i_measure [AVal.v (CVal.agg [CVal.int i64 a0, CVal.int i64 a1, CVal.sl a2])] []).bind fun r =>
 r.1.asTup.bind fun y =>
 y[0]?.bind fun y =>
 r.1.asTup.bind fun y_1 =>
 y_1[1]?.bind fun y_2 =>
 r.1.asTup.bind fun y_3 =>
 y_3[2]?.bind fun y_4 =>
 (y_4.asBool.bind fun b =>
 br b
 ((CVal.asInt i64 y).bind fun n =>
 br (decide (n ≤ 6))
 ((CVal.asInt i64 y_2).bind fun n => some (decide (n ≤ 60), ()))
 (some (false, ())))
 (some (false, ()))).bind
 fun y => some (CVal.bool y.1, [])
theorem go_i_TyOk (a0 : Int) (a1 : Int) (a2 : List CVal) (R : Ret) (h : nf_i_TyOk CC LL a0 a1 a2 = some R) : CC f_i_TyOk [AVal.v (CVal.agg [CVal.int i64 a0, CVal.int i64 a1, CVal.sl a2])] [] = some R := fnW (by decide) rfl (Eq.trans (b := nf_i_TyOk CC LL a0 a1 a2) (by kernel_rfl) h)
noncomputable def nf_i_bindsS (C : CallT) (L : LoopT) (a : Int) : Option Ret :=
 (br (decide (a = 4)) (some (true, ()))
 (br (decide (a = 6)) (some (true, ()))
 (br (decide (a = 7)) (some (true, ()))
 (br (decide (a = 14)) (some (true, ())) (some (decide (a = 17), ())))))).bind
 fun y => some (CVal.bool y.1, [])
theorem go_i_bindsS (a : Int) (R : Ret) (h : nf_i_bindsS CC LL a = some R) : CC f_i_bindsS [AVal.v (CVal.int i64 a)] [] = some R := fnW (by decide) rfl (Eq.trans (b := nf_i_bindsS CC LL a) (by kernel_rfl) h)
noncomputable def nl_l_szTermS_0 (C : CallT) (L : LoopT) (x00 : List CVal) (x01 : Int) (x02 : Int) : Option (LO k_l_szTermS_0.T) :=
 br (decide (x02 < (↑x00.length : Int)))
 (br (decide (0 ≤ x02) && true)
 (x00[x02.toNat]?.bind fun y =>
 br (CVal.fits true 9 y)
 ((y.sub 0 9).bind fun y =>
 (C f_l_szTerm [AVal.v y, AVal.v (CVal.int i64 x01)] []).bind fun r =>
 (CVal.asInt i64 r.1).bind fun n =>
 br (decide (n < 0)) (some (LO.ret (CVal.int i64 (-1 : Int), [])))
 ((CVal.asInt i64 r.1).bind fun n =>
 L f_l_szTermS 0 lc_l_szTermS_0 [] k_l_szTermS_0
 ((x00, n, i64.wrap (x02 + 1), ()), ())))
 none)
 none)
 (some (LO.out 0 ((x00, x01, x02, ()), ())))
theorem gl_l_szTermS_0 (x00 : List CVal) (x01 : Int) (x02 : Int) (R : LO k_l_szTermS_0.T) (h : nl_l_szTermS_0 CC LL x00 x01 x02 = some R) : LL f_l_szTermS 0 lc_l_szTermS_0 [] k_l_szTermS_0 ((x00, x01, x02, ()), ()) = some R := loopW (Eq.trans (b := nl_l_szTermS_0 CC LL x00 x01 x02) (by kernel_rfl) h)
noncomputable def nl_i_cloneTerm_0 (C : CallT) (L : LoopT) (x03 : List CVal) (x04 : Int) (x05 : Int) (x10 : Int) (x11 : Int) (x12 : List UInt8) (x13 : List UInt8) (x14 : Int) (x15 : Int) (x16 : List CVal) (x17 : List CVal) (x18 : List CVal) (x20 : Int) (x21 : Int) (x22 : List UInt8) (x23 : List UInt8) (x24 : Int) (x25 : Int) (x3 : List CVal) (x4 : List CVal) (x5 : List CVal) (x60 : Int) (x61 : Int) (x62 : List UInt8) (x63 : List UInt8) (x64 : Int) (x65 : Int) (x7 : List CVal) (x8 : List CVal) (x9 : List CVal) : Option (LO k_i_cloneTerm_0.T) :=
 br (decide (x05 < x04))
 (br (decide (0 ≤ x05) && true)
 (x03[x05.toNat]?.bind fun y =>
 br (CVal.fits true 3 y)
 ((y.sub 0 3).bind fun y =>
 br (CVal.isAggN 3 y)
 ((y.cell 0).bind fun c =>
 (y.cell 1).bind fun c_1 =>
 (y.cell 2).bind fun c_2 =>
 (C f_i_cloneTy [AVal.v (CVal.agg [c, c_1, c_2])] []).bind fun r =>
 br (CVal.isAggN 3 r.1)
 ((r.1.cell 0).bind fun c =>
 (r.1.cell 1).bind fun c_3 =>
 (r.1.cell 2).bind fun c_4 =>
 c_4.asSl.bind fun xs =>
 (CVal.asInt i64 c).bind fun n =>
 (CVal.asInt i64 c_3).bind fun n_1 =>
 br (decide (x8.length + 1 ≤ 4294967296) && true && true)
 (L f_i_cloneTerm 0 lc_i_cloneTerm_0 [] k_i_cloneTerm_0
 (((), (), (), x03, x04,
 i64.wrap (x05 + 1), ()),
 (x10, x11, x12, x13, x14, x15, x16, x17, x18, ()),
 (x20, x21, x22, x23, x24, x25, (), (), (), ()),
 x3, x4, x5,
 (x60, x61, x62, x63, x64, x65, (), (), (), ()),
 x7,
 x8 ++ [CVal.agg [CVal.int i64 n, CVal.int i64 n_1, CVal.sl xs]],
 x9, ()))
 none)
 none)
 none)
 none)
 none)
 (some
 (LO.out 0
 (((), (), (), x03, x04, x05, ()),
 (x10, x11, x12, x13, x14, x15, x16, x17, x18, ()),
 (x20, x21, x22, x23, x24, x25, (), (), (), ()), x3, x4, x5,
 (x60, x61, x62, x63, x64, x65, (), (), (), ()), x7, x8, x9, ())))
theorem gl_i_cloneTerm_0 (x03 : List CVal) (x04 : Int) (x05 : Int) (x10 : Int) (x11 : Int) (x12 : List UInt8) (x13 : List UInt8) (x14 : Int) (x15 : Int) (x16 : List CVal) (x17 : List CVal) (x18 : List CVal) (x20 : Int) (x21 : Int) (x22 : List UInt8) (x23 : List UInt8) (x24 : Int) (x25 : Int) (x3 : List CVal) (x4 : List CVal) (x5 : List CVal) (x60 : Int) (x61 : Int) (x62 : List UInt8) (x63 : List UInt8) (x64 : Int) (x65 : Int) (x7 : List CVal) (x8 : List CVal) (x9 : List CVal) (R : LO k_i_cloneTerm_0.T) (h : nl_i_cloneTerm_0 CC LL x03 x04 x05 x10 x11 x12 x13 x14 x15 x16 x17 x18 x20 x21 x22 x23 x24 x25 x3 x4 x5 x60 x61 x62 x63 x64 x65 x7 x8 x9 = some R) : LL f_i_cloneTerm 0 lc_i_cloneTerm_0 [] k_i_cloneTerm_0 (((), (), (), x03, x04, x05, ()), (x10, x11, x12, x13, x14, x15, x16, x17, x18, ()),
 (x20, x21, x22, x23, x24, x25, (), (), (), ()), x3, x4, x5, (x60, x61, x62, x63, x64, x65, (), (), (), ()), x7, x8,
 x9, ()) = some R := loopW (Eq.trans (b := nl_i_cloneTerm_0 CC LL x03 x04 x05 x10 x11 x12 x13 x14 x15 x16 x17 x18 x20 x21 x22 x23 x24 x25 x3 x4 x5 x60 x61 x62 x63 x64 x65 x7 x8 x9) (by kernel_rfl) h)
noncomputable def nl_l_heldTermS_0 (C : CallT) (L : LoopT) (x00 : List CVal) (x01 : Int) (x02 : Int) : Option (LO k_l_heldTermS_0.T) :=
 br (decide (x02 < (↑x00.length : Int)))
 (br (decide (0 ≤ x02) && true)
 (x00[x02.toNat]?.bind fun y =>
 br (CVal.fits true 9 y)
 ((y.cell 0).bind fun c =>
 (CVal.asInt i64 c).bind fun n =>
 br (!decide (n = x01)) (some (LO.ret (CVal.int i64 (-1 : Int), [])))
 (br (decide (0 ≤ x02) && true)
 (x00[x02.toNat]?.bind fun y =>
 br (CVal.fits true 9 y)
 ((y.cell 1).bind fun c =>
 (CVal.asInt i64 c).bind fun n =>
 br (!decide (n = i64.wrap (x01 + 1)))
 (some (LO.ret (CVal.int i64 (-1 : Int), [])))
 (br (decide (0 ≤ x02) && true)
 (x00[x02.toNat]?.bind fun y =>
 br (CVal.fits true 9 y)
 ((y.cell 2).bind fun c =>
 (C f_l_markText
 [AVal.v
 (CVal.int i64
 (i64.wrap (i64.wrap (x01 + 1) + 1)))]
 []).bind
 fun r =>
 c.asStr.bind fun s =>
 r.1.asStr.bind fun s_1 =>
 br (!decide (s = s_1)) (some (LO.ret (CVal.int i64 (-1 : Int), [])))
 (br (decide (0 ≤ x02) && true)
 (x00[x02.toNat]?.bind fun y =>
 br (CVal.fits true 9 y)
 ((y.cell 3).bind fun c =>
 (C f_l_markText
 [AVal.v
 (CVal.int i64
 (i64.wrap
 (i64.wrap
 (i64.wrap (x01 + 1) + 1) +
 1)))]
 []).bind
 fun r =>
 c.asStr.bind fun s =>
 r.1.asStr.bind fun s_2 =>
 br (!decide (s = s_2))
 (some (LO.ret (CVal.int i64 (-1 : Int), [])))
 (br (decide (0 ≤ x02) && true)
 (x00[x02.toNat]?.bind fun y =>
 br (CVal.fits true 9 y)
 ((y.cell 4).bind fun c =>
 (CVal.asInt i64 c).bind fun n =>
 br
 (!decide
 (n =
 i64.wrap
 (i64.wrap
 (i64.wrap
 (i64.wrap
 (x01 + 1) +
 1) +
 1) +
 1)))
 (some
 (LO.ret (CVal.int i64 (-1 : Int), [])))
 (br (decide (0 ≤ x02) && true)
 (x00[x02.toNat]?.bind fun y =>
 br (CVal.fits true 9 y)
 ((y.cell 5).bind fun c =>
 (CVal.asInt i64 c).bind fun n =>
 br
 (!decide
 (n =
 i64.wrap
 (i64.wrap
 (i64.wrap
 (i64.wrap
 (i64.wrap
 (x01 +
 1) +
 1) +
 1) +
 1) +
 1)))
 (some
 (LO.ret
 (CVal.int i64 (-1 : Int),
 [])))
 (br (decide (0 ≤ x02) && true)
 (x00[x02.toNat]?.bind fun y =>
 br (CVal.fits true 9 y)
 ((y.cell 6).bind
 fun c =>
 (C f_l_heldTyS
 [AVal.v c,
 AVal.v
 (CVal.int
 i64
 (i64.wrap
 (i64.wrap
 (i64.wrap
 (i64.wrap
 (i64.wrap
 (i64.wrap
 (x01 +
 (1 :
 Int)) +
 (1 :
 Int)) +
 (1 :
 Int)) +
 (1 :
 Int)) +
 (1 :
 Int)) +
 1)))]
 []).bind
 fun r =>
 (CVal.asInt i64
 r.1).bind
 fun n =>
 br
 (decide (n < 0))
 (some
 (LO.ret
 (CVal.int
 i64
 (-1 : Int),
 [])))
 (br
 (decide
 (0 ≤
 x02) &&
 true)
 (x00[x02.toNat]?.bind
 fun y =>
 br
 (CVal.fits true
 9 y)
 ((y.cell
 (7 :
 Nat)).bind
 fun c =>
 (C f_l_heldTyS
 [AVal.v c,
 AVal.v
 r.1]
 []).bind
 fun r =>
 (CVal.asInt
 i64
 r.1).bind
 fun n =>
 br
 (decide
 (n <
 (0 :
 Int)))
 (some
 (LO.ret
 (CVal.int
 i64
 (-1 :
 Int),
 [])))
 (br
 (decide
 ((0 :
 Int) ≤
 x02) &&
 true)
 (x00[x02.toNat]?.bind
 fun
 y =>
 br
 (CVal.fits
 true
 (9 :
 Nat)
 y)
 ((y.cell
 (8 :
 Nat)).bind
 fun
 c =>
 (C
 f_l_heldTermS
 [AVal.v
 c,
 AVal.v
 r.1]
 []).bind
 fun
 r =>
 (CVal.asInt
 i64
 r.1).bind
 fun
 n =>
 br
 (decide
 (n <
 (0 :
 Int)))
 (some
 (LO.ret
 (CVal.int
 i64
 (-1 :
 Int),
 [])))
 ((CVal.asInt
 i64
 r.1).bind
 fun
 n =>
 L
 f_l_heldTermS
 (0 :
 Nat)
 lc_l_heldTermS_0
 []
 k_l_heldTermS_0
 ((x00,
 n,
 i64.wrap
 (x02 +
 (1 :
 Int)),
 ()),
 ())))
 none)
 none))
 none)
 none))
 none)
 none))
 none)
 none))
 none)
 none))
 none)
 none))
 none)
 none))
 none)
 none))
 none)
 none)
 (some (LO.out 0 ((x00, x01, x02, ()), ())))
theorem gl_l_heldTermS_0 (x00 : List CVal) (x01 : Int) (x02 : Int) (R : LO k_l_heldTermS_0.T) (h : nl_l_heldTermS_0 CC LL x00 x01 x02 = some R) : LL f_l_heldTermS 0 lc_l_heldTermS_0 [] k_l_heldTermS_0 ((x00, x01, x02, ()), ()) = some R := loopW (Eq.trans (b := nl_l_heldTermS_0 CC LL x00 x01 x02) (by kernel_rfl) h)
noncomputable def nl_i_cloneTy_0 (C : CallT) (L : LoopT) (x02 : List CVal) (x03 : Int) (x04 : Int) (x10 : Int) (x11 : Int) (x2 : List CVal) (x30 : Int) (x31 : Int) (x4 : List CVal) : Option (LO k_i_cloneTy_0.T) :=
 br (decide (x04 < x03))
 (br (decide (0 ≤ x04) && true)
 (x02[x04.toNat]?.bind fun y =>
 br (CVal.fits true 3 y)
 ((y.sub 0 3).bind fun y =>
 br (CVal.isAggN 3 y)
 ((y.cell 0).bind fun c =>
 (y.cell 1).bind fun c_1 =>
 (y.cell 2).bind fun c_2 =>
 (C f_i_cloneTy [AVal.v (CVal.agg [c, c_1, c_2])] []).bind fun r =>
 br (CVal.isAggN 3 r.1)
 ((r.1.cell 0).bind fun c =>
 (r.1.cell 1).bind fun c_3 =>
 (r.1.cell 2).bind fun c_4 =>
 c_4.asSl.bind fun xs =>
 (CVal.asInt i64 c).bind fun n =>
 (CVal.asInt i64 c_3).bind fun n_1 =>
 br (decide (x4.length + 1 ≤ 4294967296) && true && true)
 (L f_i_cloneTy 0 lc_i_cloneTy_0 [] k_i_cloneTy_0
 (((), (), x02, x03, i64.wrap (x04 + 1),
 ()),
 (x10, x11, (), ()), x2, (x30, x31, (), ()),
 x4 ++ [CVal.agg [CVal.int i64 n, CVal.int i64 n_1, CVal.sl xs]],
 ()))
 none)
 none)
 none)
 none)
 none)
 (some
 (LO.out 0
 (((), (), x02, x03, x04, ()), (x10, x11, (), ()), x2,
 (x30, x31, (), ()), x4, ())))
theorem gl_i_cloneTy_0 (x02 : List CVal) (x03 : Int) (x04 : Int) (x10 : Int) (x11 : Int) (x2 : List CVal) (x30 : Int) (x31 : Int) (x4 : List CVal) (R : LO k_i_cloneTy_0.T) (h : nl_i_cloneTy_0 CC LL x02 x03 x04 x10 x11 x2 x30 x31 x4 = some R) : LL f_i_cloneTy 0 lc_i_cloneTy_0 [] k_i_cloneTy_0 (((), (), x02, x03, x04, ()), (x10, x11, (), ()), x2, (x30, x31, (), ()), x4, ()) = some R := loopW (Eq.trans (b := nl_i_cloneTy_0 CC LL x02 x03 x04 x10 x11 x2 x30 x31 x4) (by kernel_rfl) h)
noncomputable def nl_s_l1Look_0 (C : CallT) (L : LoopT) (x00 : Int) (x03 : Int) (x10 : Int) (x20 : Int) (x21 : Int) (x22 : List CVal) : Option (LO k_s_l1Look_0.T) :=
 br (decide (x03 < (↑x22.length : Int)))
 (br (decide (0 ≤ x03) && true)
 (x22[x03.toNat]?.bind fun y =>
 br (CVal.fits true 3 y)
 ((y.sub 0 3).bind fun y =>
 (C f_s_l1Look
 [AVal.v y, AVal.v (CVal.int i64 (i64.wrap (x00 - 1))),
 AVal.lptr 0 0]
 [PB.box [AVal.v (CVal.int i64 x10)]]).bind
 fun r =>
 r.2[0]?.bind fun y =>
 y[0]?.bind fun y =>
 r.1.asBool.bind fun b =>
 br (!b) (some (LO.ret (CVal.bool false, [[y]])))
 ((CVal.asInt i64 y).bind fun n =>
 L f_s_l1Look 0 lc_s_l1Look_0 [PSh.box [none]] k_s_l1Look_0
 ((x00, (), (), i64.wrap (x03 + 1), ()), (n, ()),
 (x20, x21, x22, ()), ())))
 none)
 none)
 (some
 (LO.out 0
 ((x00, (), (), x03, ()), (x10, ()), (x20, x21, x22, ()), ())))
theorem gl_s_l1Look_0 (x00 : Int) (x03 : Int) (x10 : Int) (x20 : Int) (x21 : Int) (x22 : List CVal) (R : LO k_s_l1Look_0.T) (h : nl_s_l1Look_0 CC LL x00 x03 x10 x20 x21 x22 = some R) : LL f_s_l1Look 0 lc_s_l1Look_0 [PSh.box [none]] k_s_l1Look_0 ((x00, (), (), x03, ()), (x10, ()), (x20, x21, x22, ()), ()) = some R := loopW (Eq.trans (b := nl_s_l1Look_0 CC LL x00 x03 x10 x20 x21 x22) (by kernel_rfl) h)
end Go.Proofs.Ytpmpjgfikdjpfaa.Abs
