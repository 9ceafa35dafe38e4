/- What the functions come to in the abstract machine. -/
import Derived.Test.YtpmpjgfikdjpfaaN1Ann
import Derived.KernelRfl
set_option linter.unusedVariables false
set_option maxRecDepth 100000
namespace Go.Proofs.Ytpmpjgfikdjpfaa.Abs
open Go Go.Proofs Go.IntKind
noncomputable def nf_l_toTerm (C : CallT) (L : LoopT) (a0 : Int) (a1 : Int) (a2 : List UInt8) (a3 : List UInt8) (a40 : Int) (a41 : Int) (a42 : List CVal) (a5 : List CVal) (a6 : List CVal) : Option Ret :=
 (C f_l_toTy [AVal.v (CVal.agg [CVal.int i64 a40, CVal.int i64 a41, CVal.sl a42])] []).bind fun r =>
 br (CVal.isAggN 3 r.1)
 ((r.1.cell 0).bind fun c =>
 (r.1.cell 1).bind fun c_1 =>
 (r.1.cell 2).bind fun c_2 =>
 c_2.asSl.bind fun xs =>
 (C f_l_toTyS [AVal.v (CVal.sl a5)] []).bind fun r =>
 br r.1.isFlat
 (r.1.asSl.bind fun xs_1 =>
 (C f_l_toTermS [AVal.v (CVal.sl a6)] []).bind fun r =>
 br r.1.isFlat
 (r.1.asSl.bind fun xs_2 =>
 (CVal.asInt i64 c).bind fun n =>
 (CVal.asInt i64 c_1).bind fun n_1 =>
 some
 (CVal.agg
 [CVal.int i64 a0, CVal.int i64 a1, CVal.str a2, CVal.str a3,
 CVal.int i64 n, CVal.int i64 n_1, CVal.sl xs, CVal.sl xs_1,
 CVal.sl xs_2],
 []))
 none)
 none)
 none
theorem go_l_toTerm (a0 : Int) (a1 : Int) (a2 : List UInt8) (a3 : List UInt8) (a40 : Int) (a41 : Int) (a42 : List CVal) (a5 : List CVal) (a6 : List CVal) (R : Ret) (h : nf_l_toTerm CC LL a0 a1 a2 a3 a40 a41 a42 a5 a6 = some R) : CC f_l_toTerm [AVal.v
 (CVal.agg
 [CVal.int i64 a0, CVal.int i64 a1, CVal.str a2, CVal.str a3, CVal.int i64 a40,
 CVal.int i64 a41, CVal.sl a42, CVal.sl a5, CVal.sl a6])] [] = some R := fnW (by decide) rfl (Eq.trans (b := nf_l_toTerm CC LL a0 a1 a2 a3 a40 a41 a42 a5 a6) (by kernel_rfl) h)
noncomputable def nf_l_szTy (C : CallT) (L : LoopT) (a0 : Int) (a1 : Int) (a2 : List CVal) (b : Int) : Option Ret :=
 (C f_l_szTyS [AVal.v (CVal.sl a2), AVal.v (CVal.int i64 b)] []).bind fun r =>
 (CVal.asInt i64 r.1).bind fun n =>
 br (decide (n < 0)) (some (CVal.int i64 (-1 : Int), [])) (some (r.1, []))
theorem go_l_szTy (a0 : Int) (a1 : Int) (a2 : List CVal) (b : Int) (R : Ret) (h : nf_l_szTy CC LL a0 a1 a2 b = some R) : CC f_l_szTy [AVal.v (CVal.agg [CVal.int i64 a0, CVal.int i64 a1, CVal.sl a2]), AVal.v (CVal.int i64 b)] [] = some R := fnW (by decide) rfl (Eq.trans (b := nf_l_szTy CC LL a0 a1 a2 b) (by kernel_rfl) h)
noncomputable def nf_s_TermOk (C : CallT) (L : LoopT) (a0 : Int) (a1 : Int) (a2 : List UInt8) (a3 : List UInt8) (a40 : Int) (a41 : Int) (a42 : List CVal) (a5 : List CVal) (a6 : List CVal) : Option Ret :=
 (C f_s_l2Look
 [AVal.v
 (CVal.agg
 [CVal.int i64 a0, CVal.int i64 a1, CVal.str a2, CVal.str a3, CVal.int i64 a40,
 CVal.int i64 a41, CVal.sl a42, CVal.sl a5, CVal.sl a6]),
 AVal.v (CVal.int i64 24), AVal.lptr 0 0]
 [PB.box [AVal.v (CVal.int i64 0)]]).bind
 fun r => r.2[0]?.bind fun y => y[0]?.bind fun y => some (r.1, [])
theorem go_s_TermOk (a0 : Int) (a1 : Int) (a2 : List UInt8) (a3 : List UInt8) (a40 : Int) (a41 : Int) (a42 : List CVal) (a5 : List CVal) (a6 : List CVal) (R : Ret) (h : nf_s_TermOk CC LL a0 a1 a2 a3 a40 a41 a42 a5 a6 = some R) : CC f_s_TermOk [AVal.v
 (CVal.agg
 [CVal.int i64 a0, CVal.int i64 a1, CVal.str a2, CVal.str a3, CVal.int i64 a40,
 CVal.int i64 a41, CVal.sl a42, CVal.sl a5, CVal.sl a6])] [] = some R := fnW (by decide) rfl (Eq.trans (b := nf_s_TermOk CC LL a0 a1 a2 a3 a40 a41 a42 a5 a6) (by kernel_rfl) h)
noncomputable def nf_i_cloneTerm (C : CallT) (L : LoopT) (a0 : Int) (a1 : Int) (a2 : List UInt8) (a3 : List UInt8) (a40 : Int) (a41 : Int) (a42 : List CVal) (a5 : List CVal) (a6 : List CVal) : Option Ret :=
 (C f_i_cloneTy [AVal.v (CVal.agg [CVal.int i64 a40, CVal.int i64 a41, CVal.sl a42])] []).bind fun r =>
 br (CVal.isAggN 3 r.1)
 ((r.1.cell 0).bind fun c =>
 (r.1.cell 1).bind fun c_1 =>
 (r.1.cell 2).bind fun c_2 =>
 c_2.asSl.bind fun xs =>
 (CVal.asInt i64 c).bind fun n =>
 (CVal.asInt i64 c_1).bind fun n_1 =>
 (L f_i_cloneTerm 0 lc_i_cloneTerm_0 [] k_i_cloneTerm_0
 (((), (), (), a5, (↑a5.length : Int), 0, ()),
 (a0, a1, a2, a3, a40, a41, a42, a5, a6, ()),
 (0, 0, [], [], 0, 0, (), (), (),
 ()),
 [], [], [], (a0, a1, a2, a3, n, n_1, (), (), (), ()), xs, [],
 [], ())).bind
 fun r =>
 loK r (fun r => some r) fun j p =>
 br (j == 0)
 ((L f_i_cloneTerm 2 lc_i_cloneTerm_2 [] k_i_cloneTerm_2
 (((), (), p.snd.fst.snd.snd.snd.snd.snd.snd.snd.snd.1,
 (↑(List.length p.snd.fst.snd.snd.snd.snd.snd.snd.snd.snd.1) : Int), 0,
 ()),
 (p.snd.snd.fst.1, p.snd.snd.fst.snd.1, p.snd.snd.fst.snd.snd.1,
 p.snd.snd.fst.snd.snd.snd.1, p.snd.snd.fst.snd.snd.snd.snd.1,
 p.snd.snd.fst.snd.snd.snd.snd.snd.1, (), (), (), ()),
 p.snd.snd.snd.1, p.snd.snd.snd.snd.1, p.snd.snd.snd.snd.snd.1,
 (p.snd.snd.snd.snd.snd.snd.fst.1, p.snd.snd.snd.snd.snd.snd.fst.snd.1,
 p.snd.snd.snd.snd.snd.snd.fst.snd.snd.1, p.snd.snd.snd.snd.snd.snd.fst.snd.snd.snd.1,
 p.snd.snd.snd.snd.snd.snd.fst.snd.snd.snd.snd.1,
 p.snd.snd.snd.snd.snd.snd.fst.snd.snd.snd.snd.snd.1, (), (), (),
 ()),
 p.snd.snd.snd.snd.snd.snd.snd.1, p.snd.snd.snd.snd.snd.snd.snd.snd.1,
 p.snd.snd.snd.snd.snd.snd.snd.snd.snd.1, ())).bind
 fun r =>
 loK r (fun r => some r) fun j p =>
 br (j == 2)
 (some
 (CVal.agg
 [CVal.int i64 p.snd.snd.snd.snd.snd.fst.1,
 CVal.int i64 p.snd.snd.snd.snd.snd.fst.snd.1,
 CVal.str p.snd.snd.snd.snd.snd.fst.snd.snd.1,
 CVal.str p.snd.snd.snd.snd.snd.fst.snd.snd.snd.1,
 CVal.int i64 p.snd.snd.snd.snd.snd.fst.snd.snd.snd.snd.1,
 CVal.int i64 p.snd.snd.snd.snd.snd.fst.snd.snd.snd.snd.snd.1,
 CVal.sl p.snd.snd.snd.snd.snd.snd.1, CVal.sl p.snd.snd.snd.snd.snd.snd.snd.1,
 CVal.sl p.snd.snd.snd.snd.snd.snd.snd.snd.1],
 []))
 none)
 none)
 none
theorem go_i_cloneTerm (a0 : Int) (a1 : Int) (a2 : List UInt8) (a3 : List UInt8) (a40 : Int) (a41 : Int) (a42 : List CVal) (a5 : List CVal) (a6 : List CVal) (R : Ret) (h : nf_i_cloneTerm CC LL a0 a1 a2 a3 a40 a41 a42 a5 a6 = some R) : CC f_i_cloneTerm [AVal.v
 (CVal.agg
 [CVal.int i64 a0, CVal.int i64 a1, CVal.str a2, CVal.str a3, CVal.int i64 a40,
 CVal.int i64 a41, CVal.sl a42, CVal.sl a5, CVal.sl a6])] [] = some R := fnW (by decide) rfl (Eq.trans (b := nf_i_cloneTerm CC LL a0 a1 a2 a3 a40 a41 a42 a5 a6) (by kernel_rfl) h)
noncomputable def nf_l_markTermS (C : CallT) (L : LoopT) (a : List CVal) (b : Int) : Option Ret :=
 (L f_l_markTermS 0 lc_l_markTermS_0 [PSh.arr (Md.mk true true 0) false 9] k_l_markTermS_0
 (((), b, 0, ()), a, ())).bind
 fun r =>
 loK r (fun r => some r) fun j p => br (j == 0) (some (CVal.int i64 p.fst.snd.1, [p.snd.1])) none
theorem go_l_markTermS (a : List CVal) (b : Int) (R : Ret) (h : nf_l_markTermS CC LL a b = some R) : CC f_l_markTermS [AVal.lref 0 0, AVal.v (CVal.int i64 b)] [PB.arr (Md.mk true true 0) false 9 a] = some R := fnW (by decide) rfl (Eq.trans (b := nf_l_markTermS CC LL a b) (by kernel_rfl) h)
noncomputable def nf_s_l2CopyTys (C : CallT) (L : LoopT) (a : List CVal) : Option Ret :=
 (L f_s_l2CopyTys 0 lc_s_l2CopyTys_0 [] k_s_l2CopyTys_0
 ((a, (), 0, ()), [], ())).bind
 fun r => loK r (fun r => some r) fun j p => br (j == 0) (some (CVal.sl p.snd.1, [])) none
theorem go_s_l2CopyTys (a : List CVal) (R : Ret) (h : nf_s_l2CopyTys CC LL a = some R) : CC f_s_l2CopyTys [AVal.v (CVal.sl a)] [] = some R := fnW (by decide) rfl (Eq.trans (b := nf_s_l2CopyTys CC LL a) (by kernel_rfl) h)
noncomputable def nf_s_l2One (C : CallT) (L : LoopT) (a0 : Int) (a1 : Int) (a2 : List UInt8) (a3 : List UInt8) (a40 : Int) (a41 : Int) (a42 : List CVal) (a5 : List CVal) (a6 : List CVal) : Option Ret :=
 (C f_s_l2Of [AVal.v (CVal.int i64 a0)] []).bind fun r =>
 br (CVal.isAggN 5 r.1)
 ((r.1.cell 0).bind fun c =>
 (r.1.cell 1).bind fun c_1 =>
 (r.1.cell 2).bind fun c_2 =>
 (r.1.cell 3).bind fun c_3 =>
 (r.1.cell 4).bind fun c_4 =>
 ((CVal.asInt i64 c).bind fun n =>
 br (!decide ((↑a6.length : Int) = n)) (some (true, ()))
 ((C f_s_l2Number
 [AVal.v
 (CVal.agg
 [CVal.int i64 a0, CVal.int i64 a1, CVal.str a2, CVal.str a3,
 CVal.int i64 a40, CVal.int i64 a41, CVal.sl a42, CVal.sl a5,
 CVal.sl a6])]
 []).bind
 fun r =>
 r.1.asBool.bind fun b =>
 br (!b) (some (true, ()))
 ((C f_s_l2Name [AVal.v (CVal.str a2), AVal.v (CVal.bool false)] []).bind fun r =>
 c_2.asBool.bind fun b =>
 r.1.asBool.bind fun b_1 =>
 br (!b == b_1) (some (true, ()))
 (c_2.asBool.bind fun b =>
 br (!b)
 (br (!decide (a2 = [])) (some (true, ()))
 ((C f_s_l2Name [AVal.v (CVal.str a3), AVal.v (CVal.bool false)] []).bind
 fun r =>
 c_3.asBool.bind fun b =>
 r.1.asBool.bind fun b_2 =>
 br (!b == b_2) (some (true, ()))
 (c_3.asBool.bind fun b =>
 br (!b)
 (br (!decide (a3 = [])) (some (true, ()))
 (c_3.asBool.bind fun b =>
 br b (some (decide (a2 = a3), ()))
 (some (false, ()))))
 (c_3.asBool.bind fun b =>
 br b (some (decide (a2 = a3), ()))
 (some (false, ()))))))
 ((C f_s_l2Name [AVal.v (CVal.str a3), AVal.v (CVal.bool false)] []).bind
 fun r =>
 c_3.asBool.bind fun b =>
 r.1.asBool.bind fun b_2 =>
 br (!b == b_2) (some (true, ()))
 (c_3.asBool.bind fun b =>
 br (!b)
 (br (!decide (a3 = [])) (some (true, ()))
 (c_3.asBool.bind fun b =>
 br b (some (decide (a2 = a3), ()))
 (some (false, ()))))
 (c_3.asBool.bind fun b =>
 br b (some (decide (a2 = a3), ()))
 (some (false, ()))))))))).bind
 fun y =>
 br y.1 (some (CVal.bool false, []))
 (((C f_s_TyOk [AVal.v (CVal.agg [CVal.int i64 a40, CVal.int i64 a41, CVal.sl a42])]
 []).bind
 fun r =>
 c_4.asBool.bind fun b =>
 r.1.asBool.bind fun b_1 =>
 br (!b == b_1) (some (true, ()))
 (c_4.asBool.bind fun b =>
 br (!b)
 ((C f_s_SameTy
 [AVal.v
 (CVal.agg
 [CVal.int i64 a40, CVal.int i64 a41, CVal.sl a42]),
 AVal.v
 (CVal.agg
 [CVal.int i64 0, CVal.int i64 0,
 CVal.sl []])]
 []).bind
 fun r =>
 br (!scalar r.1) none
 (r.1.asBool.bind fun b =>
 br (!b) (some (true, ()))
 (br (decide (2 < (↑a5.length : Int))) (some (true, ()))
 (br (!decide (a0 = 3))
 (some (decide (0 < (↑a5.length : Int)), ()))
 (some (false, ()))))))
 (br (decide (2 < (↑a5.length : Int))) (some (true, ()))
 (br (!decide (a0 = 3))
 (some (decide (0 < (↑a5.length : Int)), ()))
 (some (false, ())))))).bind
 fun y =>
 br y.1 (some (CVal.bool false, []))
 ((L f_s_l2One 0 lc_s_l2One_0 [] k_s_l2One_0
 (((), 0, ()), (a0, a1, a2, a3, a40, a41, a42, a5, a6, ()),
 ())).bind
 fun r =>
 loK r (fun r => some r) fun j p =>
 br (j == 0)
 ((br (!decide (p.snd.fst.1 = 7)) (some (true, ()))
 (p.snd.fst.snd.snd.snd.snd.snd.snd.snd.snd.1[0]?.bind fun y =>
 br (CVal.fits true 9 y)
 ((y.cell 0).bind fun c =>
 (CVal.asInt i64 c).bind fun n =>
 some (decide (n = 4), ()))
 none)).bind
 fun y => some (CVal.bool y.1, []))
 none)))
 none
theorem go_s_l2One (a0 : Int) (a1 : Int) (a2 : List UInt8) (a3 : List UInt8) (a40 : Int) (a41 : Int) (a42 : List CVal) (a5 : List CVal) (a6 : List CVal) (R : Ret) (h : nf_s_l2One CC LL a0 a1 a2 a3 a40 a41 a42 a5 a6 = some R) : CC f_s_l2One [AVal.v
 (CVal.agg
 [CVal.int i64 a0, CVal.int i64 a1, CVal.str a2, CVal.str a3, CVal.int i64 a40,
 CVal.int i64 a41, CVal.sl a42, CVal.sl a5, CVal.sl a6])] [] = some R := fnW (by decide) rfl (Eq.trans (b := nf_s_l2One CC LL a0 a1 a2 a3 a40 a41 a42 a5 a6) (by kernel_rfl) h)
noncomputable def nf_s_SameTy (C : CallT) (L : LoopT) (a0 : Int) (a1 : Int) (a2 : List CVal) (b0 : Int) (b1 : Int) (b2 : List CVal) : Option Ret :=
 (br (!decide (a0 = b0)) (some (true, ()))
 (br (!decide (a1 = b1)) (some (true, ()))
 (some (!decide ((↑a2.length : Int) = (↑b2.length : Int)), ())))).bind
 fun y =>
 br y.1 (some (CVal.bool false, []))
 ((L f_s_SameTy 0 lc_s_SameTy_0 [] k_s_SameTy_0
 (((), (), 0, ()), (a0, a1, a2, ()), (b0, b1, b2, ()),
 ())).bind
 fun r => loK r (fun r => some r) fun j p => br (j == 0) (some (CVal.bool true, [])) none)
theorem go_s_SameTy (a0 : Int) (a1 : Int) (a2 : List CVal) (b0 : Int) (b1 : Int) (b2 : List CVal) (R : Ret) (h : nf_s_SameTy CC LL a0 a1 a2 b0 b1 b2 = some R) : CC f_s_SameTy [AVal.v (CVal.agg [CVal.int i64 a0, CVal.int i64 a1, CVal.sl a2]),
 AVal.v (CVal.agg [CVal.int i64 b0, CVal.int i64 b1, CVal.sl b2])] [] = some R := fnW (by decide) rfl (Eq.trans (b := nf_s_SameTy CC LL a0 a1 a2 b0 b1 b2) (by kernel_rfl) h)
noncomputable def nf_i_hasT (C : CallT) (L : LoopT) (a : Int) : Option Ret :=
 (br (decide (a = 4)) (some (true, ()))
 (br (decide (a = 7)) (some (true, ()))
 (br (decide (a = 12)) (some (true, ())) (some (decide (a = 16), ()))))).bind
 fun y => some (CVal.bool y.1, [])
theorem go_i_hasT (a : Int) (R : Ret) (h : nf_i_hasT CC LL a = some R) : CC f_i_hasT [AVal.v (CVal.int i64 a)] [] = some R := fnW (by decide) rfl (Eq.trans (b := nf_i_hasT CC LL a) (by kernel_rfl) h)
noncomputable def nf_i_isName (C : CallT) (L : LoopT) (a : List UInt8) : Option Ret :=
 (L f_i_isName 0 lc_i_isName_0 [] k_i_isName_0 ((a, (↑a.length : Int), 0, ()), ())).bind
 fun r =>
 loK r (fun r => some r) fun j p =>
 br (j == 0)
 ((C f_i_in
 [AVal.v (CVal.int i64 (↑(List.length p.fst.1) : Int)), AVal.v (CVal.int i64 1),
 AVal.v (CVal.int i64 8)]
 []).bind
 fun r => some (r.1, []))
 none
theorem go_i_isName (a : List UInt8) (R : Ret) (h : nf_i_isName CC LL a = some R) : CC f_i_isName [AVal.v (CVal.str a)] [] = some R := fnW (by decide) rfl (Eq.trans (b := nf_i_isName CC LL a) (by kernel_rfl) h)
noncomputable def nl_l_szTyS_0 (C : CallT) (L : LoopT) (x00 : List CVal) (x01 : Int) (x02 : Int) : Option (LO k_l_szTyS_0.T) :=
 br (decide (x02 < (↑x00.length : Int)))
 (br (decide (0 ≤ x02) && true)
 (x00[x02.toNat]?.bind fun y =>
 br (CVal.fits true 3 y)
 ((y.sub 0 3).bind fun y =>
 (C f_l_szTy [AVal.v y, AVal.v (CVal.int i64 x01)] []).bind fun r =>
 (CVal.asInt i64 r.1).bind fun n =>
 br (decide (n < 0)) (some (LO.ret (CVal.int i64 (-1 : Int), [])))
 ((CVal.asInt i64 r.1).bind fun n =>
 L f_l_szTyS 0 lc_l_szTyS_0 [] k_l_szTyS_0
 ((x00, n, i64.wrap (x02 + 1), ()), ())))
 none)
 none)
 (some (LO.out 0 ((x00, x01, x02, ()), ())))
theorem gl_l_szTyS_0 (x00 : List CVal) (x01 : Int) (x02 : Int) (R : LO k_l_szTyS_0.T) (h : nl_l_szTyS_0 CC LL x00 x01 x02 = some R) : LL f_l_szTyS 0 lc_l_szTyS_0 [] k_l_szTyS_0 ((x00, x01, x02, ()), ()) = some R := loopW (Eq.trans (b := nl_l_szTyS_0 CC LL x00 x01 x02) (by kernel_rfl) h)
noncomputable def nl_i_cloneTerm_2 (C : CallT) (L : LoopT) (x02 : List CVal) (x03 : Int) (x04 : Int) (x10 : Int) (x11 : Int) (x12 : List UInt8) (x13 : List UInt8) (x14 : Int) (x15 : Int) (x2 : List CVal) (x3 : List CVal) (x4 : List CVal) (x50 : Int) (x51 : Int) (x52 : List UInt8) (x53 : List UInt8) (x54 : Int) (x55 : Int) (x6 : List CVal) (x7 : List CVal) (x8 : List CVal) : Option (LO k_i_cloneTerm_2.T) :=
 br (decide (x04 < x03))
 (br (decide (0 ≤ x04) && true)
 (x02[x04.toNat]?.bind fun y =>
 br (CVal.fits true 9 y)
 ((y.sub 0 9).bind fun y =>
 br (CVal.isAggN 9 y)
 ((y.cell 0).bind fun c =>
 (y.cell 1).bind fun c_1 =>
 (y.cell 2).bind fun c_2 =>
 (y.cell 3).bind fun c_3 =>
 (y.cell 4).bind fun c_4 =>
 (y.cell 5).bind fun c_5 =>
 (y.cell 6).bind fun c_6 =>
 (y.cell 7).bind fun c_7 =>
 (y.cell 8).bind fun c_8 =>
 (C f_i_cloneTerm [AVal.v (CVal.agg [c, c_1, c_2, c_3, c_4, c_5, c_6, c_7, c_8])] []).bind
 fun r =>
 br (CVal.isAggN 9 r.1)
 ((r.1.cell 0).bind fun c =>
 (r.1.cell 1).bind fun c_9 =>
 (r.1.cell 2).bind fun c_10 =>
 (r.1.cell 3).bind fun c_11 =>
 (r.1.cell 4).bind fun c_12 =>
 (r.1.cell 5).bind fun c_13 =>
 (r.1.cell 6).bind fun c_14 =>
 (r.1.cell 7).bind fun c_15 =>
 (r.1.cell 8).bind fun c_16 =>
 c_14.asSl.bind fun xs =>
 c_15.asSl.bind fun xs_1 =>
 c_16.asSl.bind fun xs_2 =>
 (CVal.asInt i64 c).bind fun n =>
 (CVal.asInt i64 c_9).bind fun n_1 =>
 c_10.asStr.bind fun s =>
 c_11.asStr.bind fun s_1 =>
 (CVal.asInt i64 c_12).bind fun n_2 =>
 (CVal.asInt i64 c_13).bind fun n_3 =>
 br
 (decide
 (x8.length + 1 ≤
 4294967296) &&
 true &&
 true)
 (L f_i_cloneTerm 2 lc_i_cloneTerm_2 []
 k_i_cloneTerm_2
 (((), (), x02, x03,
 i64.wrap (x04 + 1),
 ()),
 (x10, x11, x12, x13, x14, x15, (),
 (), (), ()),
 x2, x3, x4,
 (x50, x51, x52, x53, x54, x55, (),
 (), (), ()),
 x6, x7,
 x8 ++
 [CVal.agg
 [CVal.int i64 n,
 CVal.int i64 n_1,
 CVal.str s, CVal.str s_1,
 CVal.int i64 n_2,
 CVal.int i64 n_3,
 CVal.sl xs, CVal.sl xs_1,
 CVal.sl xs_2]],
 ()))
 none)
 none)
 none)
 none)
 none)
 (some
 (LO.out 2
 (((), (), x02, x03, x04, ()),
 (x10, x11, x12, x13, x14, x15, (), (), (), ()), x2, x3, x4,
 (x50, x51, x52, x53, x54, x55, (), (), (), ()), x6, x7, x8, ())))
theorem gl_i_cloneTerm_2 (x02 : List CVal) (x03 : Int) (x04 : Int) (x10 : Int) (x11 : Int) (x12 : List UInt8) (x13 : List UInt8) (x14 : Int) (x15 : Int) (x2 : List CVal) (x3 : List CVal) (x4 : List CVal) (x50 : Int) (x51 : Int) (x52 : List UInt8) (x53 : List UInt8) (x54 : Int) (x55 : Int) (x6 : List CVal) (x7 : List CVal) (x8 : List CVal) (R : LO k_i_cloneTerm_2.T) (h : nl_i_cloneTerm_2 CC LL x02 x03 x04 x10 x11 x12 x13 x14 x15 x2 x3 x4 x50 x51 x52 x53 x54 x55 x6 x7 x8 = some R) : LL f_i_cloneTerm 2 lc_i_cloneTerm_2 [] k_i_cloneTerm_2 (((), (), x02, x03, x04, ()), (x10, x11, x12, x13, x14, x15, (), (), (), ()), x2, x3, x4,
 (x50, x51, x52, x53, x54, x55, (), (), (), ()), x6, x7, x8, ()) = some R := loopW (Eq.trans (b := nl_i_cloneTerm_2 CC LL x02 x03 x04 x10 x11 x12 x13 x14 x15 x2 x3 x4 x50 x51 x52 x53 x54 x55 x6 x7 x8) (by kernel_rfl) h)
noncomputable def nl_l_heldTyS_0 (C : CallT) (L : LoopT) (x00 : List CVal) (x01 : Int) (x02 : Int) : Option (LO k_l_heldTyS_0.T) :=
 br (decide (x02 < (↑x00.length : Int)))
 (br (decide (0 ≤ x02) && true)
 (x00[x02.toNat]?.bind fun y =>
 br (CVal.fits true 3 y)
 ((y.cell 0).bind fun c =>
 (CVal.asInt i64 c).bind fun n =>
 br (!decide (n = x01)) (some (LO.ret (CVal.int i64 (-1 : Int), [])))
 (br (decide (0 ≤ x02) && true)
 (x00[x02.toNat]?.bind fun y =>
 br (CVal.fits true 3 y)
 ((y.cell 1).bind fun c =>
 (CVal.asInt i64 c).bind fun n =>
 br (!decide (n = i64.wrap (x01 + 1)))
 (some (LO.ret (CVal.int i64 (-1 : Int), [])))
 (br (decide (0 ≤ x02) && true)
 (x00[x02.toNat]?.bind fun y =>
 br (CVal.fits true 3 y)
 ((y.cell 2).bind fun c =>
 (C f_l_heldTyS
 [AVal.v c,
 AVal.v
 (CVal.int i64
 (i64.wrap (i64.wrap (x01 + 1) + 1)))]
 []).bind
 fun r =>
 (CVal.asInt i64 r.1).bind fun n =>
 br (decide (n < 0)) (some (LO.ret (CVal.int i64 (-1 : Int), [])))
 ((CVal.asInt i64 r.1).bind fun n =>
 L f_l_heldTyS 0 lc_l_heldTyS_0 [] k_l_heldTyS_0
 ((x00, n, i64.wrap (x02 + 1), ()), ())))
 none)
 none))
 none)
 none))
 none)
 none)
 (some (LO.out 0 ((x00, x01, x02, ()), ())))
theorem gl_l_heldTyS_0 (x00 : List CVal) (x01 : Int) (x02 : Int) (R : LO k_l_heldTyS_0.T) (h : nl_l_heldTyS_0 CC LL x00 x01 x02 = some R) : LL f_l_heldTyS 0 lc_l_heldTyS_0 [] k_l_heldTyS_0 ((x00, x01, x02, ()), ()) = some R := loopW (Eq.trans (b := nl_l_heldTyS_0 CC LL x00 x01 x02) (by kernel_rfl) h)
noncomputable def nl_i_nodesIn_0 (C : CallT) (L : LoopT) (x01 : List CVal) (x02 : Int) (x03 : Int) (x1 : List CVal) : Option (LO k_i_nodesIn_0.T) :=
 br (decide (x03 < x02))
 (br (decide (0 ≤ x03) && true)
 (x01[x03.toNat]?.bind fun y =>
 br (CVal.fits false 1 y)
 ((y.cell 0).bind fun c =>
 (C f_i_nodesIn [AVal.v c, AVal.lref 0 0]
 [PB.arr (Md.mk true false 0) false 1 x1]).bind
 fun r =>
 r.2[0]?.bind fun y =>
 L f_i_nodesIn 0 lc_i_nodesIn_0 [PSh.arr (Md.mk true false 0) false 1]
 k_i_nodesIn_0 (((), x01, x02, i64.wrap (x03 + 1), ()), y, ()))
 none)
 none)
 (some (LO.out 0 (((), x01, x02, x03, ()), x1, ())))
theorem gl_i_nodesIn_0 (x01 : List CVal) (x02 : Int) (x03 : Int) (x1 : List CVal) (R : LO k_i_nodesIn_0.T) (h : nl_i_nodesIn_0 CC LL x01 x02 x03 x1 = some R) : LL f_i_nodesIn 0 lc_i_nodesIn_0 [PSh.arr (Md.mk true false 0) false 1] k_i_nodesIn_0 (((), x01, x02, x03, ()), x1, ()) = some R := loopW (Eq.trans (b := nl_i_nodesIn_0 CC LL x01 x02 x03 x1) (by kernel_rfl) h)
noncomputable def nl_s_SameTy_0 (C : CallT) (L : LoopT) (x02 : Int) (x10 : Int) (x11 : Int) (x12 : List CVal) (x20 : Int) (x21 : Int) (x22 : List CVal) : Option (LO k_s_SameTy_0.T) :=
 br (decide (x02 < (↑x12.length : Int)))
 (br (decide (0 ≤ x02) && true)
 (x12[x02.toNat]?.bind fun y =>
 br (CVal.fits true 3 y)
 ((y.sub 0 3).bind fun y =>
 br (decide (0 ≤ x02) && true)
 (x22[x02.toNat]?.bind fun y_1 =>
 br (CVal.fits true 3 y_1)
 ((y_1.sub 0 3).bind fun y_2 =>
 (C f_s_SameTy [AVal.v y, AVal.v y_2] []).bind fun r =>
 r.1.asBool.bind fun b =>
 br (!b) (some (LO.ret (CVal.bool false, [])))
 (L f_s_SameTy 0 lc_s_SameTy_0 [] k_s_SameTy_0
 (((), (), i64.wrap (x02 + 1), ()),
 (x10, x11, x12, ()), (x20, x21, x22, ()), ())))
 none)
 none)
 none)
 none)
 (some
 (LO.out 0
 (((), (), x02, ()), (x10, x11, x12, ()), (x20, x21, x22, ()),
 ())))
theorem gl_s_SameTy_0 (x02 : Int) (x10 : Int) (x11 : Int) (x12 : List CVal) (x20 : Int) (x21 : Int) (x22 : List CVal) (R : LO k_s_SameTy_0.T) (h : nl_s_SameTy_0 CC LL x02 x10 x11 x12 x20 x21 x22 = some R) : LL f_s_SameTy 0 lc_s_SameTy_0 [] k_s_SameTy_0 (((), (), x02, ()), (x10, x11, x12, ()), (x20, x21, x22, ()), ()) = some R := loopW (Eq.trans (b := nl_s_SameTy_0 CC LL x02 x10 x11 x12 x20 x21 x22) (by kernel_rfl) h)
end Go.Proofs.Ytpmpjgfikdjpfaa.Abs
