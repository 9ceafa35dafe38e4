/- What the functions come to in the abstract machine. -/
import Derived.Test.YthnjnnnobipnfaaD1Ann
import Derived.KernelRfl
set_option linter.unusedVariables false
set_option maxRecDepth 100000
namespace Go.Proofs.Ythnjnnnobipnfaa.Abs
open Go Go.Proofs Go.IntKind
noncomputable def nf_s_Lambdas (C : CallT) (L : LoopT) (a0 : Int) (a1 : Int) (a2 : List UInt8) (a3 : List UInt8) (a40 : Int) (a41 : Int) (a42 : List CVal) (a5 : List CVal) (a6 : List CVal) : Option Ret :=
 (C f_s_l6Lambdas
 [AVal.v
 (CVal.agg
 [CVal.int i64 a0, CVal.int i64 a1, CVal.str a2, CVal.str a3, CVal.int i64 a40,
 CVal.int i64 a41, CVal.sl a42, CVal.sl a5, CVal.sl a6])]
 []).bind
 fun r => r.1.asSl.bind fun xs => some (CVal.int i64 (↑xs.length : Int), [])
theorem go_s_Lambdas (a0 : Int) (a1 : Int) (a2 : List UInt8) (a3 : List UInt8) (a40 : Int) (a41 : Int) (a42 : List CVal) (a5 : List CVal) (a6 : List CVal) (R : Ret) (h : nf_s_Lambdas CC LL a0 a1 a2 a3 a40 a41 a42 a5 a6 = some R) : CC f_s_Lambdas [AVal.v
 (CVal.agg
 [CVal.int i64 a0, CVal.int i64 a1, CVal.str a2, CVal.str a3, CVal.int i64 a40,
 CVal.int i64 a41, CVal.sl a42, CVal.sl a5, CVal.sl a6])] [] = some R := fnW (by decide) rfl (Eq.trans (b := nf_s_Lambdas CC LL a0 a1 a2 a3 a40 a41 a42 a5 a6) (by kernel_rfl) h)
noncomputable def nf_l_heldTerm (C : CallT) (L : LoopT) (a0 : Int) (a1 : Int) (a2 : List UInt8) (a3 : List UInt8) (a40 : Int) (a41 : Int) (a42 : List CVal) (a5 : List CVal) (a6 : List CVal) (b : Int) : Option Ret :=
 (C f_l_heldTy
 [AVal.v (CVal.agg [CVal.int i64 a40, CVal.int i64 a41, CVal.sl a42]),
 AVal.v (CVal.int i64 b)]
 []).bind
 fun r =>
 (CVal.asInt i64 r.1).bind fun n =>
 br (decide (n < 0)) (some (CVal.int i64 (-1 : Int), []))
 ((C f_l_heldTyS [AVal.v (CVal.sl a5), AVal.v r.1] []).bind fun r =>
 (CVal.asInt i64 r.1).bind fun n =>
 br (decide (n < 0)) (some (CVal.int i64 (-1 : Int), []))
 ((C f_l_heldTermS [AVal.v (CVal.sl a6), AVal.v r.1] []).bind fun r =>
 (CVal.asInt i64 r.1).bind fun n =>
 br (decide (n < 0)) (some (CVal.int i64 (-1 : Int), [])) (some (r.1, []))))
theorem go_l_heldTerm (a0 : Int) (a1 : Int) (a2 : List UInt8) (a3 : List UInt8) (a40 : Int) (a41 : Int) (a42 : List CVal) (a5 : List CVal) (a6 : List CVal) (b : Int) (R : Ret) (h : nf_l_heldTerm CC LL a0 a1 a2 a3 a40 a41 a42 a5 a6 b = some R) : CC f_l_heldTerm [AVal.v
 (CVal.agg
 [CVal.int i64 a0, CVal.int i64 a1, CVal.str a2, CVal.str a3, CVal.int i64 a40,
 CVal.int i64 a41, CVal.sl a42, CVal.sl a5, CVal.sl a6]),
 AVal.v (CVal.int i64 b)] [] = some R := fnW (by decide) rfl (Eq.trans (b := nf_l_heldTerm CC LL a0 a1 a2 a3 a40 a41 a42 a5 a6 b) (by kernel_rfl) h)
noncomputable def nf_l_toTermS (C : CallT) (L : LoopT) (a : List CVal) : Option Ret :=
 br (decide ((↑a.length : Int) = (↑a.length : Int)) && decide ((↑a.length : Int) ≤ 1048576))
 ((L f_l_toTermS 0 lc_l_toTermS_0 [] k_l_toTermS_0
 ((a, (), 0, ()),
 List.replicate (↑a.length : Int).toNat
 (CVal.agg
 [CVal.int i64 0, CVal.int i64 0, CVal.str [], CVal.str [],
 CVal.int i64 0, CVal.int i64 0, CVal.sl [], CVal.sl [], CVal.sl []]),
 ())).bind
 fun r => loK r (fun r => some r) fun j p => br (j == 0) (some (CVal.sl p.snd.1, [])) none)
 none
theorem go_l_toTermS (a : List CVal) (R : Ret) (h : nf_l_toTermS CC LL a = some R) : CC f_l_toTermS [AVal.v (CVal.sl a)] [] = some R := fnW (by decide) rfl (Eq.trans (b := nf_l_toTermS CC LL a) (by kernel_rfl) h)
noncomputable def nf_s_l1In (C : CallT) (L : LoopT) (a : Int) (b : Int) (c : Int) : Option Ret :=
 (br (decide (b ≤ a)) (some (decide (a ≤ c), ())) (some (false, ()))).bind fun y =>
 some (CVal.bool y.1, [])
theorem go_s_l1In (a : Int) (b : Int) (c : Int) (R : Ret) (h : nf_s_l1In CC LL a b c = some R) : CC f_s_l1In [AVal.v (CVal.int i64 a), AVal.v (CVal.int i64 b), AVal.v (CVal.int i64 c)] [] = some R := fnW (by decide) rfl (Eq.trans (b := nf_s_l1In CC LL a b c) (by kernel_rfl) h)
noncomputable def nf_l_markTermS (C : CallT) (L : LoopT) (a : List CVal) (b : Int) : Option Ret :=
 (L f_l_markTermS 0 lc_l_markTermS_0 [PSh.arr (Md.mk true true 0) false 9] k_l_markTermS_0
 (((), b, 0, ()), a, ())).bind
 fun r =>
 loK r (fun r => some r) fun j p => br (j == 0) (some (CVal.int i64 p.fst.snd.1, [p.snd.1])) none
theorem go_l_markTermS (a : List CVal) (b : Int) (R : Ret) (h : nf_l_markTermS CC LL a b = some R) : CC f_l_markTermS [AVal.lref 0 0, AVal.v (CVal.int i64 b)] [PB.arr (Md.mk true true 0) false 9 a] = some R := fnW (by decide) rfl (Eq.trans (b := nf_l_markTermS CC LL a b) (by kernel_rfl) h)
noncomputable def nf_i_allNodes (C : CallT) (L : LoopT) (a0 : Int) (a1 : Int) (a2 : List UInt8) (a3 : List UInt8) (a40 : Int) (a41 : Int) (a42 : List CVal) (a5 : List CVal) (a6 : List CVal) : Option Ret :=
 (C f_i_TermOk
 [AVal.v
 (CVal.agg
 [CVal.int i64 a0, CVal.int i64 a1, CVal.str a2, CVal.str a3, CVal.int i64 a40,
 CVal.int i64 a41, CVal.sl a42, CVal.sl a5, CVal.sl a6])]
 []).bind
 fun r =>
 r.1.asBool.bind fun b =>
 br (!b) (some (CVal.sl [], []))
 ((C f_i_numbered
 [AVal.v
 (CVal.agg
 [CVal.int i64 a0, CVal.int i64 a1, CVal.str a2, CVal.str a3, CVal.int i64 a40,
 CVal.int i64 a41, CVal.sl a42, CVal.sl a5, CVal.sl a6]),
 AVal.lptr 0 0]
 [PB.box [AVal.v (CVal.int i64 0)]]).bind
 fun r =>
 r.2[0]?.bind fun y =>
 y[0]?.bind fun y =>
 (C f_i_nodesIn [AVal.v r.1, AVal.lref 0 0]
 [PB.arr (Md.mk true false 0) false 1 []]).bind
 fun r => r.2[0]?.bind fun y => some (CVal.sl y, []))
theorem go_i_allNodes (a0 : Int) (a1 : Int) (a2 : List UInt8) (a3 : List UInt8) (a40 : Int) (a41 : Int) (a42 : List CVal) (a5 : List CVal) (a6 : List CVal) (R : Ret) (h : nf_i_allNodes CC LL a0 a1 a2 a3 a40 a41 a42 a5 a6 = some R) : CC f_i_allNodes [AVal.v
 (CVal.agg
 [CVal.int i64 a0, CVal.int i64 a1, CVal.str a2, CVal.str a3, CVal.int i64 a40,
 CVal.int i64 a41, CVal.sl a42, CVal.sl a5, CVal.sl a6])] [] = some R := fnW (by decide) rfl (Eq.trans (b := nf_i_allNodes CC LL a0 a1 a2 a3 a40 a41 a42 a5 a6) (by kernel_rfl) h)
noncomputable def nf_l_markText (C : CallT) (L : LoopT) (a : Int) : Option Ret :=
 br (decide (a ≤ 0)) (some (CVal.str [(109 : UInt8), (48 : UInt8)], []))
 ((L f_l_markText 0 lc_l_markText_0 [] k_l_markText_0 ((a, [], ()), ())).bind fun r =>
 loK r (fun r => some r) fun j p =>
 br (j == 0)
 (br (decide (1 + List.length p.fst.snd.1 ≤ 1152921504606846976))
 (some (CVal.str ([(109 : UInt8)] ++ p.fst.snd.1), [])) none)
 none)
theorem go_l_markText (a : Int) (R : Ret) (h : nf_l_markText CC LL a = some R) : CC f_l_markText [AVal.v (CVal.int i64 a)] [] = some R := fnW (by decide) rfl (Eq.trans (b := nf_l_markText CC LL a) (by kernel_rfl) h)
noncomputable def nf_s_l2One (C : CallT) (L : LoopT) (a0 : Int) (a1 : Int) (a2 : List UInt8) (a3 : List UInt8) (a40 : Int) (a41 : Int) (a42 : List CVal) (a5 : List CVal) (a6 : List CVal) : Option Ret :=
 (C f_s_l2Of [AVal.v (CVal.int i64 a0)] []).bind fun r =>
 br (CVal.isAggN 5 r.1)
 ((r.1.cell 0).bind fun c =>
 (r.1.cell 1).bind fun c_1 =>
 (r.1.cell 2).bind fun c_2 =>
 (r.1.cell 3).bind fun c_3 =>
 (r.1.cell 4).bind fun c_4 =>
 ((CVal.asInt i64 c).bind fun n =>
 br (!decide ((↑a6.length : Int) = n)) (some (true, ()))
 ((C f_s_l2Number
 [AVal.v
 (CVal.agg
 [CVal.int i64 a0, CVal.int i64 a1, CVal.str a2, CVal.str a3,
 CVal.int i64 a40, CVal.int i64 a41, CVal.sl a42, CVal.sl a5,
 CVal.sl a6])]
 []).bind
 fun r =>
 r.1.asBool.bind fun b =>
 br (!b) (some (true, ()))
 ((C f_s_l2Name [AVal.v (CVal.str a2), AVal.v (CVal.bool false)] []).bind fun r =>
 c_2.asBool.bind fun b =>
 r.1.asBool.bind fun b_1 =>
 br (!b == b_1) (some (true, ()))
 (c_2.asBool.bind fun b =>
 br (!b)
 (br (!decide (a2 = [])) (some (true, ()))
 ((C f_s_l2Name [AVal.v (CVal.str a3), AVal.v (CVal.bool false)] []).bind
 fun r =>
 c_3.asBool.bind fun b =>
 r.1.asBool.bind fun b_2 =>
 br (!b == b_2) (some (true, ()))
 (c_3.asBool.bind fun b =>
 br (!b)
 (br (!decide (a3 = [])) (some (true, ()))
 (c_3.asBool.bind fun b =>
 br b (some (decide (a2 = a3), ()))
 (some (false, ()))))
 (c_3.asBool.bind fun b =>
 br b (some (decide (a2 = a3), ()))
 (some (false, ()))))))
 ((C f_s_l2Name [AVal.v (CVal.str a3), AVal.v (CVal.bool false)] []).bind
 fun r =>
 c_3.asBool.bind fun b =>
 r.1.asBool.bind fun b_2 =>
 br (!b == b_2) (some (true, ()))
 (c_3.asBool.bind fun b =>
 br (!b)
 (br (!decide (a3 = [])) (some (true, ()))
 (c_3.asBool.bind fun b =>
 br b (some (decide (a2 = a3), ()))
 (some (false, ()))))
 (c_3.asBool.bind fun b =>
 br b (some (decide (a2 = a3), ()))
 (some (false, ()))))))))).bind
 fun y =>
 br y.1 (some (CVal.bool false, []))
 (((C f_s_TyOk [AVal.v (CVal.agg [CVal.int i64 a40, CVal.int i64 a41, CVal.sl a42])]
 []).bind
 fun r =>
 c_4.asBool.bind fun b =>
 r.1.asBool.bind fun b_1 =>
 br (!b == b_1) (some (true, ()))
 (c_4.asBool.bind fun b =>
 br (!b)
 ((C f_s_SameTy
 [AVal.v
 (CVal.agg
 [CVal.int i64 a40, CVal.int i64 a41, CVal.sl a42]),
 AVal.v
 (CVal.agg
 [CVal.int i64 0, CVal.int i64 0,
 CVal.sl []])]
 []).bind
 fun r =>
 br (!scalar r.1) none
 (r.1.asBool.bind fun b =>
 br (!b) (some (true, ()))
 (br (decide (2 < (↑a5.length : Int))) (some (true, ()))
 (br (!decide (a0 = 3))
 (some (decide (0 < (↑a5.length : Int)), ()))
 (some (false, ()))))))
 (br (decide (2 < (↑a5.length : Int))) (some (true, ()))
 (br (!decide (a0 = 3))
 (some (decide (0 < (↑a5.length : Int)), ()))
 (some (false, ())))))).bind
 fun y =>
 br y.1 (some (CVal.bool false, []))
 ((L f_s_l2One 0 lc_s_l2One_0 [] k_s_l2One_0
 (((), 0, ()), (a0, a1, a2, a3, a40, a41, a42, a5, a6, ()),
 ())).bind
 fun r =>
 loK r (fun r => some r) fun j p =>
 br (j == 0)
 ((br (!decide (p.snd.fst.1 = 7)) (some (true, ()))
 (p.snd.fst.snd.snd.snd.snd.snd.snd.snd.snd.1[0]?.bind fun y =>
 br (CVal.fits true 9 y)
 ((y.cell 0).bind fun c =>
 (CVal.asInt i64 c).bind fun n =>
 some (decide (n = 4), ()))
 none)).bind
 fun y => some (CVal.bool y.1, []))
 none)))
 none
theorem go_s_l2One (a0 : Int) (a1 : Int) (a2 : List UInt8) (a3 : List UInt8) (a40 : Int) (a41 : Int) (a42 : List CVal) (a5 : List CVal) (a6 : List CVal) (R : Ret) (h : nf_s_l2One CC LL a0 a1 a2 a3 a40 a41 a42 a5 a6 = some R) : CC f_s_l2One [AVal.v
 (CVal.agg
 [CVal.int i64 a0, CVal.int i64 a1, CVal.str a2, CVal.str a3, CVal.int i64 a40,
 CVal.int i64 a41, CVal.sl a42, CVal.sl a5, CVal.sl a6])] [] = some R := fnW (by decide) rfl (Eq.trans (b := nf_s_l2One CC LL a0 a1 a2 a3 a40 a41 a42 a5 a6) (by kernel_rfl) h)
noncomputable def nf_s_SameTy (C : CallT) (L : LoopT) (a0 : Int) (a1 : Int) (a2 : List CVal) (b0 : Int) (b1 : Int) (b2 : List CVal) : Option Ret :=
 (br (!decide (a0 = b0)) (some (true, ()))
 (br (!decide (a1 = b1)) (some (true, ()))
 (some (!decide ((↑a2.length : Int) = (↑b2.length : Int)), ())))).bind
 fun y =>
 br y.1 (some (CVal.bool false, []))
 ((L f_s_SameTy 0 lc_s_SameTy_0 [] k_s_SameTy_0
 (((), (), 0, ()), (a0, a1, a2, ()), (b0, b1, b2, ()),
 ())).bind
 fun r => loK r (fun r => some r) fun j p => br (j == 0) (some (CVal.bool true, [])) none)
theorem go_s_SameTy (a0 : Int) (a1 : Int) (a2 : List CVal) (b0 : Int) (b1 : Int) (b2 : List CVal) (R : Ret) (h : nf_s_SameTy CC LL a0 a1 a2 b0 b1 b2 = some R) : CC f_s_SameTy [AVal.v (CVal.agg [CVal.int i64 a0, CVal.int i64 a1, CVal.sl a2]),
 AVal.v (CVal.agg [CVal.int i64 b0, CVal.int i64 b1, CVal.sl b2])] [] = some R := fnW (by decide) rfl (Eq.trans (b := nf_s_SameTy CC LL a0 a1 a2 b0 b1 b2) (by kernel_rfl) h)
noncomputable def nf_i_hasT (C : CallT) (L : LoopT) (a : Int) : Option Ret :=
 (br (decide (a = 4)) (some (true, ()))
 (br (decide (a = 7)) (some (true, ()))
 (br (decide (a = 12)) (some (true, ())) (some (decide (a = 16), ()))))).bind
 fun y => some (CVal.bool y.1, [])
theorem go_i_hasT (a : Int) (R : Ret) (h : nf_i_hasT CC LL a = some R) : CC f_i_hasT [AVal.v (CVal.int i64 a)] [] = some R := fnW (by decide) rfl (Eq.trans (b := nf_i_hasT CC LL a) (by kernel_rfl) h)
noncomputable def nf_i_isName (C : CallT) (L : LoopT) (a : List UInt8) : Option Ret :=
 (L f_i_isName 0 lc_i_isName_0 [] k_i_isName_0 ((a, (↑a.length : Int), 0, ()), ())).bind
 fun r =>
 loK r (fun r => some r) fun j p =>
 br (j == 0)
 ((C f_i_in
 [AVal.v (CVal.int i64 (↑(List.length p.fst.1) : Int)), AVal.v (CVal.int i64 1),
 AVal.v (CVal.int i64 8)]
 []).bind
 fun r => some (r.1, []))
 none
theorem go_i_isName (a : List UInt8) (R : Ret) (h : nf_i_isName CC LL a = some R) : CC f_i_isName [AVal.v (CVal.str a)] [] = some R := fnW (by decide) rfl (Eq.trans (b := nf_i_isName CC LL a) (by kernel_rfl) h)
noncomputable def nl_l_szTyS_0 (C : CallT) (L : LoopT) (x00 : List CVal) (x01 : Int) (x02 : Int) : Option (LO k_l_szTyS_0.T) :=
 br (decide (x02 < (↑x00.length : Int)))
 (br (decide (0 ≤ x02) && true)
 (x00[x02.toNat]?.bind fun y =>
 br (CVal.fits true 3 y)
 ((y.sub 0 3).bind fun y =>
 (C f_l_szTy [AVal.v y, AVal.v (CVal.int i64 x01)] []).bind fun r =>
 (CVal.asInt i64 r.1).bind fun n =>
 br (decide (n < 0)) (some (LO.ret (CVal.int i64 (-1 : Int), [])))
 ((CVal.asInt i64 r.1).bind fun n =>
 L f_l_szTyS 0 lc_l_szTyS_0 [] k_l_szTyS_0
 ((x00, n, i64.wrap (x02 + 1), ()), ())))
 none)
 none)
 (some (LO.out 0 ((x00, x01, x02, ()), ())))
theorem gl_l_szTyS_0 (x00 : List CVal) (x01 : Int) (x02 : Int) (R : LO k_l_szTyS_0.T) (h : nl_l_szTyS_0 CC LL x00 x01 x02 = some R) : LL f_l_szTyS 0 lc_l_szTyS_0 [] k_l_szTyS_0 ((x00, x01, x02, ()), ()) = some R := loopW (Eq.trans (b := nl_l_szTyS_0 CC LL x00 x01 x02) (by kernel_rfl) h)
noncomputable def nl_l_eqTermS_0 (C : CallT) (L : LoopT) (x00 : List CVal) (x01 : List CVal) (x02 : Int) : Option (LO k_l_eqTermS_0.T) :=
 br (decide (x02 < (↑x00.length : Int)))
 (br (decide (0 ≤ x02) && true)
 (x00[x02.toNat]?.bind fun y =>
 br (CVal.fits true 9 y)
 ((y.sub 0 9).bind fun y =>
 br (decide (0 ≤ x02) && true)
 (x01[x02.toNat]?.bind fun y_1 =>
 br (CVal.fits true 9 y_1)
 ((y_1.sub 0 9).bind fun y_2 =>
 (C f_l_eqTerm [AVal.v y, AVal.v y_2] []).bind fun r =>
 r.1.asBool.bind fun b =>
 br (!b) (some (LO.ret (CVal.bool false, [])))
 (L f_l_eqTermS 0 lc_l_eqTermS_0 [] k_l_eqTermS_0
 ((x00, x01, i64.wrap (x02 + 1), ()), ())))
 none)
 none)
 none)
 none)
 (some (LO.out 0 ((x00, x01, x02, ()), ())))
theorem gl_l_eqTermS_0 (x00 : List CVal) (x01 : List CVal) (x02 : Int) (R : LO k_l_eqTermS_0.T) (h : nl_l_eqTermS_0 CC LL x00 x01 x02 = some R) : LL f_l_eqTermS 0 lc_l_eqTermS_0 [] k_l_eqTermS_0 ((x00, x01, x02, ()), ()) = some R := loopW (Eq.trans (b := nl_l_eqTermS_0 CC LL x00 x01 x02) (by kernel_rfl) h)
noncomputable def nl_l_heldTyS_0 (C : CallT) (L : LoopT) (x00 : List CVal) (x01 : Int) (x02 : Int) : Option (LO k_l_heldTyS_0.T) :=
 br (decide (x02 < (↑x00.length : Int)))
 (br (decide (0 ≤ x02) && true)
 (x00[x02.toNat]?.bind fun y =>
 br (CVal.fits true 3 y)
 ((y.cell 0).bind fun c =>
 (CVal.asInt i64 c).bind fun n =>
 br (!decide (n = x01)) (some (LO.ret (CVal.int i64 (-1 : Int), [])))
 (br (decide (0 ≤ x02) && true)
 (x00[x02.toNat]?.bind fun y =>
 br (CVal.fits true 3 y)
 ((y.cell 1).bind fun c =>
 (CVal.asInt i64 c).bind fun n =>
 br (!decide (n = i64.wrap (x01 + 1)))
 (some (LO.ret (CVal.int i64 (-1 : Int), [])))
 (br (decide (0 ≤ x02) && true)
 (x00[x02.toNat]?.bind fun y =>
 br (CVal.fits true 3 y)
 ((y.cell 2).bind fun c =>
 (C f_l_heldTyS
 [AVal.v c,
 AVal.v
 (CVal.int i64
 (i64.wrap (i64.wrap (x01 + 1) + 1)))]
 []).bind
 fun r =>
 (CVal.asInt i64 r.1).bind fun n =>
 br (decide (n < 0)) (some (LO.ret (CVal.int i64 (-1 : Int), [])))
 ((CVal.asInt i64 r.1).bind fun n =>
 L f_l_heldTyS 0 lc_l_heldTyS_0 [] k_l_heldTyS_0
 ((x00, n, i64.wrap (x02 + 1), ()), ())))
 none)
 none))
 none)
 none))
 none)
 none)
 (some (LO.out 0 ((x00, x01, x02, ()), ())))
theorem gl_l_heldTyS_0 (x00 : List CVal) (x01 : Int) (x02 : Int) (R : LO k_l_heldTyS_0.T) (h : nl_l_heldTyS_0 CC LL x00 x01 x02 = some R) : LL f_l_heldTyS 0 lc_l_heldTyS_0 [] k_l_heldTyS_0 ((x00, x01, x02, ()), ()) = some R := loopW (Eq.trans (b := nl_l_heldTyS_0 CC LL x00 x01 x02) (by kernel_rfl) h)
noncomputable def nl_i_cloneTy_0 (C : CallT) (L : LoopT) (x02 : List CVal) (x03 : Int) (x04 : Int) (x10 : Int) (x11 : Int) (x2 : List CVal) (x30 : Int) (x31 : Int) (x4 : List CVal) : Option (LO k_i_cloneTy_0.T) :=
 br (decide (x04 < x03))
 (br (decide (0 ≤ x04) && true)
 (x02[x04.toNat]?.bind fun y =>
 br (CVal.fits true 3 y)
 ((y.sub 0 3).bind fun y =>
 br (CVal.isAggN 3 y)
 ((y.cell 0).bind fun c =>
 (y.cell 1).bind fun c_1 =>
 (y.cell 2).bind fun c_2 =>
 (C f_i_cloneTy [AVal.v (CVal.agg [c, c_1, c_2])] []).bind fun r =>
 br (CVal.isAggN 3 r.1)
 ((r.1.cell 0).bind fun c =>
 (r.1.cell 1).bind fun c_3 =>
 (r.1.cell 2).bind fun c_4 =>
 c_4.asSl.bind fun xs =>
 (CVal.asInt i64 c).bind fun n =>
 (CVal.asInt i64 c_3).bind fun n_1 =>
 br (decide (x4.length + 1 ≤ 4294967296) && true && true)
 (L f_i_cloneTy 0 lc_i_cloneTy_0 [] k_i_cloneTy_0
 (((), (), x02, x03, i64.wrap (x04 + 1),
 ()),
 (x10, x11, (), ()), x2, (x30, x31, (), ()),
 x4 ++ [CVal.agg [CVal.int i64 n, CVal.int i64 n_1, CVal.sl xs]],
 ()))
 none)
 none)
 none)
 none)
 none)
 (some
 (LO.out 0
 (((), (), x02, x03, x04, ()), (x10, x11, (), ()), x2,
 (x30, x31, (), ()), x4, ())))
theorem gl_i_cloneTy_0 (x02 : List CVal) (x03 : Int) (x04 : Int) (x10 : Int) (x11 : Int) (x2 : List CVal) (x30 : Int) (x31 : Int) (x4 : List CVal) (R : LO k_i_cloneTy_0.T) (h : nl_i_cloneTy_0 CC LL x02 x03 x04 x10 x11 x2 x30 x31 x4 = some R) : LL f_i_cloneTy 0 lc_i_cloneTy_0 [] k_i_cloneTy_0 (((), (), x02, x03, x04, ()), (x10, x11, (), ()), x2, (x30, x31, (), ()), x4, ()) = some R := loopW (Eq.trans (b := nl_i_cloneTy_0 CC LL x02 x03 x04 x10 x11 x2 x30 x31 x4) (by kernel_rfl) h)
noncomputable def nl_s_l2One_0 (C : CallT) (L : LoopT) (x01 : Int) (x10 : Int) (x11 : Int) (x12 : List UInt8) (x13 : List UInt8) (x14 : Int) (x15 : Int) (x16 : List CVal) (x17 : List CVal) (x18 : List CVal) : Option (LO k_s_l2One_0.T) :=
 br (decide (x01 < (↑x17.length : Int)))
 (br (decide (0 ≤ x01) && true)
 (x17[x01.toNat]?.bind fun y =>
 br (CVal.fits true 3 y)
 ((y.sub 0 3).bind fun y =>
 (C f_s_TyOk [AVal.v y] []).bind fun r =>
 r.1.asBool.bind fun b =>
 br (!b) (some (LO.ret (CVal.bool false, [])))
 (L f_s_l2One 0 lc_s_l2One_0 [] k_s_l2One_0
 (((), i64.wrap (x01 + 1), ()),
 (x10, x11, x12, x13, x14, x15, x16, x17, x18, ()), ())))
 none)
 none)
 (some
 (LO.out 0
 (((), x01, ()), (x10, x11, x12, x13, x14, x15, x16, x17, x18, ()), ())))
theorem gl_s_l2One_0 (x01 : Int) (x10 : Int) (x11 : Int) (x12 : List UInt8) (x13 : List UInt8) (x14 : Int) (x15 : Int) (x16 : List CVal) (x17 : List CVal) (x18 : List CVal) (R : LO k_s_l2One_0.T) (h : nl_s_l2One_0 CC LL x01 x10 x11 x12 x13 x14 x15 x16 x17 x18 = some R) : LL f_s_l2One 0 lc_s_l2One_0 [] k_s_l2One_0 (((), x01, ()), (x10, x11, x12, x13, x14, x15, x16, x17, x18, ()), ()) = some R := loopW (Eq.trans (b := nl_s_l2One_0 CC LL x01 x10 x11 x12 x13 x14 x15 x16 x17 x18) (by kernel_rfl) h)
noncomputable def nl_i_measure_0 (C : CallT) (L : LoopT) (x00 : Int) (x01 : Int) (x02 : List CVal) (x03 : Int) (x04 : Int) : Option (LO k_i_measure_0.T) :=
 br (decide (x04 < x03))
 (br (decide (0 ≤ x04) && true)
 (x02[x04.toNat]?.bind fun y =>
 br (CVal.fits true 3 y)
 ((y.sub 0 3).bind fun y =>
 br (CVal.isAggN 3 y)
 ((y.cell 0).bind fun c =>
 (y.cell 1).bind fun c_1 =>
 (y.cell 2).bind fun c_2 =>
 (C f_i_measure [AVal.v (CVal.agg [c, c_1, c_2])] []).bind fun r =>
 r.1.asTup.bind fun y =>
 y[0]?.bind fun y =>
 r.1.asTup.bind fun y_1 =>
 y_1[1]?.bind fun y_2 =>
 r.1.asTup.bind fun y_3 =>
 y_3[2]?.bind fun y_4 =>
 y_4.asBool.bind fun b =>
 br (!b)
 (some
 (LO.ret
 (CVal.tup
 [CVal.int i64 0, CVal.int i64 0,
 CVal.bool false],
 [])))
 ((CVal.asInt i64 y).bind fun n =>
 (CVal.asInt i64 y_2).bind fun n_1 =>
 L f_i_measure 0 lc_i_measure_0 [] k_i_measure_0
 ((bif decide (x00 < n) then n else x00, i64.wrap (x01 + n_1), x02,
 x03, i64.wrap (x04 + 1), ()),
 ())))
 none)
 none)
 none)
 (some (LO.out 0 ((x00, x01, x02, x03, x04, ()), ())))
theorem gl_i_measure_0 (x00 : Int) (x01 : Int) (x02 : List CVal) (x03 : Int) (x04 : Int) (R : LO k_i_measure_0.T) (h : nl_i_measure_0 CC LL x00 x01 x02 x03 x04 = some R) : LL f_i_measure 0 lc_i_measure_0 [] k_i_measure_0 ((x00, x01, x02, x03, x04, ()), ()) = some R := loopW (Eq.trans (b := nl_i_measure_0 CC LL x00 x01 x02 x03 x04) (by kernel_rfl) h)
end Go.Proofs.Ythnjnnnobipnfaa.Abs
