/- What the functions come to in the abstract machine. -/
import Derived.Test.YtegbnddjgifcdaaDoorU1Ann
import Derived.KernelRfl
set_option linter.unusedVariables false
set_option maxRecDepth 100000
namespace Go.Proofs.YtegbnddjgifcdaaDoor.Abs
open Go Go.Proofs Go.IntKind
noncomputable def nf_l_FnExactTermText (C : CallT) (L : LoopT) (a0 : Int) (a1 : Int) (a2 : List UInt8) (a3 : List UInt8) (a40 : Int) (a41 : Int) (a42 : List CVal) (a5 : List CVal) (a6 : List CVal) : Option Ret :=
 (C f_l_szTerm
 [AVal.v
 (CVal.agg
 [CVal.int i64 a0, CVal.int i64 a1, CVal.str a2, CVal.str a3, CVal.int i64 a40,
 CVal.int i64 a41, CVal.sl a42, CVal.sl a5, CVal.sl a6]),
 AVal.v (CVal.int i64 1048576)]
 []).bind
 fun r =>
 (CVal.asInt i64 r.1).bind fun n =>
 br (decide (n < 0)) (some (CVal.bool true, []))
 ((C f_l_toTerm
 [AVal.v
 (CVal.agg
 [CVal.int i64 a0, CVal.int i64 a1, CVal.str a2, CVal.str a3, CVal.int i64 a40,
 CVal.int i64 a41, CVal.sl a42, CVal.sl a5, CVal.sl a6])]
 []).bind
 fun r =>
 (C f_s_TermText [AVal.v r.1] []).bind fun r =>
 (C f_l_toTerm
 [AVal.v
 (CVal.agg
 [CVal.int i64 a0, CVal.int i64 a1, CVal.str a2, CVal.str a3,
 CVal.int i64 a40, CVal.int i64 a41, CVal.sl a42, CVal.sl a5, CVal.sl a6])]
 []).bind
 fun r_1 =>
 br (CVal.isAggN 9 r_1.1)
 ((r_1.1.cell 0).bind fun c =>
 (r_1.1.cell 1).bind fun c_1 =>
 (r_1.1.cell 2).bind fun c_2 =>
 (r_1.1.cell 3).bind fun c_3 =>
 (r_1.1.cell 4).bind fun c_4 =>
 (r_1.1.cell 5).bind fun c_5 =>
 (r_1.1.cell 6).bind fun c_6 =>
 (r_1.1.cell 7).bind fun c_7 =>
 (r_1.1.cell 8).bind fun c_8 =>
 c_6.asSl.bind fun xs =>
 c_7.asSl.bind fun xs_1 =>
 c_8.asSl.bind fun xs_2 =>
 (C f_i_TermText
 [AVal.v
 (CVal.agg
 [c, c_1, c_2, c_3, c_4, c_5, CVal.sl xs, CVal.sl xs_1, CVal.sl xs_2])]
 []).bind
 fun r_2 =>
 br (!scalar r_2.1) none
 (r_2.1.asStr.bind fun s =>
 r.1.asStr.bind fun s_1 =>
 br (!decide (s = s_1)) (some (CVal.bool false, []))
 ((C f_l_toTerm
 [AVal.v
 (CVal.agg
 [CVal.int i64 a0, CVal.int i64 a1,
 CVal.str a2, CVal.str a3, CVal.int i64 a40,
 CVal.int i64 a41, CVal.sl a42, CVal.sl a5,
 CVal.sl a6])]
 []).bind
 fun r =>
 (C f_l_eqTerm
 [AVal.v
 (CVal.agg
 [c, c_1, c_2, c_3, c_4, c_5, CVal.sl xs, CVal.sl xs_1,
 CVal.sl xs_2]),
 AVal.v r.1]
 []).bind
 fun r =>
 br (!scalar r.1) none
 (r.1.asBool.bind fun b =>
 br (!b) (some (CVal.bool false, []))
 (some (CVal.bool true, []))))))
 none)
theorem go_l_FnExactTermText (a0 : Int) (a1 : Int) (a2 : List UInt8) (a3 : List UInt8) (a40 : Int) (a41 : Int) (a42 : List CVal) (a5 : List CVal) (a6 : List CVal) (R : Ret) (h : nf_l_FnExactTermText CC LL a0 a1 a2 a3 a40 a41 a42 a5 a6 = some R) : CC f_l_FnExactTermText [AVal.v
 (CVal.agg
 [CVal.int i64 a0, CVal.int i64 a1, CVal.str a2, CVal.str a3, CVal.int i64 a40,
 CVal.int i64 a41, CVal.sl a42, CVal.sl a5, CVal.sl a6])] [] = some R := fnW (by decide) rfl (Eq.trans (b := nf_l_FnExactTermText CC LL a0 a1 a2 a3 a40 a41 a42 a5 a6) (by kernel_rfl) h)
noncomputable def nf_i_TermText (C : CallT) (L : LoopT) (a0 : Int) (a1 : Int) (a2 : List UInt8) (a3 : List UInt8) (a40 : Int) (a41 : Int) (a42 : List CVal) (a5 : List CVal) (a6 : List CVal) : Option Ret :=
 (C f_i_TermOk
 [AVal.v
 (CVal.agg
 [CVal.int i64 a0, CVal.int i64 a1, CVal.str a2, CVal.str a3, CVal.int i64 a40,
 CVal.int i64 a41, CVal.sl a42, CVal.sl a5, CVal.sl a6])]
 []).bind
 fun r =>
 r.1.asBool.bind fun b =>
 br (!b) (some (CVal.str [], []))
 ((C f_i_termTokens
 [AVal.lref 0 0,
 AVal.v
 (CVal.agg
 [CVal.int i64 a0, CVal.int i64 a1, CVal.str a2, CVal.str a3, CVal.int i64 a40,
 CVal.int i64 a41, CVal.sl a42, CVal.sl a5, CVal.sl a6])]
 [PB.arr (Md.mk true false 0) false 1 []]).bind
 fun r =>
 r.2[0]?.bind fun y =>
 (C f_strings_Join [AVal.v (CVal.sl y), AVal.v (CVal.str [(32 : UInt8)])] []).bind fun r => some (r.1, []))
theorem go_i_TermText (a0 : Int) (a1 : Int) (a2 : List UInt8) (a3 : List UInt8) (a40 : Int) (a41 : Int) (a42 : List CVal) (a5 : List CVal) (a6 : List CVal) (R : Ret) (h : nf_i_TermText CC LL a0 a1 a2 a3 a40 a41 a42 a5 a6 = some R) : CC f_i_TermText [AVal.v
 (CVal.agg
 [CVal.int i64 a0, CVal.int i64 a1, CVal.str a2, CVal.str a3, CVal.int i64 a40,
 CVal.int i64 a41, CVal.sl a42, CVal.sl a5, CVal.sl a6])] [] = some R := fnW (by decide) rfl (Eq.trans (b := nf_i_TermText CC LL a0 a1 a2 a3 a40 a41 a42 a5 a6) (by kernel_rfl) h)
noncomputable def nf_l_szTermS (C : CallT) (L : LoopT) (a : List CVal) (b : Int) : Option Ret :=
 br (decide (i64.wrap (b - (↑a.length : Int)) < 0)) (some (CVal.int i64 (-1 : Int), []))
 ((L f_l_szTermS 0 lc_l_szTermS_0 [] k_l_szTermS_0
 ((a, i64.wrap (b - (↑a.length : Int)), 0, ()), ())).bind
 fun r => loK r (fun r => some r) fun j p => br (j == 0) (some (CVal.int i64 p.fst.snd.1, [])) none)
theorem go_l_szTermS (a : List CVal) (b : Int) (R : Ret) (h : nf_l_szTermS CC LL a b = some R) : CC f_l_szTermS [AVal.v (CVal.sl a), AVal.v (CVal.int i64 b)] [] = some R := fnW (by decide) rfl (Eq.trans (b := nf_l_szTermS CC LL a b) (by kernel_rfl) h)
noncomputable def nf_s_TermOk (C : CallT) (L : LoopT) (a0 : Int) (a1 : Int) (a2 : List UInt8) (a3 : List UInt8) (a40 : Int) (a41 : Int) (a42 : List CVal) (a5 : List CVal) (a6 : List CVal) : Option Ret :=
 (C f_s_l2Look
 [AVal.v
 (CVal.agg
 [CVal.int i64 a0, CVal.int i64 a1, CVal.str a2, CVal.str a3, CVal.int i64 a40,
 CVal.int i64 a41, CVal.sl a42, CVal.sl a5, CVal.sl a6]),
 AVal.v (CVal.int i64 24), AVal.lptr 0 0]
 [PB.box [AVal.v (CVal.int i64 0)]]).bind
 fun r => r.2[0]?.bind fun y => y[0]?.bind fun y => some (r.1, [])
theorem go_s_TermOk (a0 : Int) (a1 : Int) (a2 : List UInt8) (a3 : List UInt8) (a40 : Int) (a41 : Int) (a42 : List CVal) (a5 : List CVal) (a6 : List CVal) (R : Ret) (h : nf_s_TermOk CC LL a0 a1 a2 a3 a40 a41 a42 a5 a6 = some R) : CC f_s_TermOk [AVal.v
 (CVal.agg
 [CVal.int i64 a0, CVal.int i64 a1, CVal.str a2, CVal.str a3, CVal.int i64 a40,
 CVal.int i64 a41, CVal.sl a42, CVal.sl a5, CVal.sl a6])] [] = some R := fnW (by decide) rfl (Eq.trans (b := nf_s_TermOk CC LL a0 a1 a2 a3 a40 a41 a42 a5 a6) (by kernel_rfl) h)
noncomputable def nf_l_eqTy (C : CallT) (L : LoopT) (a0 : Int) (a1 : Int) (a2 : List CVal) (b0 : Int) (b1 : Int) (b2 : List CVal) : Option Ret :=
 br (!decide (a0 = b0)) (some (CVal.bool false, []))
 (br (!decide (a1 = b1)) (some (CVal.bool false, []))
 ((C f_l_eqTyS [AVal.v (CVal.sl a2), AVal.v (CVal.sl b2)] []).bind fun r =>
 r.1.asBool.bind fun b => br (!b) (some (CVal.bool false, [])) (some (CVal.bool true, []))))
theorem go_l_eqTy (a0 : Int) (a1 : Int) (a2 : List CVal) (b0 : Int) (b1 : Int) (b2 : List CVal) (R : Ret) (h : nf_l_eqTy CC LL a0 a1 a2 b0 b1 b2 = some R) : CC f_l_eqTy [AVal.v (CVal.agg [CVal.int i64 a0, CVal.int i64 a1, CVal.sl a2]),
 AVal.v (CVal.agg [CVal.int i64 b0, CVal.int i64 b1, CVal.sl b2])] [] = some R := fnW (by decide) rfl (Eq.trans (b := nf_l_eqTy CC LL a0 a1 a2 b0 b1 b2) (by kernel_rfl) h)
noncomputable def nf_s_l2Word (C : CallT) (L : LoopT) (a : Int) : Option Ret :=
 br (decide (0 ≤ a) && true)
 (br (decide (a.toNat < 18) && true)
 ([CVal.str [], CVal.str [(110 : UInt8)], CVal.str [(116 : UInt8)], CVal.str [(118 : UInt8)],
 CVal.str [(102 : UInt8), (110 : UInt8)], CVal.str [(97 : UInt8), (112 : UInt8), (112 : UInt8)],
 CVal.str [(108 : UInt8), (101 : UInt8), (116 : UInt8)],
 CVal.str [(102 : UInt8), (105 : UInt8), (120 : UInt8)], CVal.str [(105 : UInt8), (102 : UInt8)],
 CVal.str [(112 : UInt8), (97 : UInt8), (105 : UInt8), (114 : UInt8)],
 CVal.str [(102 : UInt8), (115 : UInt8), (116 : UInt8)],
 CVal.str [(115 : UInt8), (110 : UInt8), (100 : UInt8)],
 CVal.str [(110 : UInt8), (105 : UInt8), (108 : UInt8)],
 CVal.str [(99 : UInt8), (111 : UInt8), (110 : UInt8), (115 : UInt8)],
 CVal.str [(99 : UInt8), (97 : UInt8), (115 : UInt8), (101 : UInt8)],
 CVal.str [(111 : UInt8), (112 : UInt8)],
 CVal.str [(114 : UInt8), (97 : UInt8), (105 : UInt8), (115 : UInt8), (101 : UInt8)],
 CVal.str [(116 : UInt8), (114 : UInt8), (121 : UInt8)]][a.toNat]?.bind
 fun y => (y.cell 0).bind fun c => c.asStr.bind fun s => some (CVal.str s, []))
 none)
 none
theorem go_s_l2Word (a : Int) (R : Ret) (h : nf_s_l2Word CC LL a = some R) : CC f_s_l2Word [AVal.v (CVal.int i64 a)] [] = some R := fnW (by decide) rfl (Eq.trans (b := nf_s_l2Word CC LL a) (by kernel_rfl) h)
noncomputable def nf_i_headTokens (C : CallT) (L : LoopT) (a0 : Int) (a1 : Int) (a2 : List UInt8) (a3 : List UInt8) (a40 : Int) (a41 : Int) (a42 : List CVal) (a5 : List CVal) (a6 : List CVal) : Option Ret :=
 br (decide (a0 = 2))
 ((C f_i_boolWord [AVal.v (CVal.int i64 a1)] []).bind fun r =>
 br (r.1.isFlat && true) (r.1.asStr.bind fun s => some (CVal.sl [CVal.str s], [])) none)
 ((C f_i_termWords [] []).bind fun r =>
 br (decide (0 ≤ a0) && true)
 (r.1.asSl.bind fun xs =>
 xs[a0.toNat]?.bind fun y =>
 br (CVal.fits false 1 y)
 ((y.cell 0).bind fun c =>
 br (c.isFlat && true)
 (c.asStr.bind fun s =>
 br (!decide (a2 = []))
 (br (!decide (a3 = []))
 ((br (decide (a0 = 1))
 ((C f_strconv_Itoa [AVal.v (CVal.int i64 a1)] []).bind fun r =>
 br (r.1.isFlat && true)
 (r.1.asStr.bind fun s_1 =>
 some
 (LO.out 0
 (((), (), ()),
 (a0, a1, a2, a3, a40, a41, a42, a5, a6, ()),
 [CVal.str s, CVal.str a2, CVal.str a3, CVal.str s_1], ())))
 none)
 (br (decide (a0 = 6))
 ((C f_strconv_Itoa [AVal.v (CVal.int i64 a1)] []).bind fun r =>
 br (r.1.isFlat && true)
 (r.1.asStr.bind fun s_1 =>
 some
 (LO.out 0
 (((), (), ()),
 (a0, a1, a2, a3, a40, a41, a42, a5, a6, ()),
 [CVal.str s, CVal.str a2, CVal.str a3, CVal.str s_1], ())))
 none)
 (br (decide (a0 = 7))
 ((C f_strconv_Itoa [AVal.v (CVal.int i64 a1)] []).bind fun r =>
 br (r.1.isFlat && true)
 (r.1.asStr.bind fun s_1 =>
 some
 (LO.out 0
 (((), (), ()),
 (a0, a1, a2, a3, a40, a41, a42, a5, a6, ()),
 [CVal.str s, CVal.str a2, CVal.str a3, CVal.str s_1], ())))
 none)
 (br (decide (a0 = 15))
 ((C f_i_opSigns [] []).bind fun r =>
 br (decide (0 ≤ a1) && true)
 (r.1.asSl.bind fun xs =>
 xs[a1.toNat]?.bind fun y =>
 br (CVal.fits false 1 y)
 ((y.cell 0).bind fun c =>
 br (c.isFlat && true)
 (c.asStr.bind fun s_1 =>
 some
 (LO.out 0
 (((), (), ()),
 (a0, a1, a2, a3, a40, a41, a42, a5, a6, ()),
 [CVal.str s, CVal.str a2, CVal.str a3, CVal.str s_1],
 ())))
 none)
 none)
 none)
 (br (decide (a0 = 3))
 ((C f_strconv_Itoa [AVal.v (CVal.int i64 (↑a5.length : Int))] []).bind
 fun r =>
 br (r.1.isFlat && true)
 (r.1.asStr.bind fun s_1 =>
 some
 (LO.out 0
 (((), (), ()),
 (a0, a1, a2, a3, a40, a41, a42, a5, a6, ()),
 [CVal.str s, CVal.str a2, CVal.str a3, CVal.str s_1], ())))
 none)
 (some
 (LO.out 0
 (((), (), ()),
 (a0, a1, a2, a3, a40, a41, a42, a5, a6, ()),
 [CVal.str s, CVal.str a2, CVal.str a3], ())))))))).bind
 fun y =>
 loK y (fun r => some r) fun j p =>
 br (j == 0)
 ((L f_i_headTokens 1 lc_i_headTokens_1 [] k_i_headTokens_1
 (((), (), p.snd.fst.snd.snd.snd.snd.snd.snd.snd.1,
 (↑(List.length p.snd.fst.snd.snd.snd.snd.snd.snd.snd.1) : Int), 0,
 ()),
 (p.snd.fst.1, p.snd.fst.snd.1, p.snd.fst.snd.snd.1, p.snd.fst.snd.snd.snd.1,
 p.snd.fst.snd.snd.snd.snd.1, p.snd.fst.snd.snd.snd.snd.snd.1,
 p.snd.fst.snd.snd.snd.snd.snd.snd.1, p.snd.fst.snd.snd.snd.snd.snd.snd.snd.1,
 p.snd.fst.snd.snd.snd.snd.snd.snd.snd.snd.1, ()),
 p.snd.snd.1, ())).bind
 fun r =>
 loK r (fun r => some r) fun j p =>
 br (j == 1)
 ((C f_i_hasT [AVal.v (CVal.int i64 p.snd.fst.1)] []).bind fun r =>
 r.1.asBool.bind fun b =>
 br b
 ((C f_i_tyTokens
 [AVal.lref 0 0,
 AVal.v
 (CVal.agg
 [CVal.int i64 p.snd.fst.snd.snd.snd.snd.1,
 CVal.int i64 p.snd.fst.snd.snd.snd.snd.snd.1,
 CVal.sl p.snd.fst.snd.snd.snd.snd.snd.snd.1])]
 [PB.arr (Md.mk true false 0) false 1 p.snd.snd.1]).bind
 fun r => r.2[0]?.bind fun y => some (CVal.sl y, []))
 (some (CVal.sl p.snd.snd.1, [])))
 none)
 none)
 ((br (decide (a0 = 1))
 ((C f_strconv_Itoa [AVal.v (CVal.int i64 a1)] []).bind fun r =>
 br (r.1.isFlat && true)
 (r.1.asStr.bind fun s_1 =>
 some
 (LO.out 0
 (((), (), ()),
 (a0, a1, a2, a3, a40, a41, a42, a5, a6, ()),
 [CVal.str s, CVal.str a2, CVal.str s_1], ())))
 none)
 (br (decide (a0 = 6))
 ((C f_strconv_Itoa [AVal.v (CVal.int i64 a1)] []).bind fun r =>
 br (r.1.isFlat && true)
 (r.1.asStr.bind fun s_1 =>
 some
 (LO.out 0
 (((), (), ()),
 (a0, a1, a2, a3, a40, a41, a42, a5, a6, ()),
 [CVal.str s, CVal.str a2, CVal.str s_1], ())))
 none)
 (br (decide (a0 = 7))
 ((C f_strconv_Itoa [AVal.v (CVal.int i64 a1)] []).bind fun r =>
 br (r.1.isFlat && true)
 (r.1.asStr.bind fun s_1 =>
 some
 (LO.out 0
 (((), (), ()),
 (a0, a1, a2, a3, a40, a41, a42, a5, a6, ()),
 [CVal.str s, CVal.str a2, CVal.str s_1], ())))
 none)
 (br (decide (a0 = 15))
 ((C f_i_opSigns [] []).bind fun r =>
 br (decide (0 ≤ a1) && true)
 (r.1.asSl.bind fun xs =>
 xs[a1.toNat]?.bind fun y =>
 br (CVal.fits false 1 y)
 ((y.cell 0).bind fun c =>
 br (c.isFlat && true)
 (c.asStr.bind fun s_1 =>
 some
 (LO.out 0
 (((), (), ()),
 (a0, a1, a2, a3, a40, a41, a42, a5, a6, ()),
 [CVal.str s, CVal.str a2, CVal.str s_1], ())))
 none)
 none)
 none)
 (br (decide (a0 = 3))
 ((C f_strconv_Itoa [AVal.v (CVal.int i64 (↑a5.length : Int))] []).bind
 fun r =>
 br (r.1.isFlat && true)
 (r.1.asStr.bind fun s_1 =>
 some
 (LO.out 0
 (((), (), ()),
 (a0, a1, a2, a3, a40, a41, a42, a5, a6, ()),
 [CVal.str s, CVal.str a2, CVal.str s_1], ())))
 none)
 (some
 (LO.out 0
 (((), (), ()),
 (a0, a1, a2, a3, a40, a41, a42, a5, a6, ()),
 [CVal.str s, CVal.str a2], ())))))))).bind
 fun y =>
 loK y (fun r => some r) fun j p =>
 br (j == 0)
 ((L f_i_headTokens 1 lc_i_headTokens_1 [] k_i_headTokens_1
 (((), (), p.snd.fst.snd.snd.snd.snd.snd.snd.snd.1,
 (↑(List.length p.snd.fst.snd.snd.snd.snd.snd.snd.snd.1) : Int), 0,
 ()),
 (p.snd.fst.1, p.snd.fst.snd.1, p.snd.fst.snd.snd.1, p.snd.fst.snd.snd.snd.1,
 p.snd.fst.snd.snd.snd.snd.1, p.snd.fst.snd.snd.snd.snd.snd.1,
 p.snd.fst.snd.snd.snd.snd.snd.snd.1, p.snd.fst.snd.snd.snd.snd.snd.snd.snd.1,
 p.snd.fst.snd.snd.snd.snd.snd.snd.snd.snd.1, ()),
 p.snd.snd.1, ())).bind
 fun r =>
 loK r (fun r => some r) fun j p =>
 br (j == 1)
 ((C f_i_hasT [AVal.v (CVal.int i64 p.snd.fst.1)] []).bind fun r =>
 r.1.asBool.bind fun b =>
 br b
 ((C f_i_tyTokens
 [AVal.lref 0 0,
 AVal.v
 (CVal.agg
 [CVal.int i64 p.snd.fst.snd.snd.snd.snd.1,
 CVal.int i64 p.snd.fst.snd.snd.snd.snd.snd.1,
 CVal.sl p.snd.fst.snd.snd.snd.snd.snd.snd.1])]
 [PB.arr (Md.mk true false 0) false 1 p.snd.snd.1]).bind
 fun r => r.2[0]?.bind fun y => some (CVal.sl y, []))
 (some (CVal.sl p.snd.snd.1, [])))
 none)
 none))
 (br (!decide (a3 = []))
 ((br (decide (a0 = 1))
 ((C f_strconv_Itoa [AVal.v (CVal.int i64 a1)] []).bind fun r =>
 br (r.1.isFlat && true)
 (r.1.asStr.bind fun s_1 =>
 some
 (LO.out 0
 (((), (), ()),
 (a0, a1, a2, a3, a40, a41, a42, a5, a6, ()),
 [CVal.str s, CVal.str a3, CVal.str s_1], ())))
 none)
 (br (decide (a0 = 6))
 ((C f_strconv_Itoa [AVal.v (CVal.int i64 a1)] []).bind fun r =>
 br (r.1.isFlat && true)
 (r.1.asStr.bind fun s_1 =>
 some
 (LO.out 0
 (((), (), ()),
 (a0, a1, a2, a3, a40, a41, a42, a5, a6, ()),
 [CVal.str s, CVal.str a3, CVal.str s_1], ())))
 none)
 (br (decide (a0 = 7))
 ((C f_strconv_Itoa [AVal.v (CVal.int i64 a1)] []).bind fun r =>
 br (r.1.isFlat && true)
 (r.1.asStr.bind fun s_1 =>
 some
 (LO.out 0
 (((), (), ()),
 (a0, a1, a2, a3, a40, a41, a42, a5, a6, ()),
 [CVal.str s, CVal.str a3, CVal.str s_1], ())))
 none)
 (br (decide (a0 = 15))
 ((C f_i_opSigns [] []).bind fun r =>
 br (decide (0 ≤ a1) && true)
 (r.1.asSl.bind fun xs =>
 xs[a1.toNat]?.bind fun y =>
 br (CVal.fits false 1 y)
 ((y.cell 0).bind fun c =>
 br (c.isFlat && true)
 (c.asStr.bind fun s_1 =>
 some
 (LO.out 0
 (((), (), ()),
 (a0, a1, a2, a3, a40, a41, a42, a5, a6, ()),
 [CVal.str s, CVal.str a3, CVal.str s_1], ())))
 none)
 none)
 none)
 (br (decide (a0 = 3))
 ((C f_strconv_Itoa [AVal.v (CVal.int i64 (↑a5.length : Int))] []).bind
 fun r =>
 br (r.1.isFlat && true)
 (r.1.asStr.bind fun s_1 =>
 some
 (LO.out 0
 (((), (), ()),
 (a0, a1, a2, a3, a40, a41, a42, a5, a6, ()),
 [CVal.str s, CVal.str a3, CVal.str s_1], ())))
 none)
 (some
 (LO.out 0
 (((), (), ()),
 (a0, a1, a2, a3, a40, a41, a42, a5, a6, ()),
 [CVal.str s, CVal.str a3], ())))))))).bind
 fun y =>
 loK y (fun r => some r) fun j p =>
 br (j == 0)
 ((L f_i_headTokens 1 lc_i_headTokens_1 [] k_i_headTokens_1
 (((), (), p.snd.fst.snd.snd.snd.snd.snd.snd.snd.1,
 (↑(List.length p.snd.fst.snd.snd.snd.snd.snd.snd.snd.1) : Int), 0,
 ()),
 (p.snd.fst.1, p.snd.fst.snd.1, p.snd.fst.snd.snd.1, p.snd.fst.snd.snd.snd.1,
 p.snd.fst.snd.snd.snd.snd.1, p.snd.fst.snd.snd.snd.snd.snd.1,
 p.snd.fst.snd.snd.snd.snd.snd.snd.1, p.snd.fst.snd.snd.snd.snd.snd.snd.snd.1,
 p.snd.fst.snd.snd.snd.snd.snd.snd.snd.snd.1, ()),
 p.snd.snd.1, ())).bind
 fun r =>
 loK r (fun r => some r) fun j p =>
 br (j == 1)
 ((C f_i_hasT [AVal.v (CVal.int i64 p.snd.fst.1)] []).bind fun r =>
 r.1.asBool.bind fun b =>
 br b
 ((C f_i_tyTokens
 [AVal.lref 0 0,
 AVal.v
 (CVal.agg
 [CVal.int i64 p.snd.fst.snd.snd.snd.snd.1,
 CVal.int i64 p.snd.fst.snd.snd.snd.snd.snd.1,
 CVal.sl p.snd.fst.snd.snd.snd.snd.snd.snd.1])]
 [PB.arr (Md.mk true false 0) false 1 p.snd.snd.1]).bind
 fun r => r.2[0]?.bind fun y => some (CVal.sl y, []))
 (some (CVal.sl p.snd.snd.1, [])))
 none)
 none)
 ((br (decide (a0 = 1))
 ((C f_strconv_Itoa [AVal.v (CVal.int i64 a1)] []).bind fun r =>
 br (r.1.isFlat && true)
 (r.1.asStr.bind fun s_1 =>
 some
 (LO.out 0
 (((), (), ()),
 (a0, a1, a2, a3, a40, a41, a42, a5, a6, ()), [CVal.str s, CVal.str s_1],
 ())))
 none)
 (br (decide (a0 = 6))
 ((C f_strconv_Itoa [AVal.v (CVal.int i64 a1)] []).bind fun r =>
 br (r.1.isFlat && true)
 (r.1.asStr.bind fun s_1 =>
 some
 (LO.out 0
 (((), (), ()),
 (a0, a1, a2, a3, a40, a41, a42, a5, a6, ()),
 [CVal.str s, CVal.str s_1], ())))
 none)
 (br (decide (a0 = 7))
 ((C f_strconv_Itoa [AVal.v (CVal.int i64 a1)] []).bind fun r =>
 br (r.1.isFlat && true)
 (r.1.asStr.bind fun s_1 =>
 some
 (LO.out 0
 (((), (), ()),
 (a0, a1, a2, a3, a40, a41, a42, a5, a6, ()),
 [CVal.str s, CVal.str s_1], ())))
 none)
 (br (decide (a0 = 15))
 ((C f_i_opSigns [] []).bind fun r =>
 br (decide (0 ≤ a1) && true)
 (r.1.asSl.bind fun xs =>
 xs[a1.toNat]?.bind fun y =>
 br (CVal.fits false 1 y)
 ((y.cell 0).bind fun c =>
 br (c.isFlat && true)
 (c.asStr.bind fun s_1 =>
 some
 (LO.out 0
 (((), (), ()),
 (a0, a1, a2, a3, a40, a41, a42, a5, a6, ()),
 [CVal.str s, CVal.str s_1], ())))
 none)
 none)
 none)
 (br (decide (a0 = 3))
 ((C f_strconv_Itoa [AVal.v (CVal.int i64 (↑a5.length : Int))] []).bind
 fun r =>
 br (r.1.isFlat && true)
 (r.1.asStr.bind fun s_1 =>
 some
 (LO.out 0
 (((), (), ()),
 (a0, a1, a2, a3, a40, a41, a42, a5, a6, ()),
 [CVal.str s, CVal.str s_1], ())))
 none)
 (some
 (LO.out 0
 (((), (), ()),
 (a0, a1, a2, a3, a40, a41, a42, a5, a6, ()), [CVal.str s],
 ())))))))).bind
 fun y =>
 loK y (fun r => some r) fun j p =>
 br (j == 0)
 ((L f_i_headTokens 1 lc_i_headTokens_1 [] k_i_headTokens_1
 (((), (), p.snd.fst.snd.snd.snd.snd.snd.snd.snd.1,
 (↑(List.length p.snd.fst.snd.snd.snd.snd.snd.snd.snd.1) : Int), 0,
 ()),
 (p.snd.fst.1, p.snd.fst.snd.1, p.snd.fst.snd.snd.1, p.snd.fst.snd.snd.snd.1,
 p.snd.fst.snd.snd.snd.snd.1, p.snd.fst.snd.snd.snd.snd.snd.1,
 p.snd.fst.snd.snd.snd.snd.snd.snd.1, p.snd.fst.snd.snd.snd.snd.snd.snd.snd.1,
 p.snd.fst.snd.snd.snd.snd.snd.snd.snd.snd.1, ()),
 p.snd.snd.1, ())).bind
 fun r =>
 loK r (fun r => some r) fun j p =>
 br (j == 1)
 ((C f_i_hasT [AVal.v (CVal.int i64 p.snd.fst.1)] []).bind fun r =>
 r.1.asBool.bind fun b =>
 br b
 ((C f_i_tyTokens
 [AVal.lref 0 0,
 AVal.v
 (CVal.agg
 [CVal.int i64 p.snd.fst.snd.snd.snd.snd.1,
 CVal.int i64 p.snd.fst.snd.snd.snd.snd.snd.1,
 CVal.sl p.snd.fst.snd.snd.snd.snd.snd.snd.1])]
 [PB.arr (Md.mk true false 0) false 1 p.snd.snd.1]).bind
 fun r => r.2[0]?.bind fun y => some (CVal.sl y, []))
 (some (CVal.sl p.snd.snd.1, [])))
 none)
 none)))
 none)
 none)
 none)
theorem go_i_headTokens (a0 : Int) (a1 : Int) (a2 : List UInt8) (a3 : List UInt8) (a40 : Int) (a41 : Int) (a42 : List CVal) (a5 : List CVal) (a6 : List CVal) (R : Ret) (h : nf_i_headTokens CC LL a0 a1 a2 a3 a40 a41 a42 a5 a6 = some R) : CC f_i_headTokens [AVal.v
 (CVal.agg
 [CVal.int i64 a0, CVal.int i64 a1, CVal.str a2, CVal.str a3, CVal.int i64 a40,
 CVal.int i64 a41, CVal.sl a42, CVal.sl a5, CVal.sl a6])] [] = some R := fnW (by decide) rfl (Eq.trans (b := nf_i_headTokens CC LL a0 a1 a2 a3 a40 a41 a42 a5 a6) (by kernel_rfl) h)
noncomputable def nf_i_termWords (C : CallT) (L : LoopT) : Option Ret :=
 some
 (CVal.sl
 [CVal.str [], CVal.str [(110 : UInt8)], CVal.str [], CVal.str [(118 : UInt8)],
 CVal.str [(102 : UInt8), (110 : UInt8)], CVal.str [(97 : UInt8), (112 : UInt8), (112 : UInt8)],
 CVal.str [(108 : UInt8), (101 : UInt8), (116 : UInt8)], CVal.str [(102 : UInt8), (105 : UInt8), (120 : UInt8)],
 CVal.str [(105 : UInt8), (102 : UInt8)], CVal.str [(112 : UInt8), (97 : UInt8), (105 : UInt8), (114 : UInt8)],
 CVal.str [(102 : UInt8), (115 : UInt8), (116 : UInt8)], CVal.str [(115 : UInt8), (110 : UInt8), (100 : UInt8)],
 CVal.str [(110 : UInt8), (105 : UInt8), (108 : UInt8)],
 CVal.str [(99 : UInt8), (111 : UInt8), (110 : UInt8), (115 : UInt8)],
 CVal.str [(99 : UInt8), (97 : UInt8), (115 : UInt8), (101 : UInt8)], CVal.str [(111 : UInt8), (112 : UInt8)],
 CVal.str [(114 : UInt8), (97 : UInt8), (105 : UInt8), (115 : UInt8), (101 : UInt8)],
 CVal.str [(116 : UInt8), (114 : UInt8), (121 : UInt8)]],
 [])
theorem go_i_termWords (R : Ret) (h : nf_i_termWords CC LL = some R) : CC f_i_termWords [] [] = some R := fnW (by decide) rfl (Eq.trans (b := nf_i_termWords CC LL) (by kernel_rfl) h)
noncomputable def nf_s_l2Of (C : CallT) (L : LoopT) (a : Int) : Option Ret :=
 br (decide (a = 1))
 (some
 (CVal.agg
 [CVal.int i64 0, CVal.int i64 1, CVal.bool false, CVal.bool false,
 CVal.bool false],
 []))
 (br (decide (a = 2))
 (some
 (CVal.agg
 [CVal.int i64 0, CVal.int i64 1, CVal.bool false, CVal.bool false,
 CVal.bool false],
 []))
 (br (decide (a = 3))
 (some
 (CVal.agg
 [CVal.int i64 0, CVal.int i64 0, CVal.bool true, CVal.bool false,
 CVal.bool false],
 []))
 (br (decide (a = 4))
 (some
 (CVal.agg
 [CVal.int i64 1, CVal.int i64 0, CVal.bool true, CVal.bool false,
 CVal.bool true],
 []))
 (br (decide (a = 5))
 (some
 (CVal.agg
 [CVal.int i64 2, CVal.int i64 0, CVal.bool false, CVal.bool false,
 CVal.bool false],
 []))
 (br (decide (a = 9))
 (some
 (CVal.agg
 [CVal.int i64 2, CVal.int i64 0, CVal.bool false, CVal.bool false,
 CVal.bool false],
 []))
 (br (decide (a = 13))
 (some
 (CVal.agg
 [CVal.int i64 2, CVal.int i64 0, CVal.bool false, CVal.bool false,
 CVal.bool false],
 []))
 (br (decide (a = 6))
 (some
 (CVal.agg
 [CVal.int i64 2, CVal.int i64 1, CVal.bool true, CVal.bool false,
 CVal.bool false],
 []))
 (br (decide (a = 7))
 (some
 (CVal.agg
 [CVal.int i64 2, CVal.int i64 1, CVal.bool true,
 CVal.bool false, CVal.bool true],
 []))
 (br (decide (a = 8))
 (some
 (CVal.agg
 [CVal.int i64 3, CVal.int i64 0, CVal.bool false,
 CVal.bool false, CVal.bool false],
 []))
 (br (decide (a = 10))
 (some
 (CVal.agg
 [CVal.int i64 1, CVal.int i64 0, CVal.bool false,
 CVal.bool false, CVal.bool false],
 []))
 (br (decide (a = 11))
 (some
 (CVal.agg
 [CVal.int i64 1, CVal.int i64 0, CVal.bool false,
 CVal.bool false, CVal.bool false],
 []))
 (br (decide (a = 12))
 (some
 (CVal.agg
 [CVal.int i64 0, CVal.int i64 0, CVal.bool false,
 CVal.bool false, CVal.bool true],
 []))
 (br (decide (a = 14))
 (some
 (CVal.agg
 [CVal.int i64 3, CVal.int i64 0, CVal.bool true,
 CVal.bool true, CVal.bool false],
 []))
 (br (decide (a = 15))
 (some
 (CVal.agg
 [CVal.int i64 2, CVal.int i64 1, CVal.bool false,
 CVal.bool false, CVal.bool false],
 []))
 (br (decide (a = 16))
 (some
 (CVal.agg
 [CVal.int i64 1, CVal.int i64 0, CVal.bool false,
 CVal.bool false, CVal.bool true],
 []))
 (br (decide (a = 17))
 (some
 (CVal.agg
 [CVal.int i64 2, CVal.int i64 0, CVal.bool true,
 CVal.bool false, CVal.bool false],
 []))
 (some
 (CVal.agg
 [CVal.int i64 (-1 : Int), CVal.int i64 0,
 CVal.bool false, CVal.bool false, CVal.bool false],
 []))))))))))))))))))
theorem go_s_l2Of (a : Int) (R : Ret) (h : nf_s_l2Of CC LL a = some R) : CC f_s_l2Of [AVal.v (CVal.int i64 a)] [] = some R := fnW (by decide) rfl (Eq.trans (b := nf_s_l2Of CC LL a) (by kernel_rfl) h)
noncomputable def nf_s_SameTy (C : CallT) (L : LoopT) (a0 : Int) (a1 : Int) (a2 : List CVal) (b0 : Int) (b1 : Int) (b2 : List CVal) : Option Ret :=
 (br (!decide (a0 = b0)) (some (true, ()))
 (br (!decide (a1 = b1)) (some (true, ()))
 (some (!decide ((↑a2.length : Int) = (↑b2.length : Int)), ())))).bind
 fun y =>
 br y.1 (some (CVal.bool false, []))
 ((L f_s_SameTy 0 lc_s_SameTy_0 [] k_s_SameTy_0
 (((), (), 0, ()), (a0, a1, a2, ()), (b0, b1, b2, ()),
 ())).bind
 fun r => loK r (fun r => some r) fun j p => br (j == 0) (some (CVal.bool true, [])) none)
theorem go_s_SameTy (a0 : Int) (a1 : Int) (a2 : List CVal) (b0 : Int) (b1 : Int) (b2 : List CVal) (R : Ret) (h : nf_s_SameTy CC LL a0 a1 a2 b0 b1 b2 = some R) : CC f_s_SameTy [AVal.v (CVal.agg [CVal.int i64 a0, CVal.int i64 a1, CVal.sl a2]),
 AVal.v (CVal.agg [CVal.int i64 b0, CVal.int i64 b1, CVal.sl b2])] [] = some R := fnW (by decide) rfl (Eq.trans (b := nf_s_SameTy CC LL a0 a1 a2 b0 b1 b2) (by kernel_rfl) h)
noncomputable def nf_i_TyOk (C : CallT) (L : LoopT) (a0 : Int) (a1 : Int) (a2 : List CVal) : Option Ret :=
 (C f_i_measure [AVal.v (CVal.agg [CVal.int i64 a0, CVal.int i64 a1, CVal.sl a2])] []).bind fun r =>
 r.1.asTup.bind fun y =>
 y[0]?.bind fun y =>
 r.1.asTup.bind fun y_1 =>
 y_1[1]?.bind fun y_2 =>
 r.1.asTup.bind fun y_3 =>
 y_3[2]?.bind fun y_4 =>
 (y_4.asBool.bind fun b =>
 br b
 ((CVal.asInt i64 y).bind fun n =>
 br (decide (n ≤ 6))
 ((CVal.asInt i64 y_2).bind fun n => some (decide (n ≤ 60), ()))
 (some (false, ())))
 (some (false, ()))).bind
 fun y => some (CVal.bool y.1, [])
theorem go_i_TyOk (a0 : Int) (a1 : Int) (a2 : List CVal) (R : Ret) (h : nf_i_TyOk CC LL a0 a1 a2 = some R) : CC f_i_TyOk [AVal.v (CVal.agg [CVal.int i64 a0, CVal.int i64 a1, CVal.sl a2])] [] = some R := fnW (by decide) rfl (Eq.trans (b := nf_i_TyOk CC LL a0 a1 a2) (by kernel_rfl) h)
noncomputable def nf_s_l1In (C : CallT) (L : LoopT) (a : Int) (b : Int) (c : Int) : Option Ret :=
 (br (decide (b ≤ a)) (some (decide (a ≤ c), ())) (some (false, ()))).bind fun y =>
 some (CVal.bool y.1, [])
theorem go_s_l1In (a : Int) (b : Int) (c : Int) (R : Ret) (h : nf_s_l1In CC LL a b c = some R) : CC f_s_l1In [AVal.v (CVal.int i64 a), AVal.v (CVal.int i64 b), AVal.v (CVal.int i64 c)] [] = some R := fnW (by decide) rfl (Eq.trans (b := nf_s_l1In CC LL a b c) (by kernel_rfl) h)
noncomputable def nf_i_bindsS (C : CallT) (L : LoopT) (a : Int) : Option Ret :=
 (br (decide (a = 4)) (some (true, ()))
 (br (decide (a = 6)) (some (true, ()))
 (br (decide (a = 7)) (some (true, ()))
 (br (decide (a = 14)) (some (true, ())) (some (decide (a = 17), ())))))).bind
 fun y => some (CVal.bool y.1, [])
theorem go_i_bindsS (a : Int) (R : Ret) (h : nf_i_bindsS CC LL a = some R) : CC f_i_bindsS [AVal.v (CVal.int i64 a)] [] = some R := fnW (by decide) rfl (Eq.trans (b := nf_i_bindsS CC LL a) (by kernel_rfl) h)
noncomputable def nf_s_l1Args (C : CallT) (L : LoopT) (a : Int) : Option Ret :=
 br (decide (a = 1)) (some (CVal.int i64 0, []))
 (br (decide (a = 2)) (some (CVal.int i64 0, []))
 (br (decide (a = 3)) (some (CVal.int i64 0, []))
 (br (decide (a = 6)) (some (CVal.int i64 1, []))
 (br (decide (a = 4)) (some (CVal.int i64 2, []))
 (br (decide (a = 5)) (some (CVal.int i64 2, []))
 (some (CVal.int i64 (-1 : Int), [])))))))
theorem go_s_l1Args (a : Int) (R : Ret) (h : nf_s_l1Args CC LL a = some R) : CC f_s_l1Args [AVal.v (CVal.int i64 a)] [] = some R := fnW (by decide) rfl (Eq.trans (b := nf_s_l1Args CC LL a) (by kernel_rfl) h)
noncomputable def nl_l_toTyS_0 (C : CallT) (L : LoopT) (x00 : List CVal) (x02 : Int) (x1 : List CVal) : Option (LO k_l_toTyS_0.T) :=
 br (decide (x02 < (↑x00.length : Int)))
 (br (decide (0 ≤ x02) && true)
 (x00[x02.toNat]?.bind fun y =>
 br (CVal.fits true 3 y)
 ((y.sub 0 3).bind fun y =>
 (C f_l_toTy [AVal.v y] []).bind fun r =>
 br (CVal.isAggN 3 r.1)
 ((r.1.cell 0).bind fun c =>
 (r.1.cell 1).bind fun c_1 =>
 (r.1.cell 2).bind fun c_2 =>
 c_2.asSl.bind fun xs =>
 br (decide (0 ≤ x02) && true)
 (br (decide (x02.toNat < x1.length) && true)
 ((CVal.asInt i64 c).bind fun n =>
 (CVal.asInt i64 c_1).bind fun n_1 =>
 x1[x02.toNat]?.bind fun y =>
 br (CVal.fits true 3 y)
 (L f_l_toTyS 0 lc_l_toTyS_0 [] k_l_toTyS_0
 ((x00, (), i64.wrap (x02 + 1), ()),
 x1.set x02.toNat
 (CVal.agg [CVal.int i64 n, CVal.int i64 n_1, CVal.sl xs]),
 ()))
 (br (y.isAgg && decide (3 ≤ y.cells.length))
 (L f_l_toTyS 0 lc_l_toTyS_0 [] k_l_toTyS_0
 ((x00, (), i64.wrap (x02 + 1), ()),
 x1.set x02.toNat
 (CVal.agg
 (CVal.int i64 n ::
 CVal.int i64 n_1 :: CVal.sl xs :: List.drop 3 y.cells)),
 ()))
 none))
 none)
 none)
 none)
 none)
 none)
 (some (LO.out 0 ((x00, (), x02, ()), x1, ())))
theorem gl_l_toTyS_0 (x00 : List CVal) (x02 : Int) (x1 : List CVal) (R : LO k_l_toTyS_0.T) (h : nl_l_toTyS_0 CC LL x00 x02 x1 = some R) : LL f_l_toTyS 0 lc_l_toTyS_0 [] k_l_toTyS_0 ((x00, (), x02, ()), x1, ()) = some R := loopW (Eq.trans (b := nl_l_toTyS_0 CC LL x00 x02 x1) (by kernel_rfl) h)
noncomputable def nl_i_termTokens_0 (C : CallT) (L : LoopT) (x01 : List CVal) (x02 : Int) (x03 : Int) (x1 : List CVal) : Option (LO k_i_termTokens_0.T) :=
 br (decide (x03 < x02))
 (br (decide (0 ≤ x03) && true)
 (x01[x03.toNat]?.bind fun y =>
 br (CVal.fits true 9 y)
 ((y.sub 0 9).bind fun y =>
 br (CVal.isAggN 9 y)
 ((y.cell 0).bind fun c =>
 (y.cell 1).bind fun c_1 =>
 (y.cell 2).bind fun c_2 =>
 (y.cell 3).bind fun c_3 =>
 (y.cell 4).bind fun c_4 =>
 (y.cell 5).bind fun c_5 =>
 (y.cell 6).bind fun c_6 =>
 (y.cell 7).bind fun c_7 =>
 (y.cell 8).bind fun c_8 =>
 (C f_i_termTokens
 [AVal.lref 0 0,
 AVal.v (CVal.agg [c, c_1, c_2, c_3, c_4, c_5, c_6, c_7, c_8])]
 [PB.arr (Md.mk true false 0) false 1 x1]).bind
 fun r =>
 r.2[0]?.bind fun y =>
 L f_i_termTokens 0 lc_i_termTokens_0
 [PSh.arr (Md.mk true false 0) false 1] k_i_termTokens_0
 (((), x01, x02, i64.wrap (x03 + 1), ()), y,
 ()))
 none)
 none)
 none)
 (some (LO.out 0 (((), x01, x02, x03, ()), x1, ())))
theorem gl_i_termTokens_0 (x01 : List CVal) (x02 : Int) (x03 : Int) (x1 : List CVal) (R : LO k_i_termTokens_0.T) (h : nl_i_termTokens_0 CC LL x01 x02 x03 x1 = some R) : LL f_i_termTokens 0 lc_i_termTokens_0 [PSh.arr (Md.mk true false 0) false 1] k_i_termTokens_0 (((), x01, x02, x03, ()), x1, ()) = some R := loopW (Eq.trans (b := nl_i_termTokens_0 CC LL x01 x02 x03 x1) (by kernel_rfl) h)
noncomputable def nl_s_l1Text_0 (C : CallT) (L : LoopT) (x01 : List UInt8) (x02 : Int) (x10 : Int) (x11 : Int) (x12 : List CVal) : Option (LO k_s_l1Text_0.T) :=
 br (decide (x02 < (↑x12.length : Int)))
 (br (decide (x01.length + 1 ≤ 1152921504606846976))
 (br (decide (0 ≤ x02) && true)
 (x12[x02.toNat]?.bind fun y =>
 br (CVal.fits true 3 y)
 ((y.sub 0 3).bind fun y =>
 (C f_s_l1Text [AVal.v y] []).bind fun r =>
 r.1.asStr.bind fun s =>
 br (decide ((x01 ++ [(32 : UInt8)]).length + s.length ≤ 1152921504606846976))
 (L f_s_l1Text 0 lc_s_l1Text_0 [] k_s_l1Text_0
 (((), x01 ++ [(32 : UInt8)] ++ s, i64.wrap (x02 + 1), ()),
 (x10, x11, x12, ()), ()))
 none)
 none)
 none)
 none)
 (some (LO.out 0 (((), x01, x02, ()), (x10, x11, x12, ()), ())))
theorem gl_s_l1Text_0 (x01 : List UInt8) (x02 : Int) (x10 : Int) (x11 : Int) (x12 : List CVal) (R : LO k_s_l1Text_0.T) (h : nl_s_l1Text_0 CC LL x01 x02 x10 x11 x12 = some R) : LL f_s_l1Text 0 lc_s_l1Text_0 [] k_s_l1Text_0 (((), x01, x02, ()), (x10, x11, x12, ()), ()) = some R := loopW (Eq.trans (b := nl_s_l1Text_0 CC LL x01 x02 x10 x11 x12) (by kernel_rfl) h)
noncomputable def nl_i_tyTokens_0 (C : CallT) (L : LoopT) (x01 : List CVal) (x02 : Int) (x03 : Int) (x1 : List CVal) : Option (LO k_i_tyTokens_0.T) :=
 br (decide (x03 < x02))
 (br (decide (0 ≤ x03) && true)
 (x01[x03.toNat]?.bind fun y =>
 br (CVal.fits true 3 y)
 ((y.sub 0 3).bind fun y =>
 br (CVal.isAggN 3 y)
 ((y.cell 0).bind fun c =>
 (y.cell 1).bind fun c_1 =>
 (y.cell 2).bind fun c_2 =>
 (C f_i_tyTokens [AVal.lref 0 0, AVal.v (CVal.agg [c, c_1, c_2])]
 [PB.arr (Md.mk true false 0) false 1 x1]).bind
 fun r =>
 r.2[0]?.bind fun y =>
 L f_i_tyTokens 0 lc_i_tyTokens_0 [PSh.arr (Md.mk true false 0) false 1]
 k_i_tyTokens_0
 (((), x01, x02, i64.wrap (x03 + 1), ()), y, ()))
 none)
 none)
 none)
 (some (LO.out 0 (((), x01, x02, x03, ()), x1, ())))
theorem gl_i_tyTokens_0 (x01 : List CVal) (x02 : Int) (x03 : Int) (x1 : List CVal) (R : LO k_i_tyTokens_0.T) (h : nl_i_tyTokens_0 CC LL x01 x02 x03 x1 = some R) : LL f_i_tyTokens 0 lc_i_tyTokens_0 [PSh.arr (Md.mk true false 0) false 1] k_i_tyTokens_0 (((), x01, x02, x03, ()), x1, ()) = some R := loopW (Eq.trans (b := nl_i_tyTokens_0 CC LL x01 x02 x03 x1) (by kernel_rfl) h)
noncomputable def nl_i_isName_0 (C : CallT) (L : LoopT) (x00 : List UInt8) (x01 : Int) (x02 : Int) : Option (LO k_i_isName_0.T) :=
 br (decide (x02 < x01))
 (br (decide (0 ≤ x02))
 (x00[x02.toNat]?.bind fun y =>
 (br (decide (97 ≤ (↑y.toNat : Int))) (some (decide ((↑y.toNat : Int) ≤ 122), ()))
 (some (false, ()))).bind
 fun y_1 =>
 (br (!y_1.1)
 (br (decide (x02 = 0)) (some (true, ()))
 (br (decide ((↑y.toNat : Int) < 48))
 (some (!decide ((↑y.toNat : Int) = 46), ()))
 (br (decide (57 < (↑y.toNat : Int)))
 (some (!decide ((↑y.toNat : Int) = 46), ())) (some (false, ())))))
 (some (false, ()))).bind
 fun y =>
 br y.1 (some (LO.ret (CVal.bool false, [])))
 (L f_i_isName 0 lc_i_isName_0 [] k_i_isName_0
 ((x00, x01, i64.wrap (x02 + 1), ()), ())))
 none)
 (some (LO.out 0 ((x00, x01, x02, ()), ())))
theorem gl_i_isName_0 (x00 : List UInt8) (x01 : Int) (x02 : Int) (R : LO k_i_isName_0.T) (h : nl_i_isName_0 CC LL x00 x01 x02 = some R) : LL f_i_isName 0 lc_i_isName_0 [] k_i_isName_0 ((x00, x01, x02, ()), ()) = some R := loopW (Eq.trans (b := nl_i_isName_0 CC LL x00 x01 x02) (by kernel_rfl) h)
end Go.Proofs.YtegbnddjgifcdaaDoor.Abs
