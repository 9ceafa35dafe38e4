/- What the functions come to in the abstract machine. -/
import Derived.Test.YtegbnddjgifcdaaDoorT1Ann
import Derived.KernelRfl
set_option linter.unusedVariables false
set_option maxRecDepth 100000
namespace Go.Proofs.YtegbnddjgifcdaaDoor.Abs
open Go Go.Proofs Go.IntKind
noncomputable def nf_i_TyText (C : CallT) (L : LoopT) (a0 : Int) (a1 : Int) (a2 : List CVal) : Option Ret :=
 (C f_i_TyOk [AVal.v (CVal.agg [CVal.int i64 a0, CVal.int i64 a1, CVal.sl a2])] []).bind fun r =>
 r.1.asBool.bind fun b =>
 br (!b) (some (CVal.str [], []))
 ((C f_i_tyTokens
 [AVal.lref 0 0,
 AVal.v (CVal.agg [CVal.int i64 a0, CVal.int i64 a1, CVal.sl a2])]
 [PB.arr (Md.mk true false 0) false 1 []]).bind
 fun r =>
 r.2[0]?.bind fun y =>
 (C f_strings_Join [AVal.v (CVal.sl y), AVal.v (CVal.str [(32 : UInt8)])] []).bind fun r => some (r.1, []))
theorem go_i_TyText (a0 : Int) (a1 : Int) (a2 : List CVal) (R : Ret) (h : nf_i_TyText CC LL a0 a1 a2 = some R) : CC f_i_TyText [AVal.v (CVal.agg [CVal.int i64 a0, CVal.int i64 a1, CVal.sl a2])] [] = some R := fnW (by decide) rfl (Eq.trans (b := nf_i_TyText CC LL a0 a1 a2) (by kernel_rfl) h)
noncomputable def nf_i_ParseTy (C : CallT) (L : LoopT) (a : List UInt8) : Option Ret :=
 (C f_strings_Split [AVal.v (CVal.str a), AVal.v (CVal.str [(32 : UInt8)])] []).bind fun r =>
 br (r.1.isFlat && true)
 ((C f_i_tokens_ty [AVal.lptr 0 0, AVal.v (CVal.int i64 6)]
 [PB.box [AVal.v r.1, AVal.v (CVal.bool false)]]).bind
 fun r =>
 r.2[0]?.bind fun y =>
 y[0]?.bind fun y_1 =>
 y[1]?.bind fun y =>
 br (CVal.isAggN 3 r.1)
 ((r.1.cell 0).bind fun c =>
 (r.1.cell 1).bind fun c_1 =>
 (r.1.cell 2).bind fun c_2 =>
 (y.asBool.bind fun b =>
 br b (some (true, ()))
 (y_1.asSl.bind fun xs =>
 br (decide (0 < (↑xs.length : Int))) (some (true, ()))
 ((C f_i_TyOk [AVal.v (CVal.agg [c, c_1, c_2])] []).bind fun r =>
 r.1.asBool.bind fun b => some (!b, ())))).bind
 fun y =>
 br y.1
 (some
 (CVal.tup
 [CVal.agg [CVal.int i64 0, CVal.int i64 0, CVal.sl []],
 CVal.bool false],
 []))
 (some (CVal.tup [CVal.agg [c, c_1, c_2], CVal.bool true], [])))
 none)
 none
theorem go_i_ParseTy (a : List UInt8) (R : Ret) (h : nf_i_ParseTy CC LL a = some R) : CC f_i_ParseTy [AVal.v (CVal.str a)] [] = some R := fnW (by decide) rfl (Eq.trans (b := nf_i_ParseTy CC LL a) (by kernel_rfl) h)
noncomputable def nf_s_l1New (C : CallT) (L : LoopT) (a : List CVal) : Option Ret :=
 (L f_s_l1New 0 lc_s_l1New_0 [] k_s_l1New_0
 ((a, i64.wrap (122122 + (↑a.length : Int)), 0, ()), ())).bind
 fun r =>
 loK r (fun r => some r) fun j p =>
 br (j == 0)
 (some
 ((CVal.agg [CVal.sl p.fst.1, CVal.int i64 0, CVal.int i64 p.fst.snd.1]).fp 0,
 []))
 none
theorem go_s_l1New (a : List CVal) (R : Ret) (h : nf_s_l1New CC LL a = some R) : CC f_s_l1New [AVal.v (CVal.sl a)] [] = some R := fnW (by decide) rfl (Eq.trans (b := nf_s_l1New CC LL a) (by kernel_rfl) h)
noncomputable def nf_s_l1Look (C : CallT) (L : LoopT) (a0 : Int) (a1 : Int) (a2 : List CVal) (b : Int) (c : Int) : Option Ret :=
 (br (decide (b = 0)) (some (true, ()))
 (br (decide (60 < i64.wrap (c + 1))) (some (true, ()))
 ((C f_s_l1Args [AVal.v (CVal.int i64 a0)] []).bind fun r =>
 (CVal.asInt i64 r.1).bind fun n =>
 br (!decide ((↑a2.length : Int) = n)) (some (true, ()))
 (br (decide (a0 = 3))
 ((C f_s_l1In
 [AVal.v (CVal.int i64 a1), AVal.v (CVal.int i64 0),
 AVal.v (CVal.int i64 1)]
 []).bind
 fun r =>
 r.1.asBool.bind fun b =>
 br (!b) (some (true, ()))
 (br (!decide (a0 = 3)) (some (!decide (a1 = 0), ()))
 (some (false, ()))))
 (br (!decide (a0 = 3)) (some (!decide (a1 = 0), ()))
 (some (false, ()))))))).bind
 fun y =>
 br y.1 (some (CVal.bool false, [[CVal.int i64 (i64.wrap (c + 1))]]))
 ((L f_s_l1Look 0 lc_s_l1Look_0 [PSh.box [none]] k_s_l1Look_0
 ((b, (), (), 0, ()), (i64.wrap (c + 1), ()),
 (a0, a1, a2, ()), ())).bind
 fun r =>
 loK r (fun r => some r) fun j p =>
 br (j == 0) (some (CVal.bool true, [[CVal.int i64 p.snd.fst.1]])) none)
theorem go_s_l1Look (a0 : Int) (a1 : Int) (a2 : List CVal) (b : Int) (c : Int) (R : Ret) (h : nf_s_l1Look CC LL a0 a1 a2 b c = some R) : CC f_s_l1Look [AVal.v (CVal.agg [CVal.int i64 a0, CVal.int i64 a1, CVal.sl a2]), AVal.v (CVal.int i64 b),
 AVal.lptr 0 0] [PB.box [AVal.v (CVal.int i64 c)]] = some R := fnW (by decide) rfl (Eq.trans (b := nf_s_l1Look CC LL a0 a1 a2 b c) (by kernel_rfl) h)
noncomputable def nf_i_anyTy (C : CallT) (L : LoopT) (a0 : Int) (a1 : Int) (a2 : List CVal) (b : CVal) : Option Ret :=
 br (b.isFlat && true)
 (((b.cell 0).bind fun c =>
 (C apId [AVal.v c, AVal.v (CVal.agg [CVal.int i64 a0, CVal.int i64 a1, CVal.sl a2])] []).bind
 fun r =>
 r.1.asBool.bind fun b_1 =>
 br b_1 (some (true, ()))
 ((C f_slices_ContainsFunc_Ty [AVal.v (CVal.sl a2), AVal.v (CVal.func f_i_anyTy_1 [b.fp 0])]
 []).bind
 fun r => (bif false then CVal.bool true else r.1).asBool.bind fun b => some (b, ()))).bind
 fun y => some (CVal.bool y.1, []))
 none
theorem go_i_anyTy (a0 : Int) (a1 : Int) (a2 : List CVal) (b : CVal) (R : Ret) (h : nf_i_anyTy CC LL a0 a1 a2 b = some R) : CC f_i_anyTy [AVal.v (CVal.agg [CVal.int i64 a0, CVal.int i64 a1, CVal.sl a2]), AVal.v b] [] = some R := fnW (by decide) rfl (Eq.trans (b := nf_i_anyTy CC LL a0 a1 a2 b) (by kernel_rfl) h)
noncomputable def nf_s_l1Bend (C : CallT) (L : LoopT) (a0 : List CVal) (a1 : Int) (a2 : Int) (b0 : Int) (b1 : Int) (b2 : List CVal) : Option Ret :=
 (C f_s_l1Copy [AVal.v (CVal.agg [CVal.int i64 b0, CVal.int i64 b1, CVal.sl b2])] []).bind fun r =>
 br (CVal.isAggN 3 r.1)
 ((r.1.cell 0).bind fun c =>
 (r.1.cell 1).bind fun c_1 =>
 (r.1.cell 2).bind fun c_2 =>
 c_2.asSl.bind fun xs =>
 br (decide (0 < (↑xs.length : Int)))
 ((C f_s_l1Once [AVal.lptr 0 0, AVal.v (CVal.int i64 2)]
 [PB.box
 [AVal.v (CVal.sl a0), AVal.v (CVal.int i64 a1), AVal.v (CVal.int i64 a2)]]).bind
 fun r =>
 r.2[0]?.bind fun y =>
 y[0]?.bind fun y_1 =>
 y[1]?.bind fun y_2 =>
 y[2]?.bind fun y =>
 (bif true then r.1 else CVal.bool false).asBool.bind fun b =>
 br b
 ((C f_s_l1Below
 [AVal.lptr 0 0, AVal.v (CVal.int i64 (↑xs.length : Int))]
 [PB.box [AVal.v y_1, AVal.v y_2, AVal.v y]]).bind
 fun r =>
 r.2[0]?.bind fun y =>
 y[0]?.bind fun y_3 =>
 y[1]?.bind fun y_4 =>
 y[2]?.bind fun y =>
 r.1.asIdx.bind fun y_5 =>
 br (decide (0 ≤ y_5) && true)
 (br (decide (y_5.toNat < xs.length) && true)
 (xs[y_5.toNat]?.bind fun y_6 =>
 (y_6.sub 0 3).bind fun y_7 =>
 (C f_s_l1Bend [AVal.lptr 0 0, AVal.v y_7]
 [PB.box [AVal.v y_3, AVal.v y_4, AVal.v y]]).bind
 fun r_1 =>
 r_1.2[0]?.bind fun y =>
 y[0]?.bind fun y_8 =>
 y[1]?.bind fun y_9 =>
 y[2]?.bind fun y =>
 r.1.asIdx.bind fun y_10 =>
 br (decide (0 ≤ y_10) && true)
 (br (decide (y_10.toNat < xs.length) && true)
 (xs[y_10.toNat]?.bind fun y_11 =>
 br (CVal.fits true 3 r_1.1)
 (br (CVal.fits true 3 y_11)
 (some
 (CVal.agg
 [c, c_1, CVal.sl (xs.set y_10.toNat r_1.1)],
 [[y_8, y_9, y]]))
 (br
 (y_11.isAgg &&
 decide
 (0 + r_1.1.cells.length ≤
 y_11.cells.length))
 (some
 (CVal.agg
 [c, c_1,
 CVal.sl
 (xs.set y_10.toNat
 (CVal.agg
 (splice y_11.cells 0
 r_1.1.cells)))],
 [[y_8, y_9, y]]))
 none))
 none)
 none)
 none)
 none)
 none)
 ((C f_s_l1Below [AVal.lptr 0 0, AVal.v (CVal.int i64 5)]
 [PB.box [AVal.v y_1, AVal.v y_2, AVal.v y]]).bind
 fun r =>
 r.2[0]?.bind fun y =>
 y[0]?.bind fun y_3 =>
 y[1]?.bind fun y_4 =>
 y[2]?.bind fun y =>
 (CVal.asInt i64 r.1).bind fun n =>
 br (decide (n = 0))
 ((C f_s_l1Below
 [AVal.lptr 0 0, AVal.v (CVal.int i64 8)]
 [PB.box [AVal.v y_3, AVal.v y_4, AVal.v y]]).bind
 fun r =>
 r.2[0]?.bind fun y =>
 y[0]?.bind fun y_5 =>
 y[1]?.bind fun y_6 =>
 y[2]?.bind fun y =>
 br (r.1.isFlat && true)
 (some (CVal.agg [r.1, c_1, CVal.sl xs], [[y_5, y_6, y]])) none)
 ((CVal.asInt i64 r.1).bind fun n =>
 br (decide (n = 1))
 ((C f_s_l1Int
 [AVal.lptr 0 0,
 AVal.v
 (CVal.sl
 [CVal.int i64 0,
 CVal.int i64 1,
 CVal.int i64 2,
 CVal.int i64 (-1 : Int)])]
 [PB.box [AVal.v y_3, AVal.v y_4, AVal.v y]]).bind
 fun r =>
 r.2[0]?.bind fun y =>
 y[0]?.bind fun y_5 =>
 y[1]?.bind fun y_6 =>
 y[2]?.bind fun y =>
 br (r.1.isFlat && true)
 (some (CVal.agg [c, r.1, CVal.sl xs], [[y_5, y_6, y]])) none)
 ((CVal.asInt i64 r.1).bind fun n =>
 br (decide (n = 2))
 (br
 (decide (xs.length + 1 ≤ 4294967296) && true &&
 true)
 (some
 (CVal.agg
 [c, c_1,
 CVal.sl
 (xs ++
 [CVal.agg
 [CVal.int i64 1,
 CVal.int i64 0, CVal.sl []]])],
 [[y_3, y_4, y]]))
 none)
 ((CVal.asInt i64 r.1).bind fun n =>
 br (decide (n = 3))
 (y_3.asSl.bind fun xs_1 =>
 (CVal.asInt i64 y_4).bind fun n =>
 (CVal.asInt i64 y).bind fun n_1 =>
 (CVal.asInt i64 c).bind fun n_2 =>
 (CVal.asInt i64 c_1).bind fun n_3 =>
 (L f_s_l1Bend 1 lc_s_l1Bend_1
 [PSh.box [none, none, none]] k_s_l1Bend_1
 (((), (), 0, ()),
 (xs_1, n, n_1, ()),
 (n_2, n_3, (), ()), xs,
 (0, 0, (), ()),
 [], ())).bind
 fun r =>
 loK r (fun r => some r) fun j p =>
 br (j == 1)
 (some
 (CVal.agg
 [CVal.int i64 p.snd.snd.fst.1,
 CVal.int i64 p.snd.snd.fst.snd.1,
 CVal.sl p.snd.snd.snd.1],
 [[CVal.sl p.snd.fst.1,
 CVal.int i64 p.snd.fst.snd.1,
 CVal.int i64
 p.snd.fst.snd.snd.1]]))
 (br (j == 0)
 (some
 (CVal.agg
 [CVal.int i64 p.snd.snd.fst.1,
 CVal.int i64
 p.snd.snd.fst.snd.1,
 CVal.sl p.snd.snd.snd.1],
 [[CVal.sl p.snd.fst.1,
 CVal.int i64 p.snd.fst.snd.1,
 CVal.int i64
 p.snd.fst.snd.snd.1]]))
 none))
 (some (CVal.agg [c, c_1, CVal.sl xs], [[y_3, y_4, y]])))))))
 ((C f_s_l1Below [AVal.lptr 0 0, AVal.v (CVal.int i64 5)]
 [PB.box
 [AVal.v (CVal.sl a0), AVal.v (CVal.int i64 a1), AVal.v (CVal.int i64 a2)]]).bind
 fun r =>
 r.2[0]?.bind fun y =>
 y[0]?.bind fun y_1 =>
 y[1]?.bind fun y_2 =>
 y[2]?.bind fun y =>
 (CVal.asInt i64 r.1).bind fun n =>
 br (decide (n = 0))
 ((C f_s_l1Below [AVal.lptr 0 0, AVal.v (CVal.int i64 8)]
 [PB.box [AVal.v y_1, AVal.v y_2, AVal.v y]]).bind
 fun r =>
 r.2[0]?.bind fun y =>
 y[0]?.bind fun y_3 =>
 y[1]?.bind fun y_4 =>
 y[2]?.bind fun y =>
 br (r.1.isFlat && true) (some (CVal.agg [r.1, c_1, CVal.sl xs], [[y_3, y_4, y]]))
 none)
 ((CVal.asInt i64 r.1).bind fun n =>
 br (decide (n = 1))
 ((C f_s_l1Int
 [AVal.lptr 0 0,
 AVal.v
 (CVal.sl
 [CVal.int i64 0, CVal.int i64 1,
 CVal.int i64 2, CVal.int i64 (-1 : Int)])]
 [PB.box [AVal.v y_1, AVal.v y_2, AVal.v y]]).bind
 fun r =>
 r.2[0]?.bind fun y =>
 y[0]?.bind fun y_3 =>
 y[1]?.bind fun y_4 =>
 y[2]?.bind fun y =>
 br (r.1.isFlat && true)
 (some (CVal.agg [c, r.1, CVal.sl xs], [[y_3, y_4, y]])) none)
 ((CVal.asInt i64 r.1).bind fun n =>
 br (decide (n = 2))
 (br (decide (xs.length + 1 ≤ 4294967296) && true && true)
 (some
 (CVal.agg
 [c, c_1,
 CVal.sl
 (xs ++
 [CVal.agg
 [CVal.int i64 1, CVal.int i64 0,
 CVal.sl []]])],
 [[y_1, y_2, y]]))
 none)
 ((CVal.asInt i64 r.1).bind fun n =>
 br (decide (n = 3))
 (y_1.asSl.bind fun xs_1 =>
 (CVal.asInt i64 y_2).bind fun n =>
 (CVal.asInt i64 y).bind fun n_1 =>
 (CVal.asInt i64 c).bind fun n_2 =>
 (CVal.asInt i64 c_1).bind fun n_3 =>
 (L f_s_l1Bend 1 lc_s_l1Bend_1 [PSh.box [none, none, none]]
 k_s_l1Bend_1
 (((), (), 0, ()),
 (xs_1, n, n_1, ()),
 (n_2, n_3, (), ()), xs,
 (0, 0, (), ()), [],
 ())).bind
 fun r =>
 loK r (fun r => some r) fun j p =>
 br (j == 1)
 (some
 (CVal.agg
 [CVal.int i64 p.snd.snd.fst.1,
 CVal.int i64 p.snd.snd.fst.snd.1,
 CVal.sl p.snd.snd.snd.1],
 [[CVal.sl p.snd.fst.1, CVal.int i64 p.snd.fst.snd.1,
 CVal.int i64 p.snd.fst.snd.snd.1]]))
 (br (j == 0)
 (some
 (CVal.agg
 [CVal.int i64 p.snd.snd.fst.1,
 CVal.int i64 p.snd.snd.fst.snd.1,
 CVal.sl p.snd.snd.snd.1],
 [[CVal.sl p.snd.fst.1,
 CVal.int i64 p.snd.fst.snd.1,
 CVal.int i64 p.snd.fst.snd.snd.1]]))
 none))
 (some (CVal.agg [c, c_1, CVal.sl xs], [[y_1, y_2, y]])))))))
 none
theorem go_s_l1Bend (a0 : List CVal) (a1 : Int) (a2 : Int) (b0 : Int) (b1 : Int) (b2 : List CVal) (R : Ret) (h : nf_s_l1Bend CC LL a0 a1 a2 b0 b1 b2 = some R) : CC f_s_l1Bend [AVal.lptr 0 0, AVal.v (CVal.agg [CVal.int i64 b0, CVal.int i64 b1, CVal.sl b2])] [PB.box [AVal.v (CVal.sl a0), AVal.v (CVal.int i64 a1), AVal.v (CVal.int i64 a2)]] = some R := fnW (by decide) rfl (Eq.trans (b := nf_s_l1Bend CC LL a0 a1 a2 b0 b1 b2) (by kernel_rfl) h)
noncomputable def nf_i_tokens_next (C : CallT) (L : LoopT) (a0 : List CVal) (a1 : Bool) : Option Ret :=
 (br a1 (some (true, ())) (some (decide ((↑a0.length : Int) = 0), ()))).bind fun y =>
 br y.1 (some (CVal.str [], [[CVal.sl a0, CVal.bool true]]))
 (a0[0]?.bind fun y =>
 br (CVal.fits false 1 y)
 ((y.cell 0).bind fun c =>
 br
 (decide (1 ≤ (↑a0.length : Int)) && decide ((↑a0.length : Int) ≤ (↑a0.length : Int)) &&
 a0.all (CVal.fits false 1))
 (some (c, [[CVal.sl (List.drop 1 (List.take (↑a0.length : Int).toNat a0)), CVal.bool a1]])) none)
 none)
theorem go_i_tokens_next (a0 : List CVal) (a1 : Bool) (R : Ret) (h : nf_i_tokens_next CC LL a0 a1 = some R) : CC f_i_tokens_next [AVal.lptr 0 0] [PB.box [AVal.v (CVal.sl a0), AVal.v (CVal.bool a1)]] = some R := fnW (by decide) rfl (Eq.trans (b := nf_i_tokens_next CC LL a0 a1) (by kernel_rfl) h)
noncomputable def nf_s_l1Int (C : CallT) (L : LoopT) (a0 : List CVal) (a1 : Int) (a2 : Int) (b : List CVal) : Option Ret :=
 (C f_s_l1Below [AVal.lptr 0 0, AVal.v (CVal.int i64 (↑b.length : Int))]
 [PB.box [AVal.v (CVal.sl a0), AVal.v (CVal.int i64 a1), AVal.v (CVal.int i64 a2)]]).bind
 fun r =>
 r.2[0]?.bind fun y =>
 y[0]?.bind fun y_1 =>
 y[1]?.bind fun y_2 =>
 y[2]?.bind fun y =>
 r.1.asIdx.bind fun y_3 =>
 br (decide (0 ≤ y_3) && true)
 (b[y_3.toNat]?.bind fun y_4 =>
 br (CVal.fits false 1 y_4) ((y_4.cell 0).bind fun c => some (c, [[y_1, y_2, y]])) none)
 none
theorem go_s_l1Int (a0 : List CVal) (a1 : Int) (a2 : Int) (b : List CVal) (R : Ret) (h : nf_s_l1Int CC LL a0 a1 a2 b = some R) : CC f_s_l1Int [AVal.lptr 0 0, AVal.v (CVal.sl b)] [PB.box [AVal.v (CVal.sl a0), AVal.v (CVal.int i64 a1), AVal.v (CVal.int i64 a2)]] = some R := fnW (by decide) rfl (Eq.trans (b := nf_s_l1Int CC LL a0 a1 a2 b) (by kernel_rfl) h)
noncomputable def nf_s_l1Byte (C : CallT) (L : LoopT) (a0 : List CVal) (a1 : Int) (a2 : Int) : Option Ret :=
 br (decide (a1 < (↑a0.length : Int)))
 (br (decide (0 ≤ a1) && true)
 (a0[a1.toNat]?.bind fun y =>
 br (CVal.fits false 1 y)
 ((y.cell 0).bind fun c =>
 (CVal.asInt IntKind.u8 c).bind fun n =>
 some
 (CVal.int i64
 (bAnd i64
 (i64.wrap
 (bAnd i64
 (bXor i64
 ((i64.wrap
 (i64.wrap (a2 * 6364136223846793005) +
 1442695040888963407)).fdiv
 8589934592)
 ((i64.wrap
 (i64.wrap (a2 * 6364136223846793005) +
 1442695040888963407)).fdiv
 140737488355328))
 255 +
 i64.wrap n))
 255),
 [[CVal.sl a0, CVal.int i64 (i64.wrap (a1 + 1)),
 CVal.int i64
 (i64.wrap
 (i64.wrap (a2 * 6364136223846793005) + 1442695040888963407))]]))
 none)
 none)
 (some
 (CVal.int i64
 (bAnd i64
 (bXor i64
 ((i64.wrap (i64.wrap (a2 * 6364136223846793005) + 1442695040888963407)).fdiv
 8589934592)
 ((i64.wrap (i64.wrap (a2 * 6364136223846793005) + 1442695040888963407)).fdiv
 140737488355328))
 255),
 [[CVal.sl a0, CVal.int i64 a1,
 CVal.int i64
 (i64.wrap (i64.wrap (a2 * 6364136223846793005) + 1442695040888963407))]]))
theorem go_s_l1Byte (a0 : List CVal) (a1 : Int) (a2 : Int) (R : Ret) (h : nf_s_l1Byte CC LL a0 a1 a2 = some R) : CC f_s_l1Byte [AVal.lptr 0 0] [PB.box [AVal.v (CVal.sl a0), AVal.v (CVal.int i64 a1), AVal.v (CVal.int i64 a2)]] = some R := fnW (by decide) rfl (Eq.trans (b := nf_s_l1Byte CC LL a0 a1 a2) (by kernel_rfl) h)
noncomputable def nl_s_l1Look_0 (C : CallT) (L : LoopT) (x00 : Int) (x03 : Int) (x10 : Int) (x20 : Int) (x21 : Int) (x22 : List CVal) : Option (LO k_s_l1Look_0.T) :=
 br (decide (x03 < (↑x22.length : Int)))
 (br (decide (0 ≤ x03) && true)
 (x22[x03.toNat]?.bind fun y =>
 br (CVal.fits true 3 y)
 ((y.sub 0 3).bind fun y =>
 (C f_s_l1Look
 [AVal.v y, AVal.v (CVal.int i64 (i64.wrap (x00 - 1))),
 AVal.lptr 0 0]
 [PB.box [AVal.v (CVal.int i64 x10)]]).bind
 fun r =>
 r.2[0]?.bind fun y =>
 y[0]?.bind fun y =>
 r.1.asBool.bind fun b =>
 br (!b) (some (LO.ret (CVal.bool false, [[y]])))
 ((CVal.asInt i64 y).bind fun n =>
 L f_s_l1Look 0 lc_s_l1Look_0 [PSh.box [none]] k_s_l1Look_0
 ((x00, (), (), i64.wrap (x03 + 1), ()), (n, ()),
 (x20, x21, x22, ()), ())))
 none)
 none)
 (some
 (LO.out 0
 ((x00, (), (), x03, ()), (x10, ()), (x20, x21, x22, ()), ())))
theorem gl_s_l1Look_0 (x00 : Int) (x03 : Int) (x10 : Int) (x20 : Int) (x21 : Int) (x22 : List CVal) (R : LO k_s_l1Look_0.T) (h : nl_s_l1Look_0 CC LL x00 x03 x10 x20 x21 x22 = some R) : LL f_s_l1Look 0 lc_s_l1Look_0 [PSh.box [none]] k_s_l1Look_0 ((x00, (), (), x03, ()), (x10, ()), (x20, x21, x22, ()), ()) = some R := loopW (Eq.trans (b := nl_s_l1Look_0 CC LL x00 x03 x10 x20 x21 x22) (by kernel_rfl) h)
noncomputable def nl_s_l1Ty_0 (C : CallT) (L : LoopT) (x01 : Int) (x02 : Int) (x04 : Int) (x06 : Int) (x10 : List CVal) (x11 : Int) (x12 : Int) (x20 : Int) (x21 : Int) (x3 : List CVal) (x40 : Int) (x41 : Int) (x5 : List CVal) : Option (LO k_s_l1Ty_0.T) :=
 (C f_s_l1Args [AVal.v (CVal.int i64 x04)] []).bind fun r =>
 (CVal.asInt i64 r.1).bind fun n =>
 br (decide (x06 < n))
 ((C f_s_l1Ty
 [AVal.lptr 0 0, AVal.v (CVal.int i64 (i64.wrap (x01 - 1))),
 AVal.v (CVal.int i64 x02)]
 [PB.box [AVal.v (CVal.sl x10), AVal.v (CVal.int i64 x11), AVal.v (CVal.int i64 x12)]]).bind
 fun r =>
 r.2[0]?.bind fun y =>
 y[0]?.bind fun y_1 =>
 y[1]?.bind fun y_2 =>
 y[2]?.bind fun y =>
 br ([r.1].all (CVal.fits true 3))
 (br ([r.1].all (CVal.fits true 3))
 (br (decide (x5.length + 1 ≤ 4294967296) && true && true)
 (y_1.asSl.bind fun xs =>
 (CVal.asInt i64 y_2).bind fun n =>
 (CVal.asInt i64 y).bind fun n_1 =>
 L f_s_l1Ty 0 lc_s_l1Ty_0 [PSh.box [none, none, none]] k_s_l1Ty_0
 (((), x01, x02, (), x04, (), i64.wrap (x06 + 1),
 ()),
 (xs, n, n_1, ()), (x20, x21, (), ()), x3,
 (x40, x41, (), ()), x5 ++ [r.1], ()))
 none)
 none)
 none)
 (some
 (LO.out 0
 (((), x01, x02, (), x04, (), x06, ()), (x10, x11, x12, ()),
 (x20, x21, (), ()), x3, (x40, x41, (), ()), x5, ())))
theorem gl_s_l1Ty_0 (x01 : Int) (x02 : Int) (x04 : Int) (x06 : Int) (x10 : List CVal) (x11 : Int) (x12 : Int) (x20 : Int) (x21 : Int) (x3 : List CVal) (x40 : Int) (x41 : Int) (x5 : List CVal) (R : LO k_s_l1Ty_0.T) (h : nl_s_l1Ty_0 CC LL x01 x02 x04 x06 x10 x11 x12 x20 x21 x3 x40 x41 x5 = some R) : LL f_s_l1Ty 0 lc_s_l1Ty_0 [PSh.box [none, none, none]] k_s_l1Ty_0 (((), x01, x02, (), x04, (), x06, ()), (x10, x11, x12, ()), (x20, x21, (), ()), x3, (x40, x41, (), ()), x5, ()) = some R := loopW (Eq.trans (b := nl_s_l1Ty_0 CC LL x01 x02 x04 x06 x10 x11 x12 x20 x21 x3 x40 x41 x5) (by kernel_rfl) h)
noncomputable def nl_slices_IndexFunc_Ty_0 (C : CallT) (L : LoopT) (x00 : List CVal) (x01 : CVal) (x02 : Int) (x03 : Int) : Option (LO k_slices_IndexFunc_Ty_0.T) :=
 br (decide (x03 < x02))
 (br (decide (0 ≤ x03) && true)
 (x00[x03.toNat]?.bind fun y =>
 br (CVal.fits true 3 y)
 ((y.sub 0 3).bind fun y =>
 (C apId [AVal.v x01, AVal.v y] []).bind fun r =>
 r.1.asBool.bind fun b =>
 br b (some (LO.ret (CVal.int i64 x03, [])))
 (L f_slices_IndexFunc_Ty 0 lc_slices_IndexFunc_Ty_0 [] k_slices_IndexFunc_Ty_0
 ((x00, x01, x02, i64.wrap (x03 + 1), ()), ())))
 none)
 none)
 (some (LO.out 0 ((x00, x01, x02, x03, ()), ())))
theorem gl_slices_IndexFunc_Ty_0 (x00 : List CVal) (x01 : CVal) (x02 : Int) (x03 : Int) (R : LO k_slices_IndexFunc_Ty_0.T) (h : nl_slices_IndexFunc_Ty_0 CC LL x00 x01 x02 x03 = some R) : LL f_slices_IndexFunc_Ty 0 lc_slices_IndexFunc_Ty_0 [] k_slices_IndexFunc_Ty_0 ((x00, x01, x02, x03, ()), ()) = some R := loopW (Eq.trans (b := nl_slices_IndexFunc_Ty_0 CC LL x00 x01 x02 x03) (by kernel_rfl) h)
end Go.Proofs.YtegbnddjgifcdaaDoor.Abs
