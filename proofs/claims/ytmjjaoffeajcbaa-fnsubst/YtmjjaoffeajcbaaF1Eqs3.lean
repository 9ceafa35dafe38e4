/- What the functions come to in the abstract machine. -/
import Derived.Test.YtmjjaoffeajcbaaF1Ann
import Derived.KernelRfl
set_option linter.unusedVariables false
set_option maxRecDepth 100000
namespace Go.Proofs.Ytmjjaoffeajcbaa.Abs
open Go Go.Proofs Go.IntKind
noncomputable def nf_i_SubstTy (C : CallT) (L : LoopT) (a0 : Int) (a1 : Int) (a2 : List CVal) (b : List CVal) : Option Ret :=
 ((C f_i_TyOk [AVal.v (CVal.agg [CVal.int i64 a0, CVal.int i64 a1, CVal.sl a2])] []).bind fun r =>
 r.1.asBool.bind fun b_1 =>
 br (!b_1) (some (true, ()))
 ((C f_slices_ContainsFunc_Ty [AVal.v (CVal.sl b), AVal.v (CVal.func f_i_SubstTy_1 [])] []).bind fun r =>
 (bif false then CVal.bool true else r.1).asBool.bind fun b_2 =>
 br b_2 (some (true, ()))
 ((C f_i_VarsOf [AVal.v (CVal.agg [CVal.int i64 a0, CVal.int i64 a1, CVal.sl a2])]
 []).bind
 fun r =>
 (CVal.asInt i64 r.1).bind fun n => some (decide ((↑b.length : Int) < n), ())))).bind
 fun y =>
 br y.1
 (some
 (CVal.tup
 [CVal.agg [CVal.int i64 0, CVal.int i64 0, CVal.sl []], CVal.bool false],
 []))
 ((C f_i_subst [AVal.v (CVal.agg [CVal.int i64 a0, CVal.int i64 a1, CVal.sl a2]), AVal.v (CVal.sl b)]
 []).bind
 fun r =>
 br (CVal.isAggN 3 r.1)
 ((r.1.cell 0).bind fun c =>
 (r.1.cell 1).bind fun c_1 =>
 (r.1.cell 2).bind fun c_2 =>
 (C f_i_TyOk [AVal.v (CVal.agg [c, c_1, c_2])] []).bind fun r =>
 r.1.asBool.bind fun b =>
 br (!b)
 (some
 (CVal.tup
 [CVal.agg [CVal.int i64 0, CVal.int i64 0, CVal.sl []],
 CVal.bool false],
 []))
 (some (CVal.tup [CVal.agg [c, c_1, c_2], CVal.bool true], [])))
 none)
theorem go_i_SubstTy (a0 : Int) (a1 : Int) (a2 : List CVal) (b : List CVal) (R : Ret) (h : nf_i_SubstTy CC LL a0 a1 a2 b = some R) : CC f_i_SubstTy [AVal.v (CVal.agg [CVal.int i64 a0, CVal.int i64 a1, CVal.sl a2]), AVal.v (CVal.sl b)] [] = some R := fnW (by decide) rfl (Eq.trans (b := nf_i_SubstTy CC LL a0 a1 a2 b) (by kernel_rfl) h)
noncomputable def nf_i_TyOk (C : CallT) (L : LoopT) (a0 : Int) (a1 : Int) (a2 : List CVal) : Option Ret :=
 (C f_i_measure [AVal.v (CVal.agg [CVal.int i64 a0, CVal.int i64 a1, CVal.sl a2])] []).bind fun r =>
 r.1.asTup.bind fun y =>
 y[0]?.bind fun y =>
 r.1.asTup.bind fun y_1 =>
 y_1[1]?.bind fun y_2 =>
 r.1.asTup.bind fun y_3 =>
 y_3[2]?.bind fun y_4 =>
 (y_4.asBool.bind fun b =>
 br b
 ((CVal.asInt i64 y).bind fun n =>
 br (decide (n ≤ 6))
 ((CVal.asInt i64 y_2).bind fun n => some (decide (n ≤ 60), ()))
 (some (false, ())))
 (some (false, ()))).bind
 fun y => some (CVal.bool y.1, [])
theorem go_i_TyOk (a0 : Int) (a1 : Int) (a2 : List CVal) (R : Ret) (h : nf_i_TyOk CC LL a0 a1 a2 = some R) : CC f_i_TyOk [AVal.v (CVal.agg [CVal.int i64 a0, CVal.int i64 a1, CVal.sl a2])] [] = some R := fnW (by decide) rfl (Eq.trans (b := nf_i_TyOk CC LL a0 a1 a2) (by kernel_rfl) h)
noncomputable def nf_s_l1Int (C : CallT) (L : LoopT) (a0 : List CVal) (a1 : Int) (a2 : Int) (b : List CVal) : Option Ret :=
 (C f_s_l1Below [AVal.lptr 0 0, AVal.v (CVal.int i64 (↑b.length : Int))]
 [PB.box [AVal.v (CVal.sl a0), AVal.v (CVal.int i64 a1), AVal.v (CVal.int i64 a2)]]).bind
 fun r =>
 r.2[0]?.bind fun y =>
 y[0]?.bind fun y_1 =>
 y[1]?.bind fun y_2 =>
 y[2]?.bind fun y =>
 r.1.asIdx.bind fun y_3 =>
 br (decide (0 ≤ y_3) && true)
 (b[y_3.toNat]?.bind fun y_4 =>
 br (CVal.fits false 1 y_4) ((y_4.cell 0).bind fun c => some (c, [[y_1, y_2, y]])) none)
 none
theorem go_s_l1Int (a0 : List CVal) (a1 : Int) (a2 : Int) (b : List CVal) (R : Ret) (h : nf_s_l1Int CC LL a0 a1 a2 b = some R) : CC f_s_l1Int [AVal.lptr 0 0, AVal.v (CVal.sl b)] [PB.box [AVal.v (CVal.sl a0), AVal.v (CVal.int i64 a1), AVal.v (CVal.int i64 a2)]] = some R := fnW (by decide) rfl (Eq.trans (b := nf_s_l1Int CC LL a0 a1 a2 b) (by kernel_rfl) h)
noncomputable def nf_s_TyOk (C : CallT) (L : LoopT) (a0 : Int) (a1 : Int) (a2 : List CVal) : Option Ret :=
 (C f_s_l1Look
 [AVal.v (CVal.agg [CVal.int i64 a0, CVal.int i64 a1, CVal.sl a2]),
 AVal.v (CVal.int i64 6), AVal.lptr 0 0]
 [PB.box [AVal.v (CVal.int i64 0)]]).bind
 fun r => r.2[0]?.bind fun y => y[0]?.bind fun y => some (r.1, [])
theorem go_s_TyOk (a0 : Int) (a1 : Int) (a2 : List CVal) (R : Ret) (h : nf_s_TyOk CC LL a0 a1 a2 = some R) : CC f_s_TyOk [AVal.v (CVal.agg [CVal.int i64 a0, CVal.int i64 a1, CVal.sl a2])] [] = some R := fnW (by decide) rfl (Eq.trans (b := nf_s_TyOk CC LL a0 a1 a2) (by kernel_rfl) h)
noncomputable def nf_i_anyTy (C : CallT) (L : LoopT) (a0 : Int) (a1 : Int) (a2 : List CVal) (b : CVal) : Option Ret :=
 br (b.isFlat && true)
 (((b.cell 0).bind fun c =>
 (C apId [AVal.v c, AVal.v (CVal.agg [CVal.int i64 a0, CVal.int i64 a1, CVal.sl a2])] []).bind
 fun r =>
 r.1.asBool.bind fun b_1 =>
 br b_1 (some (true, ()))
 ((C f_slices_ContainsFunc_Ty [AVal.v (CVal.sl a2), AVal.v (CVal.func f_i_anyTy_1 [b.fp 0])]
 []).bind
 fun r => (bif false then CVal.bool true else r.1).asBool.bind fun b => some (b, ()))).bind
 fun y => some (CVal.bool y.1, []))
 none
theorem go_i_anyTy (a0 : Int) (a1 : Int) (a2 : List CVal) (b : CVal) (R : Ret) (h : nf_i_anyTy CC LL a0 a1 a2 b = some R) : CC f_i_anyTy [AVal.v (CVal.agg [CVal.int i64 a0, CVal.int i64 a1, CVal.sl a2]), AVal.v b] [] = some R := fnW (by decide) rfl (Eq.trans (b := nf_i_anyTy CC LL a0 a1 a2 b) (by kernel_rfl) h)
noncomputable def nf_s_l1Ty (C : CallT) (L : LoopT) (a0 : List CVal) (a1 : Int) (a2 : Int) (b : Int) (c : Int) : Option Ret :=
 (C f_s_l1Int
 [AVal.lptr 0 0,
 AVal.v
 (CVal.sl
 [CVal.int i64 1, CVal.int i64 1, CVal.int i64 2,
 CVal.int i64 4, CVal.int i64 5, CVal.int i64 6,
 CVal.int i64 3])]
 [PB.box [AVal.v (CVal.sl a0), AVal.v (CVal.int i64 a1), AVal.v (CVal.int i64 a2)]]).bind
 fun r =>
 r.2[0]?.bind fun y =>
 y[0]?.bind fun y_1 =>
 y[1]?.bind fun y_2 =>
 y[2]?.bind fun y =>
 ((CVal.asInt i64 r.1).bind fun n =>
 br (decide (n = 3))
 (br (decide (c = 0)) (some (true, ()))
 (br (decide (b ≤ 1))
 ((CVal.asInt i64 r.1).bind fun n => some (decide (3 < n), ()))
 (some (false, ()))))
 (br (decide (b ≤ 1))
 ((CVal.asInt i64 r.1).bind fun n => some (decide (3 < n), ()))
 (some (false, ())))).bind
 fun y_3 =>
 br y_3.1
 (y_1.asSl.bind fun xs =>
 (CVal.asInt i64 y_2).bind fun n =>
 (CVal.asInt i64 y).bind fun n_1 =>
 (L f_s_l1Ty 0 lc_s_l1Ty_0 [PSh.box [none, none, none]] k_s_l1Ty_0
 (((), b, c, (), 1, (), 0, ()),
 (xs, n, n_1, ()), (0, 0, (), ()), [],
 (1, 0, (), ()), [], ())).bind
 fun r =>
 loK r (fun r => some r) fun j p =>
 br (j == 0)
 (some
 (CVal.agg
 [CVal.int i64 p.snd.snd.snd.snd.fst.1,
 CVal.int i64 p.snd.snd.snd.snd.fst.snd.1, CVal.sl p.snd.snd.snd.snd.snd.1],
 [[CVal.sl p.snd.fst.1, CVal.int i64 p.snd.fst.snd.1,
 CVal.int i64 p.snd.fst.snd.snd.1]]))
 none)
 (br (r.1.isFlat && true)
 ((CVal.asInt i64 r.1).bind fun n =>
 br (decide (n = 3))
 ((C f_s_l1Below [AVal.lptr 0 0, AVal.v (CVal.int i64 c)]
 [PB.box [AVal.v y_1, AVal.v y_2, AVal.v y]]).bind
 fun r_1 =>
 r_1.2[0]?.bind fun y =>
 y[0]?.bind fun y_4 =>
 y[1]?.bind fun y_5 =>
 y[2]?.bind fun y =>
 br (r_1.1.isFlat && true)
 ((CVal.asInt i64 r.1).bind fun n =>
 y_4.asSl.bind fun xs =>
 (CVal.asInt i64 y_5).bind fun n_1 =>
 (CVal.asInt i64 y).bind fun n_2 =>
 (CVal.asInt i64 r.1).bind fun n_3 =>
 (CVal.asInt i64 r_1.1).bind fun n_4 =>
 (L f_s_l1Ty 0 lc_s_l1Ty_0 [PSh.box [none, none, none]] k_s_l1Ty_0
 (((), b, c, (), n, (), 0, ()),
 (xs, n_1, n_2, ()),
 (0, 0, (), ()), [],
 (n_3, n_4, (), ()), [], ())).bind
 fun r =>
 loK r (fun r => some r) fun j p =>
 br (j == 0)
 (some
 (CVal.agg
 [CVal.int i64 p.snd.snd.snd.snd.fst.1,
 CVal.int i64 p.snd.snd.snd.snd.fst.snd.1,
 CVal.sl p.snd.snd.snd.snd.snd.1],
 [[CVal.sl p.snd.fst.1, CVal.int i64 p.snd.fst.snd.1,
 CVal.int i64 p.snd.fst.snd.snd.1]]))
 none)
 none)
 ((CVal.asInt i64 r.1).bind fun n =>
 y_1.asSl.bind fun xs =>
 (CVal.asInt i64 y_2).bind fun n_1 =>
 (CVal.asInt i64 y).bind fun n_2 =>
 (CVal.asInt i64 r.1).bind fun n_3 =>
 (L f_s_l1Ty 0 lc_s_l1Ty_0 [PSh.box [none, none, none]] k_s_l1Ty_0
 (((), b, c, (), n, (), 0, ()),
 (xs, n_1, n_2, ()), (0, 0, (), ()), [],
 (n_3, 0, (), ()), [], ())).bind
 fun r =>
 loK r (fun r => some r) fun j p =>
 br (j == 0)
 (some
 (CVal.agg
 [CVal.int i64 p.snd.snd.snd.snd.fst.1,
 CVal.int i64 p.snd.snd.snd.snd.fst.snd.1,
 CVal.sl p.snd.snd.snd.snd.snd.1],
 [[CVal.sl p.snd.fst.1, CVal.int i64 p.snd.fst.snd.1,
 CVal.int i64 p.snd.fst.snd.snd.1]]))
 none))
 none)
theorem go_s_l1Ty (a0 : List CVal) (a1 : Int) (a2 : Int) (b : Int) (c : Int) (R : Ret) (h : nf_s_l1Ty CC LL a0 a1 a2 b c = some R) : CC f_s_l1Ty [AVal.lptr 0 0, AVal.v (CVal.int i64 b), AVal.v (CVal.int i64 c)] [PB.box [AVal.v (CVal.sl a0), AVal.v (CVal.int i64 a1), AVal.v (CVal.int i64 a2)]] = some R := fnW (by decide) rfl (Eq.trans (b := nf_s_l1Ty CC LL a0 a1 a2 b c) (by kernel_rfl) h)
noncomputable def nf_slices_IndexFunc_Ty (C : CallT) (L : LoopT) (a : List CVal) (b : CVal) : Option Ret :=
 (L f_slices_IndexFunc_Ty 0 lc_slices_IndexFunc_Ty_0 [] k_slices_IndexFunc_Ty_0
 ((a, b, (↑a.length : Int), 0, ()), ())).bind
 fun r => loK r (fun r => some r) fun j p => br (j == 0) (some (CVal.int i64 (-1 : Int), [])) none
theorem go_slices_IndexFunc_Ty (a : List CVal) (b : CVal) (R : Ret) (h : nf_slices_IndexFunc_Ty CC LL a b = some R) : CC f_slices_IndexFunc_Ty [AVal.v (CVal.sl a), AVal.v b] [] = some R := fnW (by decide) rfl (Eq.trans (b := nf_slices_IndexFunc_Ty CC LL a b) (by kernel_rfl) h)
noncomputable def nf_i_anyTy_1 (C : CallT) (L : LoopT) (a0 : Int) (a1 : Int) (a2 : List CVal) (b : CVal) : Option Ret :=
 (b.cell 0).bind fun c =>
 (C f_i_anyTy [AVal.v (CVal.agg [CVal.int i64 a0, CVal.int i64 a1, CVal.sl a2]), AVal.v c] []).bind
 fun r => some (r.1, [])
theorem go_i_anyTy_1 (a0 : Int) (a1 : Int) (a2 : List CVal) (b : CVal) (R : Ret) (h : nf_i_anyTy_1 CC LL a0 a1 a2 b = some R) : CC f_i_anyTy_1 [AVal.v (CVal.agg [CVal.int i64 a0, CVal.int i64 a1, CVal.sl a2]), AVal.v (b.fp 0)] [] = some R := fnW (by decide) rfl (Eq.trans (b := nf_i_anyTy_1 CC LL a0 a1 a2 b) (by kernel_rfl) h)
noncomputable def nf_s_l1In (C : CallT) (L : LoopT) (a : Int) (b : Int) (c : Int) : Option Ret :=
 (br (decide (b ≤ a)) (some (decide (a ≤ c), ())) (some (false, ()))).bind fun y =>
 some (CVal.bool y.1, [])
theorem go_s_l1In (a : Int) (b : Int) (c : Int) (R : Ret) (h : nf_s_l1In CC LL a b c = some R) : CC f_s_l1In [AVal.v (CVal.int i64 a), AVal.v (CVal.int i64 b), AVal.v (CVal.int i64 c)] [] = some R := fnW (by decide) rfl (Eq.trans (b := nf_s_l1In CC LL a b c) (by kernel_rfl) h)
noncomputable def nl_s_l1New_0 (C : CallT) (L : LoopT) (x00 : List CVal) (x01 : Int) (x02 : Int) : Option (LO k_s_l1New_0.T) :=
 (br (decide (x02 < (↑x00.length : Int))) (some (decide (x02 < 4000), ()))
 (some (false, ()))).bind
 fun y =>
 br y.1
 (br (decide (0 ≤ x02) && true)
 (x00[x02.toNat]?.bind fun y =>
 br (CVal.fits false 1 y)
 ((y.cell 0).bind fun c =>
 (CVal.asInt IntKind.u8 c).bind fun n =>
 L f_s_l1New 0 lc_s_l1New_0 [] k_s_l1New_0
 ((x00,
 bAnd i64
 (i64.wrap
 (i64.wrap (i64.wrap (x01 * 137) + i64.wrap n) + 11))
 1073741823,
 i64.wrap (x02 + 1), ()),
 ()))
 none)
 none)
 (some (LO.out 0 ((x00, x01, x02, ()), ())))
theorem gl_s_l1New_0 (x00 : List CVal) (x01 : Int) (x02 : Int) (R : LO k_s_l1New_0.T) (h : nl_s_l1New_0 CC LL x00 x01 x02 = some R) : LL f_s_l1New 0 lc_s_l1New_0 [] k_s_l1New_0 ((x00, x01, x02, ()), ()) = some R := loopW (Eq.trans (b := nl_s_l1New_0 CC LL x00 x01 x02) (by kernel_rfl) h)
noncomputable def nl_i_varsOf_0 (C : CallT) (L : LoopT) (x00 : Int) (x01 : List CVal) (x02 : Int) (x03 : Int) : Option (LO k_i_varsOf_0.T) :=
 br (decide (x03 < x02))
 (br (decide (0 ≤ x03) && true)
 (x01[x03.toNat]?.bind fun y =>
 br (CVal.fits true 3 y)
 ((y.sub 0 3).bind fun y =>
 br (CVal.isAggN 3 y)
 ((y.cell 0).bind fun c =>
 (y.cell 1).bind fun c_1 =>
 (y.cell 2).bind fun c_2 =>
 (C f_i_varsOf [AVal.v (CVal.agg [c, c_1, c_2])] []).bind fun r =>
 (CVal.asInt i64 r.1).bind fun n =>
 L f_i_varsOf 0 lc_i_varsOf_0 [] k_i_varsOf_0
 ((bif decide (x00 < n) then n else x00, x01, x02, i64.wrap (x03 + 1),
 ()),
 ()))
 none)
 none)
 none)
 (some (LO.out 0 ((x00, x01, x02, x03, ()), ())))
theorem gl_i_varsOf_0 (x00 : Int) (x01 : List CVal) (x02 : Int) (x03 : Int) (R : LO k_i_varsOf_0.T) (h : nl_i_varsOf_0 CC LL x00 x01 x02 x03 = some R) : LL f_i_varsOf 0 lc_i_varsOf_0 [] k_i_varsOf_0 ((x00, x01, x02, x03, ()), ()) = some R := loopW (Eq.trans (b := nl_i_varsOf_0 CC LL x00 x01 x02 x03) (by kernel_rfl) h)
noncomputable def nl_s_l1Bend_1 (C : CallT) (L : LoopT) (x02 : Int) (x10 : List CVal) (x11 : Int) (x12 : Int) (x20 : Int) (x21 : Int) (x3 : List CVal) (x40 : Int) (x41 : Int) (x5 : List CVal) : Option (LO k_s_l1Bend_1.T) :=
 br (decide (x02 < 5))
 (L f_s_l1Bend 1 lc_s_l1Bend_1 [PSh.box [none, none, none]] k_s_l1Bend_1
 (((), (), i64.wrap (x02 + 1), ()), (x10, x11, x12, ()),
 (6, 0, (), ()),
 [CVal.agg [CVal.int i64 x20, CVal.int i64 x21, CVal.sl x3]], (x40, x41, (), ()),
 x5, ()))
 (some
 (LO.out 1
 (((), (), x02, ()), (x10, x11, x12, ()), (x20, x21, (), ()), x3,
 (x40, x41, (), ()), x5, ())))
theorem gl_s_l1Bend_1 (x02 : Int) (x10 : List CVal) (x11 : Int) (x12 : Int) (x20 : Int) (x21 : Int) (x3 : List CVal) (x40 : Int) (x41 : Int) (x5 : List CVal) (R : LO k_s_l1Bend_1.T) (h : nl_s_l1Bend_1 CC LL x02 x10 x11 x12 x20 x21 x3 x40 x41 x5 = some R) : LL f_s_l1Bend 1 lc_s_l1Bend_1 [PSh.box [none, none, none]] k_s_l1Bend_1 (((), (), x02, ()), (x10, x11, x12, ()), (x20, x21, (), ()), x3, (x40, x41, (), ()), x5, ()) = some R := loopW (Eq.trans (b := nl_s_l1Bend_1 CC LL x02 x10 x11 x12 x20 x21 x3 x40 x41 x5) (by kernel_rfl) h)
noncomputable def nl_s_l1Copy_0 (C : CallT) (L : LoopT) (x03 : Int) (x10 : Int) (x11 : Int) (x12 : List CVal) (x20 : Int) (x21 : Int) (x3 : List CVal) (x40 : Int) (x41 : Int) (x5 : List CVal) : Option (LO k_s_l1Copy_0.T) :=
 br (decide (x03 < (↑x12.length : Int)))
 (br (decide (0 ≤ x03) && true)
 (x12[x03.toNat]?.bind fun y =>
 br (CVal.fits true 3 y)
 ((y.sub 0 3).bind fun y =>
 (C f_s_l1Copy [AVal.v y] []).bind fun r =>
 br (CVal.isAggN 3 r.1)
 ((r.1.cell 0).bind fun c =>
 (r.1.cell 1).bind fun c_1 =>
 (r.1.cell 2).bind fun c_2 =>
 c_2.asSl.bind fun xs =>
 br (decide (x5.length + 1 ≤ 4294967296) && true && true)
 (L f_s_l1Copy 0 lc_s_l1Copy_0 [] k_s_l1Copy_0
 (((), (), (), i64.wrap (x03 + 1), ()),
 (x10, x11, x12, ()), (x20, x21, (), ()), x3,
 (x40, x41, (), ()), x5 ++ [CVal.agg [c, c_1, CVal.sl xs]], ()))
 none)
 none)
 none)
 none)
 (some
 (LO.out 0
 (((), (), (), x03, ()), (x10, x11, x12, ()),
 (x20, x21, (), ()), x3, (x40, x41, (), ()), x5, ())))
theorem gl_s_l1Copy_0 (x03 : Int) (x10 : Int) (x11 : Int) (x12 : List CVal) (x20 : Int) (x21 : Int) (x3 : List CVal) (x40 : Int) (x41 : Int) (x5 : List CVal) (R : LO k_s_l1Copy_0.T) (h : nl_s_l1Copy_0 CC LL x03 x10 x11 x12 x20 x21 x3 x40 x41 x5 = some R) : LL f_s_l1Copy 0 lc_s_l1Copy_0 [] k_s_l1Copy_0 (((), (), (), x03, ()), (x10, x11, x12, ()), (x20, x21, (), ()), x3, (x40, x41, (), ()), x5, ()) = some R := loopW (Eq.trans (b := nl_s_l1Copy_0 CC LL x03 x10 x11 x12 x20 x21 x3 x40 x41 x5) (by kernel_rfl) h)
end Go.Proofs.Ytmjjaoffeajcbaa.Abs
