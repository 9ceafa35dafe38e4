/- What the functions come to in the abstract machine. -/
import Derived.Test.YtmjjaoffeajcbaaF1Ann
import Derived.KernelRfl
set_option linter.unusedVariables false
set_option maxRecDepth 100000
namespace Go.Proofs.Ytmjjaoffeajcbaa.Abs
open Go Go.Proofs Go.IntKind
noncomputable def nf_s_DrawSubstTy (C : CallT) (L : LoopT) (a : List CVal) : Option Ret :=
 (C f_s_l1New [AVal.v (CVal.sl a)] []).bind fun r =>
 r.1.asFp.bind fun y =>
 br (decide (y.2 = 0) && CVal.isAggN 3 y.1)
 ((y.1.cell 0).bind fun c =>
 (y.1.cell 1).bind fun c_1 =>
 (y.1.cell 2).bind fun c_2 =>
 (C f_s_l1Any [AVal.lptr 0 0] [PB.box [AVal.v c, AVal.v c_1, AVal.v c_2]]).bind fun r =>
 r.2[0]?.bind fun y =>
 y[0]?.bind fun y_1 =>
 y[1]?.bind fun y_2 =>
 y[2]?.bind fun y =>
 br (CVal.isAggN 3 r.1)
 ((r.1.cell 0).bind fun c =>
 (r.1.cell 1).bind fun c_3 =>
 (r.1.cell 2).bind fun c_4 =>
 (C f_s_l1Int
 [AVal.lptr 0 0,
 AVal.v
 (CVal.sl
 [CVal.int i64 2, CVal.int i64 2,
 CVal.int i64 1, CVal.int i64 0,
 CVal.int i64 3])]
 [PB.box [AVal.v y_1, AVal.v y_2, AVal.v y]]).bind
 fun r =>
 r.2[0]?.bind fun y =>
 y[0]?.bind fun y_3 =>
 y[1]?.bind fun y_4 =>
 y[2]?.bind fun y =>
 (CVal.asInt i64 r.1).bind fun n =>
 y_3.asSl.bind fun xs =>
 (CVal.asInt i64 y_4).bind fun n_1 =>
 (CVal.asInt i64 y).bind fun n_2 =>
 (CVal.asInt i64 c).bind fun n_3 =>
 (CVal.asInt i64 c_3).bind fun n_4 =>
 c_4.asSl.bind fun xs_1 =>
 (L f_s_DrawSubstTy 0 lc_s_DrawSubstTy_0 []
 k_s_DrawSubstTy_0
 (((), (), (), (), n,
 ()),
 (0, 0, [], ()),
 (xs, n_1, n_2, ()), (n_3, n_4, xs_1, ()),
 [], ())).bind
 fun r =>
 loK r (fun r => some r) fun j p =>
 br (j == 0)
 (some
 (CVal.tup
 [CVal.agg
 [CVal.int i64 p.snd.snd.snd.fst.1,
 CVal.int i64 p.snd.snd.snd.fst.snd.1,
 CVal.sl p.snd.snd.snd.fst.snd.snd.1],
 CVal.sl p.snd.snd.snd.snd.1],
 []))
 none)
 none)
 none
theorem go_s_DrawSubstTy (a : List CVal) (R : Ret) (h : nf_s_DrawSubstTy CC LL a = some R) : CC f_s_DrawSubstTy [AVal.v (CVal.sl a)] [] = some R := fnW (by decide) rfl (Eq.trans (b := nf_s_DrawSubstTy CC LL a) (by kernel_rfl) h)
noncomputable def nf_i_Ground (C : CallT) (L : LoopT) (a0 : Int) (a1 : Int) (a2 : List CVal) : Option Ret :=
 ((C f_i_TyOk [AVal.v (CVal.agg [CVal.int i64 a0, CVal.int i64 a1, CVal.sl a2])] []).bind fun r =>
 r.1.asBool.bind fun b =>
 br b
 ((C f_i_anyTy
 [AVal.v (CVal.agg [CVal.int i64 a0, CVal.int i64 a1, CVal.sl a2]),
 AVal.v (CVal.func f_i_Ground_1 [])]
 []).bind
 fun r => r.1.asBool.bind fun b => some (!b, ()))
 (some (false, ()))).bind
 fun y => some (CVal.bool y.1, [])
theorem go_i_Ground (a0 : Int) (a1 : Int) (a2 : List CVal) (R : Ret) (h : nf_i_Ground CC LL a0 a1 a2 = some R) : CC f_i_Ground [AVal.v (CVal.agg [CVal.int i64 a0, CVal.int i64 a1, CVal.sl a2])] [] = some R := fnW (by decide) rfl (Eq.trans (b := nf_i_Ground CC LL a0 a1 a2) (by kernel_rfl) h)
noncomputable def nf_s_l1Any (C : CallT) (L : LoopT) (a0 : List CVal) (a1 : Int) (a2 : Int) : Option Ret :=
 (C f_s_l1Ty
 [AVal.lptr 0 0, AVal.v (CVal.int i64 4), AVal.v (CVal.int i64 2)]
 [PB.box [AVal.v (CVal.sl a0), AVal.v (CVal.int i64 a1), AVal.v (CVal.int i64 a2)]]).bind
 fun r =>
 r.2[0]?.bind fun y =>
 y[0]?.bind fun y_1 =>
 y[1]?.bind fun y_2 =>
 y[2]?.bind fun y =>
 br (CVal.isAggN 3 r.1)
 ((r.1.cell 0).bind fun c =>
 (r.1.cell 1).bind fun c_1 =>
 (r.1.cell 2).bind fun c_2 =>
 (C f_s_l1Once [AVal.lptr 0 0, AVal.v (CVal.int i64 6)]
 [PB.box [AVal.v y_1, AVal.v y_2, AVal.v y]]).bind
 fun r =>
 r.2[0]?.bind fun y =>
 y[0]?.bind fun y_3 =>
 y[1]?.bind fun y_4 =>
 y[2]?.bind fun y =>
 r.1.asBool.bind fun b =>
 br b
 ((C f_s_l1Bend [AVal.lptr 0 0, AVal.v (CVal.agg [c, c_1, c_2])]
 [PB.box [AVal.v y_3, AVal.v y_4, AVal.v y]]).bind
 fun r =>
 r.2[0]?.bind fun y =>
 y[0]?.bind fun y_5 =>
 y[1]?.bind fun y_6 =>
 y[2]?.bind fun y =>
 br (CVal.isAggN 3 r.1)
 ((r.1.cell 0).bind fun c =>
 (r.1.cell 1).bind fun c_3 =>
 (r.1.cell 2).bind fun c_4 =>
 some (CVal.agg [c, c_3, c_4], [[y_5, y_6, y]]))
 none)
 (some (CVal.agg [c, c_1, c_2], [[y_3, y_4, y]])))
 none
theorem go_s_l1Any (a0 : List CVal) (a1 : Int) (a2 : Int) (R : Ret) (h : nf_s_l1Any CC LL a0 a1 a2 = some R) : CC f_s_l1Any [AVal.lptr 0 0] [PB.box [AVal.v (CVal.sl a0), AVal.v (CVal.int i64 a1), AVal.v (CVal.int i64 a2)]] = some R := fnW (by decide) rfl (Eq.trans (b := nf_s_l1Any CC LL a0 a1 a2) (by kernel_rfl) h)
noncomputable def nf_i_SubstTy_1 (C : CallT) (L : LoopT) (a0 : Int) (a1 : Int) (a2 : List CVal) : Option Ret :=
 (C f_i_TyOk [AVal.v (CVal.agg [CVal.int i64 a0, CVal.int i64 a1, CVal.sl a2])] []).bind fun r =>
 r.1.asBool.bind fun b => some (CVal.bool !b, [])
theorem go_i_SubstTy_1 (a0 : Int) (a1 : Int) (a2 : List CVal) (R : Ret) (h : nf_i_SubstTy_1 CC LL a0 a1 a2 = some R) : CC f_i_SubstTy_1 [AVal.v (CVal.agg [CVal.int i64 a0, CVal.int i64 a1, CVal.sl a2])] [] = some R := fnW (by decide) rfl (Eq.trans (b := nf_i_SubstTy_1 CC LL a0 a1 a2) (by kernel_rfl) h)
noncomputable def nf_i_varsOf (C : CallT) (L : LoopT) (a0 : Int) (a1 : Int) (a2 : List CVal) : Option Ret :=
 br (decide (a0 = 3))
 ((L f_i_varsOf 0 lc_i_varsOf_0 [] k_i_varsOf_0
 ((i64.wrap (a1 + 1), a2, (↑a2.length : Int), 0, ()), ())).bind
 fun r => loK r (fun r => some r) fun j p => br (j == 0) (some (CVal.int i64 p.fst.1, [])) none)
 ((L f_i_varsOf 0 lc_i_varsOf_0 [] k_i_varsOf_0
 ((0, a2, (↑a2.length : Int), 0, ()), ())).bind
 fun r => loK r (fun r => some r) fun j p => br (j == 0) (some (CVal.int i64 p.fst.1, [])) none)
theorem go_i_varsOf (a0 : Int) (a1 : Int) (a2 : List CVal) (R : Ret) (h : nf_i_varsOf CC LL a0 a1 a2 = some R) : CC f_i_varsOf [AVal.v (CVal.agg [CVal.int i64 a0, CVal.int i64 a1, CVal.sl a2])] [] = some R := fnW (by decide) rfl (Eq.trans (b := nf_i_varsOf CC LL a0 a1 a2) (by kernel_rfl) h)
noncomputable def nf_slices_EqualFunc_Ty (C : CallT) (L : LoopT) (a : List CVal) (b : List CVal) (c : CVal) : Option Ret :=
 br (!decide ((↑a.length : Int) = (↑b.length : Int))) (some (CVal.bool false, []))
 ((L f_slices_EqualFunc_Ty 0 lc_slices_EqualFunc_Ty_0 [] k_slices_EqualFunc_Ty_0
 ((b, c, a, (↑a.length : Int), 0, ()), ())).bind
 fun r => loK r (fun r => some r) fun j p => br (j == 0) (some (CVal.bool true, [])) none)
theorem go_slices_EqualFunc_Ty (a : List CVal) (b : List CVal) (c : CVal) (R : Ret) (h : nf_slices_EqualFunc_Ty CC LL a b c = some R) : CC f_slices_EqualFunc_Ty [AVal.v (CVal.sl a), AVal.v (CVal.sl b), AVal.v c] [] = some R := fnW (by decide) rfl (Eq.trans (b := nf_slices_EqualFunc_Ty CC LL a b c) (by kernel_rfl) h)
noncomputable def nf_s_l1Below (C : CallT) (L : LoopT) (a0 : List CVal) (a1 : Int) (a2 : Int) (b : Int) : Option Ret :=
 br (decide (b ≤ 0))
 (some (CVal.int i64 0, [[CVal.sl a0, CVal.int i64 a1, CVal.int i64 a2]]))
 (br (decide (b ≤ 256))
 ((C f_s_l1Byte [AVal.lptr 0 0]
 [PB.box [AVal.v (CVal.sl a0), AVal.v (CVal.int i64 a1), AVal.v (CVal.int i64 a2)]]).bind
 fun r =>
 r.2[0]?.bind fun y =>
 y[0]?.bind fun y_1 =>
 y[1]?.bind fun y_2 =>
 y[2]?.bind fun y =>
 (CVal.asInt i64 r.1).bind fun n =>
 (br (decide (b = 0)) none (some (CVal.int i64 (n.tmod b)))).bind fun y_3 =>
 some (y_3, [[y_1, y_2, y]]))
 ((C f_s_l1Byte [AVal.lptr 0 0]
 [PB.box [AVal.v (CVal.sl a0), AVal.v (CVal.int i64 a1), AVal.v (CVal.int i64 a2)]]).bind
 fun r =>
 r.2[0]?.bind fun y =>
 y[0]?.bind fun y_1 =>
 y[1]?.bind fun y_2 =>
 y[2]?.bind fun y =>
 (C f_s_l1Byte [AVal.lptr 0 0] [PB.box [AVal.v y_1, AVal.v y_2, AVal.v y]]).bind fun r_1 =>
 r_1.2[0]?.bind fun y =>
 y[0]?.bind fun y_3 =>
 y[1]?.bind fun y_4 =>
 y[2]?.bind fun y =>
 (C f_s_l1Byte [AVal.lptr 0 0] [PB.box [AVal.v y_3, AVal.v y_4, AVal.v y]]).bind
 fun r_2 =>
 r_2.2[0]?.bind fun y =>
 y[0]?.bind fun y_5 =>
 y[1]?.bind fun y_6 =>
 y[2]?.bind fun y =>
 (CVal.asInt i64 r.1).bind fun n =>
 (CVal.asInt i64 r_1.1).bind fun n_1 =>
 (CVal.asInt i64 r_2.1).bind fun n_2 =>
 (br (decide (b = 0)) none
 (some
 (CVal.int i64
 ((i64.wrap
 (i64.wrap
 (i64.wrap (n * 65536) +
 i64.wrap (n_1 * 256)) +
 n_2)).tmod
 b)))).bind
 fun y_7 => some (y_7, [[y_5, y_6, y]])))
theorem go_s_l1Below (a0 : List CVal) (a1 : Int) (a2 : Int) (b : Int) (R : Ret) (h : nf_s_l1Below CC LL a0 a1 a2 b = some R) : CC f_s_l1Below [AVal.lptr 0 0, AVal.v (CVal.int i64 b)] [PB.box [AVal.v (CVal.sl a0), AVal.v (CVal.int i64 a1), AVal.v (CVal.int i64 a2)]] = some R := fnW (by decide) rfl (Eq.trans (b := nf_s_l1Below CC LL a0 a1 a2 b) (by kernel_rfl) h)
noncomputable def nf_s_l1Copy (C : CallT) (L : LoopT) (a0 : Int) (a1 : Int) (a2 : List CVal) : Option Ret :=
 (L f_s_l1Copy 0 lc_s_l1Copy_0 [] k_s_l1Copy_0
 (((), (), (), 0, ()), (a0, a1, a2, ()),
 (0, 0, (), ()), [], (a0, a1, (), ()), [], ())).bind
 fun r =>
 loK r (fun r => some r) fun j p =>
 br (j == 0)
 (some
 (CVal.agg
 [CVal.int i64 p.snd.snd.snd.snd.fst.1, CVal.int i64 p.snd.snd.snd.snd.fst.snd.1,
 CVal.sl p.snd.snd.snd.snd.snd.1],
 []))
 none
theorem go_s_l1Copy (a0 : Int) (a1 : Int) (a2 : List CVal) (R : Ret) (h : nf_s_l1Copy CC LL a0 a1 a2 = some R) : CC f_s_l1Copy [AVal.v (CVal.agg [CVal.int i64 a0, CVal.int i64 a1, CVal.sl a2])] [] = some R := fnW (by decide) rfl (Eq.trans (b := nf_s_l1Copy CC LL a0 a1 a2) (by kernel_rfl) h)
noncomputable def nf_s_l1Byte (C : CallT) (L : LoopT) (a0 : List CVal) (a1 : Int) (a2 : Int) : Option Ret :=
 br (decide (a1 < (↑a0.length : Int)))
 (br (decide (0 ≤ a1) && true)
 (a0[a1.toNat]?.bind fun y =>
 br (CVal.fits false 1 y)
 ((y.cell 0).bind fun c =>
 (CVal.asInt IntKind.u8 c).bind fun n =>
 some
 (CVal.int i64
 (bAnd i64
 (i64.wrap
 (bAnd i64
 (bXor i64
 ((i64.wrap
 (i64.wrap (a2 * 6364136223846793005) +
 1442695040888963407)).fdiv
 8589934592)
 ((i64.wrap
 (i64.wrap (a2 * 6364136223846793005) +
 1442695040888963407)).fdiv
 140737488355328))
 255 +
 i64.wrap n))
 255),
 [[CVal.sl a0, CVal.int i64 (i64.wrap (a1 + 1)),
 CVal.int i64
 (i64.wrap
 (i64.wrap (a2 * 6364136223846793005) + 1442695040888963407))]]))
 none)
 none)
 (some
 (CVal.int i64
 (bAnd i64
 (bXor i64
 ((i64.wrap (i64.wrap (a2 * 6364136223846793005) + 1442695040888963407)).fdiv
 8589934592)
 ((i64.wrap (i64.wrap (a2 * 6364136223846793005) + 1442695040888963407)).fdiv
 140737488355328))
 255),
 [[CVal.sl a0, CVal.int i64 a1,
 CVal.int i64
 (i64.wrap (i64.wrap (a2 * 6364136223846793005) + 1442695040888963407))]]))
theorem go_s_l1Byte (a0 : List CVal) (a1 : Int) (a2 : Int) (R : Ret) (h : nf_s_l1Byte CC LL a0 a1 a2 = some R) : CC f_s_l1Byte [AVal.lptr 0 0] [PB.box [AVal.v (CVal.sl a0), AVal.v (CVal.int i64 a1), AVal.v (CVal.int i64 a2)]] = some R := fnW (by decide) rfl (Eq.trans (b := nf_s_l1Byte CC LL a0 a1 a2) (by kernel_rfl) h)
noncomputable def nl_s_SubstTy_0 (C : CallT) (L : LoopT) (x00 : List CVal) (x03 : Int) (x10 : Int) (x11 : Int) (x12 : List CVal) (x20 : Int) (x21 : Int) (x3 : List CVal) : Option (LO k_s_SubstTy_0.T) :=
 br (decide (x03 < (↑x00.length : Int)))
 (br (decide (0 ≤ x03) && true)
 (x00[x03.toNat]?.bind fun y =>
 br (CVal.fits true 3 y)
 ((y.sub 0 3).bind fun y =>
 (C f_s_TyOk [AVal.v y] []).bind fun r =>
 r.1.asBool.bind fun b =>
 br (!b)
 (some
 (LO.ret
 (CVal.tup
 [CVal.agg [CVal.int i64 0, CVal.int i64 0, CVal.sl []],
 CVal.bool false],
 [])))
 (L f_s_SubstTy 0 lc_s_SubstTy_0 [] k_s_SubstTy_0
 ((x00, (), (), i64.wrap (x03 + 1), ()),
 (x10, x11, x12, ()), (x20, x21, (), ()), x3, ())))
 none)
 none)
 (some
 (LO.out 0
 ((x00, (), (), x03, ()), (x10, x11, x12, ()), (x20, x21, (), ()),
 x3, ())))
theorem gl_s_SubstTy_0 (x00 : List CVal) (x03 : Int) (x10 : Int) (x11 : Int) (x12 : List CVal) (x20 : Int) (x21 : Int) (x3 : List CVal) (R : LO k_s_SubstTy_0.T) (h : nl_s_SubstTy_0 CC LL x00 x03 x10 x11 x12 x20 x21 x3 = some R) : LL f_s_SubstTy 0 lc_s_SubstTy_0 [] k_s_SubstTy_0 ((x00, (), (), x03, ()), (x10, x11, x12, ()), (x20, x21, (), ()), x3, ()) = some R := loopW (Eq.trans (b := nl_s_SubstTy_0 CC LL x00 x03 x10 x11 x12 x20 x21 x3) (by kernel_rfl) h)
noncomputable def nl_s_l1Put_0 (C : CallT) (L : LoopT) (x00 : List CVal) (x04 : Int) (x10 : Int) (x11 : Int) (x12 : List CVal) (x20 : Int) (x21 : Int) (x3 : List CVal) (x40 : Int) (x41 : Int) (x5 : List CVal) : Option (LO k_s_l1Put_0.T) :=
 br (decide (x04 < (↑x12.length : Int)))
 (br (decide (0 ≤ x04) && true)
 (x12[x04.toNat]?.bind fun y =>
 br (CVal.fits true 3 y)
 ((y.sub 0 3).bind fun y =>
 (C f_s_l1Put [AVal.v y, AVal.v (CVal.sl x00)] []).bind fun r =>
 br ([r.1].all (CVal.fits true 3))
 (br ([r.1].all (CVal.fits true 3))
 (br (decide (x5.length + 1 ≤ 4294967296) && true && true)
 (L f_s_l1Put 0 lc_s_l1Put_0 [] k_s_l1Put_0
 ((x00, (), (), (), i64.wrap (x04 + 1), ()),
 (x10, x11, x12, ()), (x20, x21, (), ()), x3,
 (x40, x41, (), ()), x5 ++ [r.1], ()))
 none)
 none)
 none)
 none)
 none)
 (some
 (LO.out 0
 ((x00, (), (), (), x04, ()), (x10, x11, x12, ()),
 (x20, x21, (), ()), x3, (x40, x41, (), ()), x5, ())))
theorem gl_s_l1Put_0 (x00 : List CVal) (x04 : Int) (x10 : Int) (x11 : Int) (x12 : List CVal) (x20 : Int) (x21 : Int) (x3 : List CVal) (x40 : Int) (x41 : Int) (x5 : List CVal) (R : LO k_s_l1Put_0.T) (h : nl_s_l1Put_0 CC LL x00 x04 x10 x11 x12 x20 x21 x3 x40 x41 x5 = some R) : LL f_s_l1Put 0 lc_s_l1Put_0 [] k_s_l1Put_0 ((x00, (), (), (), x04, ()), (x10, x11, x12, ()), (x20, x21, (), ()), x3, (x40, x41, (), ()), x5, ()) = some R := loopW (Eq.trans (b := nl_s_l1Put_0 CC LL x00 x04 x10 x11 x12 x20 x21 x3 x40 x41 x5) (by kernel_rfl) h)
noncomputable def nl_s_l1Ty_0 (C : CallT) (L : LoopT) (x01 : Int) (x02 : Int) (x04 : Int) (x06 : Int) (x10 : List CVal) (x11 : Int) (x12 : Int) (x20 : Int) (x21 : Int) (x3 : List CVal) (x40 : Int) (x41 : Int) (x5 : List CVal) : Option (LO k_s_l1Ty_0.T) :=
 (C f_s_l1Args [AVal.v (CVal.int i64 x04)] []).bind fun r =>
 (CVal.asInt i64 r.1).bind fun n =>
 br (decide (x06 < n))
 ((C f_s_l1Ty
 [AVal.lptr 0 0, AVal.v (CVal.int i64 (i64.wrap (x01 - 1))),
 AVal.v (CVal.int i64 x02)]
 [PB.box [AVal.v (CVal.sl x10), AVal.v (CVal.int i64 x11), AVal.v (CVal.int i64 x12)]]).bind
 fun r =>
 r.2[0]?.bind fun y =>
 y[0]?.bind fun y_1 =>
 y[1]?.bind fun y_2 =>
 y[2]?.bind fun y =>
 br ([r.1].all (CVal.fits true 3))
 (br ([r.1].all (CVal.fits true 3))
 (br (decide (x5.length + 1 ≤ 4294967296) && true && true)
 (y_1.asSl.bind fun xs =>
 (CVal.asInt i64 y_2).bind fun n =>
 (CVal.asInt i64 y).bind fun n_1 =>
 L f_s_l1Ty 0 lc_s_l1Ty_0 [PSh.box [none, none, none]] k_s_l1Ty_0
 (((), x01, x02, (), x04, (), i64.wrap (x06 + 1),
 ()),
 (xs, n, n_1, ()), (x20, x21, (), ()), x3,
 (x40, x41, (), ()), x5 ++ [r.1], ()))
 none)
 none)
 none)
 (some
 (LO.out 0
 (((), x01, x02, (), x04, (), x06, ()), (x10, x11, x12, ()),
 (x20, x21, (), ()), x3, (x40, x41, (), ()), x5, ())))
theorem gl_s_l1Ty_0 (x01 : Int) (x02 : Int) (x04 : Int) (x06 : Int) (x10 : List CVal) (x11 : Int) (x12 : Int) (x20 : Int) (x21 : Int) (x3 : List CVal) (x40 : Int) (x41 : Int) (x5 : List CVal) (R : LO k_s_l1Ty_0.T) (h : nl_s_l1Ty_0 CC LL x01 x02 x04 x06 x10 x11 x12 x20 x21 x3 x40 x41 x5 = some R) : LL f_s_l1Ty 0 lc_s_l1Ty_0 [PSh.box [none, none, none]] k_s_l1Ty_0 (((), x01, x02, (), x04, (), x06, ()), (x10, x11, x12, ()), (x20, x21, (), ()), x3, (x40, x41, (), ()), x5, ()) = some R := loopW (Eq.trans (b := nl_s_l1Ty_0 CC LL x01 x02 x04 x06 x10 x11 x12 x20 x21 x3 x40 x41 x5) (by kernel_rfl) h)
noncomputable def nl_s_l1Look_0 (C : CallT) (L : LoopT) (x00 : Int) (x03 : Int) (x10 : Int) (x20 : Int) (x21 : Int) (x22 : List CVal) : Option (LO k_s_l1Look_0.T) :=
 br (decide (x03 < (↑x22.length : Int)))
 (br (decide (0 ≤ x03) && true)
 (x22[x03.toNat]?.bind fun y =>
 br (CVal.fits true 3 y)
 ((y.sub 0 3).bind fun y =>
 (C f_s_l1Look
 [AVal.v y, AVal.v (CVal.int i64 (i64.wrap (x00 - 1))),
 AVal.lptr 0 0]
 [PB.box [AVal.v (CVal.int i64 x10)]]).bind
 fun r =>
 r.2[0]?.bind fun y =>
 y[0]?.bind fun y =>
 r.1.asBool.bind fun b =>
 br (!b) (some (LO.ret (CVal.bool false, [[y]])))
 ((CVal.asInt i64 y).bind fun n =>
 L f_s_l1Look 0 lc_s_l1Look_0 [PSh.box [none]] k_s_l1Look_0
 ((x00, (), (), i64.wrap (x03 + 1), ()), (n, ()),
 (x20, x21, x22, ()), ())))
 none)
 none)
 (some
 (LO.out 0
 ((x00, (), (), x03, ()), (x10, ()), (x20, x21, x22, ()), ())))
theorem gl_s_l1Look_0 (x00 : Int) (x03 : Int) (x10 : Int) (x20 : Int) (x21 : Int) (x22 : List CVal) (R : LO k_s_l1Look_0.T) (h : nl_s_l1Look_0 CC LL x00 x03 x10 x20 x21 x22 = some R) : LL f_s_l1Look 0 lc_s_l1Look_0 [PSh.box [none]] k_s_l1Look_0 ((x00, (), (), x03, ()), (x10, ()), (x20, x21, x22, ()), ()) = some R := loopW (Eq.trans (b := nl_s_l1Look_0 CC LL x00 x03 x10 x20 x21 x22) (by kernel_rfl) h)
end Go.Proofs.Ytmjjaoffeajcbaa.Abs
