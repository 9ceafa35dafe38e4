/- What the functions come to in the abstract machine. -/
import Derived.Test.YtegbnddjgifcdaaDoorT1Ann
import Derived.KernelRfl
set_option linter.unusedVariables false
set_option maxRecDepth 100000
namespace Go.Proofs.YtegbnddjgifcdaaDoor.Abs
open Go Go.Proofs Go.IntKind
noncomputable def nf_s_DrawTyText (C : CallT) (L : LoopT) (a : List CVal) : Option Ret :=
 (C f_s_l1New [AVal.v (CVal.sl a)] []).bind fun r =>
 r.1.asFp.bind fun y =>
 br (decide (y.2 = 0) && CVal.isAggN 3 y.1)
 ((y.1.cell 0).bind fun c =>
 (y.1.cell 1).bind fun c_1 =>
 (y.1.cell 2).bind fun c_2 =>
 (C f_s_l1Any [AVal.lptr 0 0] [PB.box [AVal.v c, AVal.v c_1, AVal.v c_2]]).bind fun r =>
 r.2[0]?.bind fun y =>
 y[0]?.bind fun y_1 =>
 y[1]?.bind fun y_2 =>
 y[2]?.bind fun y =>
 br (CVal.isAggN 3 r.1)
 ((r.1.cell 0).bind fun c =>
 (r.1.cell 1).bind fun c_3 =>
 (r.1.cell 2).bind fun c_4 => some (CVal.agg [c, c_3, c_4], []))
 none)
 none
theorem go_s_DrawTyText (a : List CVal) (R : Ret) (h : nf_s_DrawTyText CC LL a = some R) : CC f_s_DrawTyText [AVal.v (CVal.sl a)] [] = some R := fnW (by decide) rfl (Eq.trans (b := nf_s_DrawTyText CC LL a) (by kernel_rfl) h)
noncomputable def nf_i_TyOk (C : CallT) (L : LoopT) (a0 : Int) (a1 : Int) (a2 : List CVal) : Option Ret :=
 (C f_i_measure [AVal.v (CVal.agg [CVal.int i64 a0, CVal.int i64 a1, CVal.sl a2])] []).bind fun r =>
 r.1.asTup.bind fun y =>
 y[0]?.bind fun y =>
 r.1.asTup.bind fun y_1 =>
 y_1[1]?.bind fun y_2 =>
 r.1.asTup.bind fun y_3 =>
 y_3[2]?.bind fun y_4 =>
 (y_4.asBool.bind fun b =>
 br b
 ((CVal.asInt i64 y).bind fun n =>
 br (decide (n ≤ 6))
 ((CVal.asInt i64 y_2).bind fun n => some (decide (n ≤ 60), ()))
 (some (false, ())))
 (some (false, ()))).bind
 fun y => some (CVal.bool y.1, [])
theorem go_i_TyOk (a0 : Int) (a1 : Int) (a2 : List CVal) (R : Ret) (h : nf_i_TyOk CC LL a0 a1 a2 = some R) : CC f_i_TyOk [AVal.v (CVal.agg [CVal.int i64 a0, CVal.int i64 a1, CVal.sl a2])] [] = some R := fnW (by decide) rfl (Eq.trans (b := nf_i_TyOk CC LL a0 a1 a2) (by kernel_rfl) h)
noncomputable def nf_i_Ground (C : CallT) (L : LoopT) (a0 : Int) (a1 : Int) (a2 : List CVal) : Option Ret :=
 ((C f_i_TyOk [AVal.v (CVal.agg [CVal.int i64 a0, CVal.int i64 a1, CVal.sl a2])] []).bind fun r =>
 r.1.asBool.bind fun b =>
 br b
 ((C f_i_anyTy
 [AVal.v (CVal.agg [CVal.int i64 a0, CVal.int i64 a1, CVal.sl a2]),
 AVal.v (CVal.func f_i_Ground_1 [])]
 []).bind
 fun r => r.1.asBool.bind fun b => some (!b, ()))
 (some (false, ()))).bind
 fun y => some (CVal.bool y.1, [])
theorem go_i_Ground (a0 : Int) (a1 : Int) (a2 : List CVal) (R : Ret) (h : nf_i_Ground CC LL a0 a1 a2 = some R) : CC f_i_Ground [AVal.v (CVal.agg [CVal.int i64 a0, CVal.int i64 a1, CVal.sl a2])] [] = some R := fnW (by decide) rfl (Eq.trans (b := nf_i_Ground CC LL a0 a1 a2) (by kernel_rfl) h)
noncomputable def nf_i_measure (C : CallT) (L : LoopT) (a0 : Int) (a1 : Int) (a2 : List CVal) : Option Ret :=
 ((C f_i_tyParts [AVal.v (CVal.int i64 a0)] []).bind fun r =>
 (CVal.asInt i64 r.1).bind fun n =>
 br (!decide ((↑a2.length : Int) = n)) (some (true, ()))
 (br (!decide (a1 = 0))
 (br (!decide (a0 = 3)) (some (true, ())) (some (!decide (a1 = 1), ())))
 (some (false, ())))).bind
 fun y =>
 br y.1 (some (CVal.tup [CVal.int i64 0, CVal.int i64 0, CVal.bool false], []))
 ((L f_i_measure 0 lc_i_measure_0 [] k_i_measure_0
 ((0, 1, a2, (↑a2.length : Int), 0, ()), ())).bind
 fun r =>
 loK r (fun r => some r) fun j p =>
 br (j == 0)
 (some
 (CVal.tup
 [CVal.int i64 (i64.wrap (p.fst.1 + 1)), CVal.int i64 p.fst.snd.1,
 CVal.bool true],
 []))
 none)
theorem go_i_measure (a0 : Int) (a1 : Int) (a2 : List CVal) (R : Ret) (h : nf_i_measure CC LL a0 a1 a2 = some R) : CC f_i_measure [AVal.v (CVal.agg [CVal.int i64 a0, CVal.int i64 a1, CVal.sl a2])] [] = some R := fnW (by decide) rfl (Eq.trans (b := nf_i_measure CC LL a0 a1 a2) (by kernel_rfl) h)
noncomputable def nf_i_varsOf (C : CallT) (L : LoopT) (a0 : Int) (a1 : Int) (a2 : List CVal) : Option Ret :=
 br (decide (a0 = 3))
 ((L f_i_varsOf 0 lc_i_varsOf_0 [] k_i_varsOf_0
 ((i64.wrap (a1 + 1), a2, (↑a2.length : Int), 0, ()), ())).bind
 fun r => loK r (fun r => some r) fun j p => br (j == 0) (some (CVal.int i64 p.fst.1, [])) none)
 ((L f_i_varsOf 0 lc_i_varsOf_0 [] k_i_varsOf_0
 ((0, a2, (↑a2.length : Int), 0, ()), ())).bind
 fun r => loK r (fun r => some r) fun j p => br (j == 0) (some (CVal.int i64 p.fst.1, [])) none)
theorem go_i_varsOf (a0 : Int) (a1 : Int) (a2 : List CVal) (R : Ret) (h : nf_i_varsOf CC LL a0 a1 a2 = some R) : CC f_i_varsOf [AVal.v (CVal.agg [CVal.int i64 a0, CVal.int i64 a1, CVal.sl a2])] [] = some R := fnW (by decide) rfl (Eq.trans (b := nf_i_varsOf CC LL a0 a1 a2) (by kernel_rfl) h)
noncomputable def nf_s_l1Once (C : CallT) (L : LoopT) (a0 : List CVal) (a1 : Int) (a2 : Int) (b : Int) : Option Ret :=
 (C f_s_l1Below [AVal.lptr 0 0, AVal.v (CVal.int i64 b)]
 [PB.box [AVal.v (CVal.sl a0), AVal.v (CVal.int i64 a1), AVal.v (CVal.int i64 a2)]]).bind
 fun r =>
 r.2[0]?.bind fun y =>
 y[0]?.bind fun y_1 =>
 y[1]?.bind fun y_2 =>
 y[2]?.bind fun y =>
 (CVal.asInt i64 r.1).bind fun n => some (CVal.bool (decide (n = 0)), [[y_1, y_2, y]])
theorem go_s_l1Once (a0 : List CVal) (a1 : Int) (a2 : Int) (b : Int) (R : Ret) (h : nf_s_l1Once CC LL a0 a1 a2 b = some R) : CC f_s_l1Once [AVal.lptr 0 0, AVal.v (CVal.int i64 b)] [PB.box [AVal.v (CVal.sl a0), AVal.v (CVal.int i64 a1), AVal.v (CVal.int i64 a2)]] = some R := fnW (by decide) rfl (Eq.trans (b := nf_s_l1Once CC LL a0 a1 a2 b) (by kernel_rfl) h)
noncomputable def nf_s_l1In (C : CallT) (L : LoopT) (a : Int) (b : Int) (c : Int) : Option Ret :=
 (br (decide (b ≤ a)) (some (decide (a ≤ c), ())) (some (false, ()))).bind fun y =>
 some (CVal.bool y.1, [])
theorem go_s_l1In (a : Int) (b : Int) (c : Int) (R : Ret) (h : nf_s_l1In CC LL a b c = some R) : CC f_s_l1In [AVal.v (CVal.int i64 a), AVal.v (CVal.int i64 b), AVal.v (CVal.int i64 c)] [] = some R := fnW (by decide) rfl (Eq.trans (b := nf_s_l1In CC LL a b c) (by kernel_rfl) h)
noncomputable def nf_i_anyTy_1 (C : CallT) (L : LoopT) (a0 : Int) (a1 : Int) (a2 : List CVal) (b : CVal) : Option Ret :=
 (b.cell 0).bind fun c =>
 (C f_i_anyTy [AVal.v (CVal.agg [CVal.int i64 a0, CVal.int i64 a1, CVal.sl a2]), AVal.v c] []).bind
 fun r => some (r.1, [])
theorem go_i_anyTy_1 (a0 : Int) (a1 : Int) (a2 : List CVal) (b : CVal) (R : Ret) (h : nf_i_anyTy_1 CC LL a0 a1 a2 b = some R) : CC f_i_anyTy_1 [AVal.v (CVal.agg [CVal.int i64 a0, CVal.int i64 a1, CVal.sl a2]), AVal.v (b.fp 0)] [] = some R := fnW (by decide) rfl (Eq.trans (b := nf_i_anyTy_1 CC LL a0 a1 a2 b) (by kernel_rfl) h)
noncomputable def nf_slices_IndexFunc_Ty (C : CallT) (L : LoopT) (a : List CVal) (b : CVal) : Option Ret :=
 (L f_slices_IndexFunc_Ty 0 lc_slices_IndexFunc_Ty_0 [] k_slices_IndexFunc_Ty_0
 ((a, b, (↑a.length : Int), 0, ()), ())).bind
 fun r => loK r (fun r => some r) fun j p => br (j == 0) (some (CVal.int i64 (-1 : Int), [])) none
theorem go_slices_IndexFunc_Ty (a : List CVal) (b : CVal) (R : Ret) (h : nf_slices_IndexFunc_Ty CC LL a b = some R) : CC f_slices_IndexFunc_Ty [AVal.v (CVal.sl a), AVal.v b] [] = some R := fnW (by decide) rfl (Eq.trans (b := nf_slices_IndexFunc_Ty CC LL a b) (by kernel_rfl) h)
noncomputable def nl_i_measure_0 (C : CallT) (L : LoopT) (x00 : Int) (x01 : Int) (x02 : List CVal) (x03 : Int) (x04 : Int) : Option (LO k_i_measure_0.T) :=
 br (decide (x04 < x03))
 (br (decide (0 ≤ x04) && true)
 (x02[x04.toNat]?.bind fun y =>
 br (CVal.fits true 3 y)
 ((y.sub 0 3).bind fun y =>
 br (CVal.isAggN 3 y)
 ((y.cell 0).bind fun c =>
 (y.cell 1).bind fun c_1 =>
 (y.cell 2).bind fun c_2 =>
 (C f_i_measure [AVal.v (CVal.agg [c, c_1, c_2])] []).bind fun r =>
 r.1.asTup.bind fun y =>
 y[0]?.bind fun y =>
 r.1.asTup.bind fun y_1 =>
 y_1[1]?.bind fun y_2 =>
 r.1.asTup.bind fun y_3 =>
 y_3[2]?.bind fun y_4 =>
 y_4.asBool.bind fun b =>
 br (!b)
 (some
 (LO.ret
 (CVal.tup
 [CVal.int i64 0, CVal.int i64 0,
 CVal.bool false],
 [])))
 ((CVal.asInt i64 y).bind fun n =>
 (CVal.asInt i64 y_2).bind fun n_1 =>
 L f_i_measure 0 lc_i_measure_0 [] k_i_measure_0
 ((bif decide (x00 < n) then n else x00, i64.wrap (x01 + n_1), x02,
 x03, i64.wrap (x04 + 1), ()),
 ())))
 none)
 none)
 none)
 (some (LO.out 0 ((x00, x01, x02, x03, x04, ()), ())))
theorem gl_i_measure_0 (x00 : Int) (x01 : Int) (x02 : List CVal) (x03 : Int) (x04 : Int) (R : LO k_i_measure_0.T) (h : nl_i_measure_0 CC LL x00 x01 x02 x03 x04 = some R) : LL f_i_measure 0 lc_i_measure_0 [] k_i_measure_0 ((x00, x01, x02, x03, x04, ()), ()) = some R := loopW (Eq.trans (b := nl_i_measure_0 CC LL x00 x01 x02 x03 x04) (by kernel_rfl) h)
noncomputable def nl_i_varsOf_0 (C : CallT) (L : LoopT) (x00 : Int) (x01 : List CVal) (x02 : Int) (x03 : Int) : Option (LO k_i_varsOf_0.T) :=
 br (decide (x03 < x02))
 (br (decide (0 ≤ x03) && true)
 (x01[x03.toNat]?.bind fun y =>
 br (CVal.fits true 3 y)
 ((y.sub 0 3).bind fun y =>
 br (CVal.isAggN 3 y)
 ((y.cell 0).bind fun c =>
 (y.cell 1).bind fun c_1 =>
 (y.cell 2).bind fun c_2 =>
 (C f_i_varsOf [AVal.v (CVal.agg [c, c_1, c_2])] []).bind fun r =>
 (CVal.asInt i64 r.1).bind fun n =>
 L f_i_varsOf 0 lc_i_varsOf_0 [] k_i_varsOf_0
 ((bif decide (x00 < n) then n else x00, x01, x02, i64.wrap (x03 + 1),
 ()),
 ()))
 none)
 none)
 none)
 (some (LO.out 0 ((x00, x01, x02, x03, ()), ())))
theorem gl_i_varsOf_0 (x00 : Int) (x01 : List CVal) (x02 : Int) (x03 : Int) (R : LO k_i_varsOf_0.T) (h : nl_i_varsOf_0 CC LL x00 x01 x02 x03 = some R) : LL f_i_varsOf 0 lc_i_varsOf_0 [] k_i_varsOf_0 ((x00, x01, x02, x03, ()), ()) = some R := loopW (Eq.trans (b := nl_i_varsOf_0 CC LL x00 x01 x02 x03) (by kernel_rfl) h)
noncomputable def nl_s_l1Copy_0 (C : CallT) (L : LoopT) (x03 : Int) (x10 : Int) (x11 : Int) (x12 : List CVal) (x20 : Int) (x21 : Int) (x3 : List CVal) (x40 : Int) (x41 : Int) (x5 : List CVal) : Option (LO k_s_l1Copy_0.T) :=
 br (decide (x03 < (↑x12.length : Int)))
 (br (decide (0 ≤ x03) && true)
 (x12[x03.toNat]?.bind fun y =>
 br (CVal.fits true 3 y)
 ((y.sub 0 3).bind fun y =>
 (C f_s_l1Copy [AVal.v y] []).bind fun r =>
 br (CVal.isAggN 3 r.1)
 ((r.1.cell 0).bind fun c =>
 (r.1.cell 1).bind fun c_1 =>
 (r.1.cell 2).bind fun c_2 =>
 c_2.asSl.bind fun xs =>
 br (decide (x5.length + 1 ≤ 4294967296) && true && true)
 (L f_s_l1Copy 0 lc_s_l1Copy_0 [] k_s_l1Copy_0
 (((), (), (), i64.wrap (x03 + 1), ()),
 (x10, x11, x12, ()), (x20, x21, (), ()), x3,
 (x40, x41, (), ()), x5 ++ [CVal.agg [c, c_1, CVal.sl xs]], ()))
 none)
 none)
 none)
 none)
 (some
 (LO.out 0
 (((), (), (), x03, ()), (x10, x11, x12, ()),
 (x20, x21, (), ()), x3, (x40, x41, (), ()), x5, ())))
theorem gl_s_l1Copy_0 (x03 : Int) (x10 : Int) (x11 : Int) (x12 : List CVal) (x20 : Int) (x21 : Int) (x3 : List CVal) (x40 : Int) (x41 : Int) (x5 : List CVal) (R : LO k_s_l1Copy_0.T) (h : nl_s_l1Copy_0 CC LL x03 x10 x11 x12 x20 x21 x3 x40 x41 x5 = some R) : LL f_s_l1Copy 0 lc_s_l1Copy_0 [] k_s_l1Copy_0 (((), (), (), x03, ()), (x10, x11, x12, ()), (x20, x21, (), ()), x3, (x40, x41, (), ()), x5, ()) = some R := loopW (Eq.trans (b := nl_s_l1Copy_0 CC LL x03 x10 x11 x12 x20 x21 x3 x40 x41 x5) (by kernel_rfl) h)
end Go.Proofs.YtegbnddjgifcdaaDoor.Abs
