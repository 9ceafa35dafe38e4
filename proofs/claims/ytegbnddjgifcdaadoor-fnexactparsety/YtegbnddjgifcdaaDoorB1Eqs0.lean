/- What the functions come to in the abstract machine. -/
import Derived.Test.YtegbnddjgifcdaaDoorB1Ann
import Derived.KernelRfl
set_option linter.unusedVariables false
set_option maxRecDepth 100000
namespace Go.Proofs.YtegbnddjgifcdaaDoor.Abs
open Go Go.Proofs Go.IntKind
noncomputable def nf_l_FnExactParseTy (C : CallT) (L : LoopT) (a : List UInt8) : Option Ret :=
 br (decide (1048576 < (↑a.length : Int))) (some (CVal.bool true, []))
 ((C f_s_ParseTy [AVal.v (CVal.str a)] []).bind fun r =>
 r.1.asTup.bind fun y =>
 y[0]?.bind fun y =>
 r.1.asTup.bind fun y_1 =>
 y_1[1]?.bind fun y_2 =>
 br (CVal.isAggN 3 y)
 ((y.cell 0).bind fun c =>
 (y.cell 1).bind fun c_1 =>
 (y.cell 2).bind fun c_2 =>
 (C f_i_ParseTy [AVal.v (CVal.str a)] []).bind fun r =>
 r.1.asTup.bind fun y =>
 y[0]?.bind fun y_3 =>
 y[1]?.bind fun y =>
 br (CVal.isAggN 3 y_3)
 ((y_3.cell 0).bind fun c_3 =>
 (y_3.cell 1).bind fun c_4 =>
 (y_3.cell 2).bind fun c_5 =>
 c_5.asSl.bind fun xs =>
 br y.isFlat
 (((C f_l_eqTy
 [AVal.v (CVal.agg [c_3, c_4, CVal.sl xs]),
 AVal.v (CVal.agg [c, c_1, c_2])]
 []).bind
 fun r =>
 br (!scalar r.1) none
 (r.1.asBool.bind fun b =>
 br (!b) (some (true, ()))
 (y.asBool.bind fun b =>
 y_2.asBool.bind fun b_1 => some (!b == b_1, ())))).bind
 fun y =>
 br y.1 (some (CVal.bool false, []))
 ((C f_l_markTy
 [AVal.agg [AVal.v c_3, AVal.v c_4, AVal.lref 0 0],
 AVal.v (CVal.int i64 1)]
 [PB.arr (Md.mk true true 0) false 3 xs]).bind
 fun r =>
 r.2[0]?.bind fun y =>
 (C f_l_heldTy
 [AVal.v (CVal.agg [c_3, c_4, CVal.sl y]),
 AVal.v (CVal.int i64 1)]
 []).bind
 fun r_1 =>
 br (!scalar r_1.1) none
 ((CVal.asInt i64 r_1.1).bind fun n =>
 br (decide (n < 0)) (some (CVal.bool false, []))
 ((CVal.asInt i64 r_1.1).bind fun n =>
 (CVal.asInt i64 r.1).bind fun n_1 =>
 br (!decide (n = n_1)) (some (CVal.bool false, []))
 ((C f_i_ParseTy [AVal.v (CVal.str a)] []).bind fun r_2 =>
 r_2.1.asTup.bind fun y_4 =>
 y_4[0]?.bind fun y_5 =>
 y_4[1]?.bind fun y_6 =>
 br (CVal.isAggN 3 y_5)
 ((y_5.cell 0).bind fun c_6 =>
 (y_5.cell 1).bind fun c_7 =>
 (y_5.cell 2).bind fun c_8 =>
 c_8.asSl.bind fun xs =>
 br y_6.isFlat
 (((C f_l_eqTy
 [AVal.v
 (CVal.agg
 [c_6, c_7,
 CVal.sl xs]),
 AVal.v
 (CVal.agg
 [c, c_1, c_2])]
 []).bind
 fun r =>
 br (!scalar r.1) none
 (r.1.asBool.bind fun b =>
 br (!b)
 (some (true, ()))
 (y_6.asBool.bind fun b =>
 y_2.asBool.bind
 fun b_1 =>
 some
 (!b == b_1,
 ())))).bind
 fun y_7 =>
 br y_7.1
 (some (CVal.bool false, []))
 ((C f_l_heldTy
 [AVal.v
 (CVal.agg
 [c_3, c_4,
 CVal.sl y]),
 AVal.v
 (CVal.int i64
 1)]
 []).bind
 fun r_3 =>
 br (!scalar r_3.1) none
 ((CVal.asInt i64
 r_3.1).bind
 fun n =>
 br (decide (n < 0))
 (some
 (CVal.bool false, []))
 ((CVal.asInt i64
 r_3.1).bind
 fun n =>
 (CVal.asInt i64
 r.1).bind
 fun n_2 =>
 br (!decide (n = n_2))
 (some
 (CVal.bool false,
 []))
 (some
 (CVal.bool true,
 []))))))
 none)
 none)))))
 none)
 none)
 none)
theorem go_l_FnExactParseTy (a : List UInt8) (R : Ret) (h : nf_l_FnExactParseTy CC LL a = some R) : CC f_l_FnExactParseTy [AVal.v (CVal.str a)] [] = some R := fnW (by decide) rfl (Eq.trans (b := nf_l_FnExactParseTy CC LL a) (by kernel_rfl) h)
noncomputable def nf_l_markTy (C : CallT) (L : LoopT) (a0 : Int) (a1 : Int) (a2 : List CVal) (b : Int) : Option Ret :=
 (C f_l_markTyS [AVal.lref 0 0, AVal.v (CVal.int i64 b)]
 [PB.arr (Md.mk true true 0) false 3 a2]).bind
 fun r => r.2[0]?.bind fun y => some (r.1, [y])
theorem go_l_markTy (a0 : Int) (a1 : Int) (a2 : List CVal) (b : Int) (R : Ret) (h : nf_l_markTy CC LL a0 a1 a2 b = some R) : CC f_l_markTy [AVal.agg [AVal.v (CVal.int i64 a0), AVal.v (CVal.int i64 a1), AVal.lref 0 0],
 AVal.v (CVal.int i64 b)] [PB.arr (Md.mk true true 0) false 3 a2] = some R := fnW (by decide) rfl (Eq.trans (b := nf_l_markTy CC LL a0 a1 a2 b) (by kernel_rfl) h)
noncomputable def nf_s_TyOk (C : CallT) (L : LoopT) (a0 : Int) (a1 : Int) (a2 : List CVal) : Option Ret :=
 (C f_s_l1Look
 [AVal.v (CVal.agg [CVal.int i64 a0, CVal.int i64 a1, CVal.sl a2]),
 AVal.v (CVal.int i64 6), AVal.lptr 0 0]
 [PB.box [AVal.v (CVal.int i64 0)]]).bind
 fun r => r.2[0]?.bind fun y => y[0]?.bind fun y => some (r.1, [])
theorem go_s_TyOk (a0 : Int) (a1 : Int) (a2 : List CVal) (R : Ret) (h : nf_s_TyOk CC LL a0 a1 a2 = some R) : CC f_s_TyOk [AVal.v (CVal.agg [CVal.int i64 a0, CVal.int i64 a1, CVal.sl a2])] [] = some R := fnW (by decide) rfl (Eq.trans (b := nf_s_TyOk CC LL a0 a1 a2) (by kernel_rfl) h)
noncomputable def nf_l_markTyS (C : CallT) (L : LoopT) (a : List CVal) (b : Int) : Option Ret :=
 (L f_l_markTyS 0 lc_l_markTyS_0 [PSh.arr (Md.mk true true 0) false 3] k_l_markTyS_0
 (((), b, 0, ()), a, ())).bind
 fun r =>
 loK r (fun r => some r) fun j p => br (j == 0) (some (CVal.int i64 p.fst.snd.1, [p.snd.1])) none
theorem go_l_markTyS (a : List CVal) (b : Int) (R : Ret) (h : nf_l_markTyS CC LL a b = some R) : CC f_l_markTyS [AVal.lref 0 0, AVal.v (CVal.int i64 b)] [PB.arr (Md.mk true true 0) false 3 a] = some R := fnW (by decide) rfl (Eq.trans (b := nf_l_markTyS CC LL a b) (by kernel_rfl) h)
noncomputable def nf_s_l1Look (C : CallT) (L : LoopT) (a0 : Int) (a1 : Int) (a2 : List CVal) (b : Int) (c : Int) : Option Ret :=
 (br (decide (b = 0)) (some (true, ()))
 (br (decide (60 < i64.wrap (c + 1))) (some (true, ()))
 ((C f_s_l1Args [AVal.v (CVal.int i64 a0)] []).bind fun r =>
 (CVal.asInt i64 r.1).bind fun n =>
 br (!decide ((↑a2.length : Int) = n)) (some (true, ()))
 (br (decide (a0 = 3))
 ((C f_s_l1In
 [AVal.v (CVal.int i64 a1), AVal.v (CVal.int i64 0),
 AVal.v (CVal.int i64 1)]
 []).bind
 fun r =>
 r.1.asBool.bind fun b =>
 br (!b) (some (true, ()))
 (br (!decide (a0 = 3)) (some (!decide (a1 = 0), ()))
 (some (false, ()))))
 (br (!decide (a0 = 3)) (some (!decide (a1 = 0), ()))
 (some (false, ()))))))).bind
 fun y =>
 br y.1 (some (CVal.bool false, [[CVal.int i64 (i64.wrap (c + 1))]]))
 ((L f_s_l1Look 0 lc_s_l1Look_0 [PSh.box [none]] k_s_l1Look_0
 ((b, (), (), 0, ()), (i64.wrap (c + 1), ()),
 (a0, a1, a2, ()), ())).bind
 fun r =>
 loK r (fun r => some r) fun j p =>
 br (j == 0) (some (CVal.bool true, [[CVal.int i64 p.snd.fst.1]])) none)
theorem go_s_l1Look (a0 : Int) (a1 : Int) (a2 : List CVal) (b : Int) (c : Int) (R : Ret) (h : nf_s_l1Look CC LL a0 a1 a2 b c = some R) : CC f_s_l1Look [AVal.v (CVal.agg [CVal.int i64 a0, CVal.int i64 a1, CVal.sl a2]), AVal.v (CVal.int i64 b),
 AVal.lptr 0 0] [PB.box [AVal.v (CVal.int i64 c)]] = some R := fnW (by decide) rfl (Eq.trans (b := nf_s_l1Look CC LL a0 a1 a2 b c) (by kernel_rfl) h)
noncomputable def nf_i_measure (C : CallT) (L : LoopT) (a0 : Int) (a1 : Int) (a2 : List CVal) : Option Ret :=
 ((C f_i_tyParts [AVal.v (CVal.int i64 a0)] []).bind fun r =>
 (CVal.asInt i64 r.1).bind fun n =>
 br (!decide ((↑a2.length : Int) = n)) (some (true, ()))
 (br (!decide (a1 = 0))
 (br (!decide (a0 = 3)) (some (true, ())) (some (!decide (a1 = 1), ())))
 (some (false, ())))).bind
 fun y =>
 br y.1 (some (CVal.tup [CVal.int i64 0, CVal.int i64 0, CVal.bool false], []))
 ((L f_i_measure 0 lc_i_measure_0 [] k_i_measure_0
 ((0, 1, a2, (↑a2.length : Int), 0, ()), ())).bind
 fun r =>
 loK r (fun r => some r) fun j p =>
 br (j == 0)
 (some
 (CVal.tup
 [CVal.int i64 (i64.wrap (p.fst.1 + 1)), CVal.int i64 p.fst.snd.1,
 CVal.bool true],
 []))
 none)
theorem go_i_measure (a0 : Int) (a1 : Int) (a2 : List CVal) (R : Ret) (h : nf_i_measure CC LL a0 a1 a2 = some R) : CC f_i_measure [AVal.v (CVal.agg [CVal.int i64 a0, CVal.int i64 a1, CVal.sl a2])] [] = some R := fnW (by decide) rfl (Eq.trans (b := nf_i_measure CC LL a0 a1 a2) (by kernel_rfl) h)
noncomputable def nl_i_tokens_ty_0 (C : CallT) (L : LoopT) (x01 : Int) (x04 : Int) (x05 : Int) (x10 : List CVal) (x11 : Bool) (x20 : Int) (x21 : Int) (x3 : List CVal) (x40 : Int) (x41 : Int) (x5 : List CVal) : Option (LO k_i_tokens_ty_0.T) :=
 br (decide (x05 < x04))
 ((C f_i_tokens_ty [AVal.lptr 0 0, AVal.v (CVal.int i64 (i64.wrap (x01 - 1)))]
 [PB.box [AVal.v (CVal.sl x10), AVal.v (CVal.bool x11)]]).bind
 fun r =>
 r.2[0]?.bind fun y =>
 y[0]?.bind fun y_1 =>
 y[1]?.bind fun y =>
 br (CVal.isAggN 3 r.1)
 ((r.1.cell 0).bind fun c =>
 (r.1.cell 1).bind fun c_1 =>
 (r.1.cell 2).bind fun c_2 =>
 c_2.asSl.bind fun xs =>
 (CVal.asInt i64 c).bind fun n =>
 (CVal.asInt i64 c_1).bind fun n_1 =>
 br (decide (x5.length + 1 ≤ 4294967296) && true && true)
 (y_1.asSl.bind fun xs_1 =>
 y.asBool.bind fun b =>
 L f_i_tokens_ty 0 lc_i_tokens_ty_0 [PSh.box [none, none]] k_i_tokens_ty_0
 (((), x01, (), (), x04, i64.wrap (x05 + 1),
 ()),
 (xs_1, b, ()), (x20, x21, (), ()), x3,
 (x40, x41, (), ()),
 x5 ++ [CVal.agg [CVal.int i64 n, CVal.int i64 n_1, CVal.sl xs]],
 ()))
 none)
 none)
 (some
 (LO.out 0
 (((), x01, (), (), x04, x05, ()), (x10, x11, ()),
 (x20, x21, (), ()), x3, (x40, x41, (), ()), x5, ())))
theorem gl_i_tokens_ty_0 (x01 : Int) (x04 : Int) (x05 : Int) (x10 : List CVal) (x11 : Bool) (x20 : Int) (x21 : Int) (x3 : List CVal) (x40 : Int) (x41 : Int) (x5 : List CVal) (R : LO k_i_tokens_ty_0.T) (h : nl_i_tokens_ty_0 CC LL x01 x04 x05 x10 x11 x20 x21 x3 x40 x41 x5 = some R) : LL f_i_tokens_ty 0 lc_i_tokens_ty_0 [PSh.box [none, none]] k_i_tokens_ty_0 (((), x01, (), (), x04, x05, ()), (x10, x11, ()), (x20, x21, (), ()), x3, (x40, x41, (), ()), x5, ()) = some R := loopW (Eq.trans (b := nl_i_tokens_ty_0 CC LL x01 x04 x05 x10 x11 x20 x21 x3 x40 x41 x5) (by kernel_rfl) h)
noncomputable def nl_s_l1Look_0 (C : CallT) (L : LoopT) (x00 : Int) (x03 : Int) (x10 : Int) (x20 : Int) (x21 : Int) (x22 : List CVal) : Option (LO k_s_l1Look_0.T) :=
 br (decide (x03 < (↑x22.length : Int)))
 (br (decide (0 ≤ x03) && true)
 (x22[x03.toNat]?.bind fun y =>
 br (CVal.fits true 3 y)
 ((y.sub 0 3).bind fun y =>
 (C f_s_l1Look
 [AVal.v y, AVal.v (CVal.int i64 (i64.wrap (x00 - 1))),
 AVal.lptr 0 0]
 [PB.box [AVal.v (CVal.int i64 x10)]]).bind
 fun r =>
 r.2[0]?.bind fun y =>
 y[0]?.bind fun y =>
 r.1.asBool.bind fun b =>
 br (!b) (some (LO.ret (CVal.bool false, [[y]])))
 ((CVal.asInt i64 y).bind fun n =>
 L f_s_l1Look 0 lc_s_l1Look_0 [PSh.box [none]] k_s_l1Look_0
 ((x00, (), (), i64.wrap (x03 + 1), ()), (n, ()),
 (x20, x21, x22, ()), ())))
 none)
 none)
 (some
 (LO.out 0
 ((x00, (), (), x03, ()), (x10, ()), (x20, x21, x22, ()), ())))
theorem gl_s_l1Look_0 (x00 : Int) (x03 : Int) (x10 : Int) (x20 : Int) (x21 : Int) (x22 : List CVal) (R : LO k_s_l1Look_0.T) (h : nl_s_l1Look_0 CC LL x00 x03 x10 x20 x21 x22 = some R) : LL f_s_l1Look 0 lc_s_l1Look_0 [PSh.box [none]] k_s_l1Look_0 ((x00, (), (), x03, ()), (x10, ()), (x20, x21, x22, ()), ()) = some R := loopW (Eq.trans (b := nl_s_l1Look_0 CC LL x00 x03 x10 x20 x21 x22) (by kernel_rfl) h)
end Go.Proofs.YtegbnddjgifcdaaDoor.Abs
