/- What the functions come to in the abstract machine. -/
import Derived.Test.YtegbnddjgifcdaaDoorT1Ann
import Derived.KernelRfl
set_option linter.unusedVariables false
set_option maxRecDepth 100000
namespace Go.Proofs.YtegbnddjgifcdaaDoor.Abs
open Go Go.Proofs Go.IntKind
noncomputable def nf_l_FnTypes (C : CallT) (L : LoopT) (a : List CVal) : Option Ret :=
 (C f_l_big [AVal.v (CVal.sl a)] []).bind fun r =>
 r.1.asBool.bind fun b =>
 br b (some (CVal.bool true, []))
 ((C f_s_DrawTyText [AVal.v (CVal.sl a)] []).bind fun r =>
 br (CVal.isAggN 3 r.1)
 ((r.1.cell 0).bind fun c =>
 (r.1.cell 1).bind fun c_1 =>
 (r.1.cell 2).bind fun c_2 =>
 (C f_i_TyText [AVal.v (CVal.agg [c, c_1, c_2])] []).bind fun r =>
 (C f_i_TyNodes [AVal.v (CVal.agg [c, c_1, c_2])] []).bind fun r_1 =>
 (C f_s_TyOk [AVal.v (CVal.agg [c, c_1, c_2])] []).bind fun r_2 =>
 r_2.1.asBool.bind fun b =>
 br (!b)
 ((r.1.asStr.bind fun s =>
 br (decide (s = []))
 ((CVal.asInt i64 r_1.1).bind fun n =>
 br (decide (n = 0))
 ((C f_i_TyOk [AVal.v (CVal.agg [c, c_1, c_2])] []).bind fun r =>
 r.1.asBool.bind fun b => some (!b, ()))
 (some (false, ())))
 (some (false, ()))).bind
 fun y => some (CVal.bool y.1, []))
 ((C f_i_ParseTy [AVal.v r.1] []).bind fun r =>
 r.1.asTup.bind fun y =>
 y[0]?.bind fun y =>
 r.1.asTup.bind fun y_1 =>
 y_1[1]?.bind fun y_2 =>
 br (CVal.isAggN 3 y)
 ((y.cell 0).bind fun c_3 =>
 (y.cell 1).bind fun c_4 =>
 (y.cell 2).bind fun c_5 =>
 (y_2.asBool.bind fun b =>
 br b
 ((C f_i_SameTy
 [AVal.v (CVal.agg [c_3, c_4, c_5]),
 AVal.v (CVal.agg [c, c_1, c_2])]
 []).bind
 fun r =>
 (bif true then r.1 else CVal.bool false).asBool.bind fun b =>
 br b
 ((C f_i_SameTy
 [AVal.v (CVal.agg [c, c_1, c_2]),
 AVal.v (CVal.agg [c_3, c_4, c_5])]
 []).bind
 fun r =>
 (bif true then r.1 else CVal.bool false).asBool.bind
 fun b =>
 br b
 ((CVal.asInt i64 r_1.1).bind fun n =>
 br (decide (0 < n))
 ((CVal.asInt i64 r_1.1).bind fun n =>
 br (decide (n ≤ 60))
 ((C f_i_VarsOf [AVal.v (CVal.agg [c, c_1, c_2])]
 []).bind
 fun r =>
 (CVal.asInt i64 r.1).bind fun n =>
 (C f_i_Ground
 [AVal.v (CVal.agg [c, c_1, c_2])]
 []).bind
 fun r =>
 r.1.asBool.bind fun b =>
 some
 (decide (n = 0) == b,
 ()))
 (some (false, ())))
 (some (false, ())))
 (some (false, ())))
 (some (false, ())))
 (some (false, ()))).bind
 fun y => some (CVal.bool y.1, []))
 none))
 none)
theorem go_l_FnTypes (a : List CVal) (R : Ret) (h : nf_l_FnTypes CC LL a = some R) : CC f_l_FnTypes [AVal.v (CVal.sl a)] [] = some R := fnW (by decide) rfl (Eq.trans (b := nf_l_FnTypes CC LL a) (by kernel_rfl) h)
noncomputable def nf_i_TyNodes (C : CallT) (L : LoopT) (a0 : Int) (a1 : Int) (a2 : List CVal) : Option Ret :=
 (C f_i_TyOk [AVal.v (CVal.agg [CVal.int i64 a0, CVal.int i64 a1, CVal.sl a2])] []).bind fun r =>
 r.1.asBool.bind fun b =>
 br (!b) (some (CVal.int i64 0, []))
 ((C f_i_measure [AVal.v (CVal.agg [CVal.int i64 a0, CVal.int i64 a1, CVal.sl a2])] []).bind
 fun r =>
 r.1.asTup.bind fun y =>
 y[0]?.bind fun y =>
 r.1.asTup.bind fun y =>
 y[1]?.bind fun y => r.1.asTup.bind fun y_1 => y_1[2]?.bind fun y_2 => some (y, []))
theorem go_i_TyNodes (a0 : Int) (a1 : Int) (a2 : List CVal) (R : Ret) (h : nf_i_TyNodes CC LL a0 a1 a2 = some R) : CC f_i_TyNodes [AVal.v (CVal.agg [CVal.int i64 a0, CVal.int i64 a1, CVal.sl a2])] [] = some R := fnW (by decide) rfl (Eq.trans (b := nf_i_TyNodes CC LL a0 a1 a2) (by kernel_rfl) h)
noncomputable def nf_i_SameTy (C : CallT) (L : LoopT) (a0 : Int) (a1 : Int) (a2 : List CVal) (b0 : Int) (b1 : Int) (b2 : List CVal) : Option Ret :=
 (br (decide (a0 = b0))
 (br (decide (a1 = b1))
 ((C f_slices_EqualFunc_Ty [AVal.v (CVal.sl a2), AVal.v (CVal.sl b2), AVal.v (CVal.func f_i_SameTy [])] []).bind
 fun r => (bif true then r.1 else CVal.bool false).asBool.bind fun b => some (b, ()))
 (some (false, ())))
 (some (false, ()))).bind
 fun y => some (CVal.bool y.1, [])
theorem go_i_SameTy (a0 : Int) (a1 : Int) (a2 : List CVal) (b0 : Int) (b1 : Int) (b2 : List CVal) (R : Ret) (h : nf_i_SameTy CC LL a0 a1 a2 b0 b1 b2 = some R) : CC f_i_SameTy [AVal.v (CVal.agg [CVal.int i64 a0, CVal.int i64 a1, CVal.sl a2]),
 AVal.v (CVal.agg [CVal.int i64 b0, CVal.int i64 b1, CVal.sl b2])] [] = some R := fnW (by decide) rfl (Eq.trans (b := nf_i_SameTy CC LL a0 a1 a2 b0 b1 b2) (by kernel_rfl) h)
noncomputable def nf_s_l1Any (C : CallT) (L : LoopT) (a0 : List CVal) (a1 : Int) (a2 : Int) : Option Ret :=
 (C f_s_l1Ty
 [AVal.lptr 0 0, AVal.v (CVal.int i64 4), AVal.v (CVal.int i64 2)]
 [PB.box [AVal.v (CVal.sl a0), AVal.v (CVal.int i64 a1), AVal.v (CVal.int i64 a2)]]).bind
 fun r =>
 r.2[0]?.bind fun y =>
 y[0]?.bind fun y_1 =>
 y[1]?.bind fun y_2 =>
 y[2]?.bind fun y =>
 br (CVal.isAggN 3 r.1)
 ((r.1.cell 0).bind fun c =>
 (r.1.cell 1).bind fun c_1 =>
 (r.1.cell 2).bind fun c_2 =>
 (C f_s_l1Once [AVal.lptr 0 0, AVal.v (CVal.int i64 6)]
 [PB.box [AVal.v y_1, AVal.v y_2, AVal.v y]]).bind
 fun r =>
 r.2[0]?.bind fun y =>
 y[0]?.bind fun y_3 =>
 y[1]?.bind fun y_4 =>
 y[2]?.bind fun y =>
 r.1.asBool.bind fun b =>
 br b
 ((C f_s_l1Bend [AVal.lptr 0 0, AVal.v (CVal.agg [c, c_1, c_2])]
 [PB.box [AVal.v y_3, AVal.v y_4, AVal.v y]]).bind
 fun r =>
 r.2[0]?.bind fun y =>
 y[0]?.bind fun y_5 =>
 y[1]?.bind fun y_6 =>
 y[2]?.bind fun y =>
 br (CVal.isAggN 3 r.1)
 ((r.1.cell 0).bind fun c =>
 (r.1.cell 1).bind fun c_3 =>
 (r.1.cell 2).bind fun c_4 =>
 some (CVal.agg [c, c_3, c_4], [[y_5, y_6, y]]))
 none)
 (some (CVal.agg [c, c_1, c_2], [[y_3, y_4, y]])))
 none
theorem go_s_l1Any (a0 : List CVal) (a1 : Int) (a2 : Int) (R : Ret) (h : nf_s_l1Any CC LL a0 a1 a2 = some R) : CC f_s_l1Any [AVal.lptr 0 0] [PB.box [AVal.v (CVal.sl a0), AVal.v (CVal.int i64 a1), AVal.v (CVal.int i64 a2)]] = some R := fnW (by decide) rfl (Eq.trans (b := nf_s_l1Any CC LL a0 a1 a2) (by kernel_rfl) h)
noncomputable def nf_i_tokens_ty (C : CallT) (L : LoopT) (a0 : List CVal) (a1 : Bool) (b : Int) : Option Ret :=
 (C f_i_tokens_next [AVal.lptr 0 0] [PB.box [AVal.v (CVal.sl a0), AVal.v (CVal.bool a1)]]).bind fun r =>
 r.2[0]?.bind fun y =>
 y[0]?.bind fun y_1 =>
 y[1]?.bind fun y =>
 (C f_slices_Index_string
 [AVal.v
 (CVal.sl
 [CVal.str [], CVal.str [(105 : UInt8)], CVal.str [(98 : UInt8)],
 CVal.str [(118 : UInt8), (48 : UInt8)], CVal.str [(102 : UInt8)], CVal.str [(112 : UInt8)],
 CVal.str [(108 : UInt8)]]),
 AVal.v r.1]
 []).bind
 fun r_1 =>
 br (!scalar r_1.1) none
 (br (r_1.1.isFlat && true)
 (r.1.asStr.bind fun s =>
 br (decide (s = [(118 : UInt8), (49 : UInt8)]))
 ((y.asBool.bind fun b_1 =>
 br b_1 (some (true, ())) (some (decide (b = 0), ()))).bind
 fun y_2 =>
 br y_2.1
 (some
 (CVal.agg [CVal.int i64 0, CVal.int i64 0, CVal.sl []],
 [[y_1, CVal.bool true]]))
 ((C f_i_tyParts [AVal.v (CVal.int i64 3)] []).bind fun r =>
 (CVal.asInt i64 r.1).bind fun n =>
 y_1.asSl.bind fun xs =>
 y.asBool.bind fun b_1 =>
 (L f_i_tokens_ty 0 lc_i_tokens_ty_0 [PSh.box [none, none]] k_i_tokens_ty_0
 (((), b, (), (), n, 0, ()),
 (xs, b_1, ()), (0, 0, (), ()), [],
 (3, 1, (), ()), [], ())).bind
 fun r =>
 loK r (fun r => some r) fun j p =>
 br (j == 0)
 (some
 (CVal.agg
 [CVal.int i64 p.snd.snd.snd.snd.fst.1,
 CVal.int i64 p.snd.snd.snd.snd.fst.snd.1,
 CVal.sl p.snd.snd.snd.snd.snd.1],
 [[CVal.sl p.snd.fst.1, CVal.bool p.snd.fst.snd.1]]))
 none))
 ((y.asBool.bind fun b_1 =>
 br b_1 (some (true, ()))
 ((CVal.asInt i64 r_1.1).bind fun n =>
 br (decide (n < 1)) (some (true, ()))
 (some (decide (b = 0), ())))).bind
 fun y_2 =>
 br y_2.1
 (some
 (CVal.agg [CVal.int i64 0, CVal.int i64 0, CVal.sl []],
 [[y_1, CVal.bool true]]))
 ((C f_i_tyParts [AVal.v r_1.1] []).bind fun r =>
 (CVal.asInt i64 r.1).bind fun n =>
 y_1.asSl.bind fun xs =>
 y.asBool.bind fun b_1 =>
 (CVal.asInt i64 r_1.1).bind fun n_1 =>
 (L f_i_tokens_ty 0 lc_i_tokens_ty_0 [PSh.box [none, none]] k_i_tokens_ty_0
 (((), b, (), (), n, 0, ()),
 (xs, b_1, ()), (0, 0, (), ()), [],
 (n_1, 0, (), ()), [], ())).bind
 fun r =>
 loK r (fun r => some r) fun j p =>
 br (j == 0)
 (some
 (CVal.agg
 [CVal.int i64 p.snd.snd.snd.snd.fst.1,
 CVal.int i64 p.snd.snd.snd.snd.fst.snd.1,
 CVal.sl p.snd.snd.snd.snd.snd.1],
 [[CVal.sl p.snd.fst.1, CVal.bool p.snd.fst.snd.1]]))
 none)))
 none)
theorem go_i_tokens_ty (a0 : List CVal) (a1 : Bool) (b : Int) (R : Ret) (h : nf_i_tokens_ty CC LL a0 a1 b = some R) : CC f_i_tokens_ty [AVal.lptr 0 0, AVal.v (CVal.int i64 b)] [PB.box [AVal.v (CVal.sl a0), AVal.v (CVal.bool a1)]] = some R := fnW (by decide) rfl (Eq.trans (b := nf_i_tokens_ty CC LL a0 a1 b) (by kernel_rfl) h)
noncomputable def nf_i_Ground_1 (C : CallT) (L : LoopT) (a0 : Int) (a1 : Int) (a2 : List CVal) : Option Ret :=
 some (CVal.bool (decide (a0 = 3)), [])
theorem go_i_Ground_1 (a0 : Int) (a1 : Int) (a2 : List CVal) (R : Ret) (h : nf_i_Ground_1 CC LL a0 a1 a2 = some R) : CC f_i_Ground_1 [AVal.v (CVal.agg [CVal.int i64 a0, CVal.int i64 a1, CVal.sl a2])] [] = some R := fnW (by decide) rfl (Eq.trans (b := nf_i_Ground_1 CC LL a0 a1 a2) (by kernel_rfl) h)
noncomputable def nf_i_tyParts (C : CallT) (L : LoopT) (a : Int) : Option Ret :=
 br (decide (a = 1)) (some (CVal.int i64 0, []))
 (br (decide (a = 2)) (some (CVal.int i64 0, []))
 (br (decide (a = 3)) (some (CVal.int i64 0, []))
 (br (decide (a = 6)) (some (CVal.int i64 1, []))
 (br (decide (a = 4)) (some (CVal.int i64 2, []))
 (br (decide (a = 5)) (some (CVal.int i64 2, []))
 (some (CVal.int i64 (-1 : Int), [])))))))
theorem go_i_tyParts (a : Int) (R : Ret) (h : nf_i_tyParts CC LL a = some R) : CC f_i_tyParts [AVal.v (CVal.int i64 a)] [] = some R := fnW (by decide) rfl (Eq.trans (b := nf_i_tyParts CC LL a) (by kernel_rfl) h)
noncomputable def nf_slices_Index_string (C : CallT) (L : LoopT) (a : List CVal) (b : List UInt8) : Option Ret :=
 (L f_slices_Index_string 0 lc_slices_Index_string_0 [] k_slices_Index_string_0
 ((a, b, (↑a.length : Int), 0, ()), ())).bind
 fun r => loK r (fun r => some r) fun j p => br (j == 0) (some (CVal.int i64 (-1 : Int), [])) none
theorem go_slices_Index_string (a : List CVal) (b : List UInt8) (R : Ret) (h : nf_slices_Index_string CC LL a b = some R) : CC f_slices_Index_string [AVal.v (CVal.sl a), AVal.v (CVal.str b)] [] = some R := fnW (by decide) rfl (Eq.trans (b := nf_slices_Index_string CC LL a b) (by kernel_rfl) h)
noncomputable def nf_s_l1Below (C : CallT) (L : LoopT) (a0 : List CVal) (a1 : Int) (a2 : Int) (b : Int) : Option Ret :=
 br (decide (b ≤ 0))
 (some (CVal.int i64 0, [[CVal.sl a0, CVal.int i64 a1, CVal.int i64 a2]]))
 (br (decide (b ≤ 256))
 ((C f_s_l1Byte [AVal.lptr 0 0]
 [PB.box [AVal.v (CVal.sl a0), AVal.v (CVal.int i64 a1), AVal.v (CVal.int i64 a2)]]).bind
 fun r =>
 r.2[0]?.bind fun y =>
 y[0]?.bind fun y_1 =>
 y[1]?.bind fun y_2 =>
 y[2]?.bind fun y =>
 (CVal.asInt i64 r.1).bind fun n =>
 (br (decide (b = 0)) none (some (CVal.int i64 (n.tmod b)))).bind fun y_3 =>
 some (y_3, [[y_1, y_2, y]]))
 ((C f_s_l1Byte [AVal.lptr 0 0]
 [PB.box [AVal.v (CVal.sl a0), AVal.v (CVal.int i64 a1), AVal.v (CVal.int i64 a2)]]).bind
 fun r =>
 r.2[0]?.bind fun y =>
 y[0]?.bind fun y_1 =>
 y[1]?.bind fun y_2 =>
 y[2]?.bind fun y =>
 (C f_s_l1Byte [AVal.lptr 0 0] [PB.box [AVal.v y_1, AVal.v y_2, AVal.v y]]).bind fun r_1 =>
 r_1.2[0]?.bind fun y =>
 y[0]?.bind fun y_3 =>
 y[1]?.bind fun y_4 =>
 y[2]?.bind fun y =>
 (C f_s_l1Byte [AVal.lptr 0 0] [PB.box [AVal.v y_3, AVal.v y_4, AVal.v y]]).bind
 fun r_2 =>
 r_2.2[0]?.bind fun y =>
 y[0]?.bind fun y_5 =>
 y[1]?.bind fun y_6 =>
 y[2]?.bind fun y =>
 (CVal.asInt i64 r.1).bind fun n =>
 (CVal.asInt i64 r_1.1).bind fun n_1 =>
 (CVal.asInt i64 r_2.1).bind fun n_2 =>
 (br (decide (b = 0)) none
 (some
 (CVal.int i64
 ((i64.wrap
 (i64.wrap
 (i64.wrap (n * 65536) +
 i64.wrap (n_1 * 256)) +
 n_2)).tmod
 b)))).bind
 fun y_7 => some (y_7, [[y_5, y_6, y]])))
theorem go_s_l1Below (a0 : List CVal) (a1 : Int) (a2 : Int) (b : Int) (R : Ret) (h : nf_s_l1Below CC LL a0 a1 a2 b = some R) : CC f_s_l1Below [AVal.lptr 0 0, AVal.v (CVal.int i64 b)] [PB.box [AVal.v (CVal.sl a0), AVal.v (CVal.int i64 a1), AVal.v (CVal.int i64 a2)]] = some R := fnW (by decide) rfl (Eq.trans (b := nf_s_l1Below CC LL a0 a1 a2 b) (by kernel_rfl) h)
noncomputable def nl_s_l1New_0 (C : CallT) (L : LoopT) (x00 : List CVal) (x01 : Int) (x02 : Int) : Option (LO k_s_l1New_0.T) :=
 (br (decide (x02 < (↑x00.length : Int))) (some (decide (x02 < 4000), ()))
 (some (false, ()))).bind
 fun y =>
 br y.1
 (br (decide (0 ≤ x02) && true)
 (x00[x02.toNat]?.bind fun y =>
 br (CVal.fits false 1 y)
 ((y.cell 0).bind fun c =>
 (CVal.asInt IntKind.u8 c).bind fun n =>
 L f_s_l1New 0 lc_s_l1New_0 [] k_s_l1New_0
 ((x00,
 bAnd i64
 (i64.wrap
 (i64.wrap (i64.wrap (x01 * 137) + i64.wrap n) + 11))
 1073741823,
 i64.wrap (x02 + 1), ()),
 ()))
 none)
 none)
 (some (LO.out 0 ((x00, x01, x02, ()), ())))
theorem gl_s_l1New_0 (x00 : List CVal) (x01 : Int) (x02 : Int) (R : LO k_s_l1New_0.T) (h : nl_s_l1New_0 CC LL x00 x01 x02 = some R) : LL f_s_l1New 0 lc_s_l1New_0 [] k_s_l1New_0 ((x00, x01, x02, ()), ()) = some R := loopW (Eq.trans (b := nl_s_l1New_0 CC LL x00 x01 x02) (by kernel_rfl) h)
noncomputable def nl_i_tokens_ty_0 (C : CallT) (L : LoopT) (x01 : Int) (x04 : Int) (x05 : Int) (x10 : List CVal) (x11 : Bool) (x20 : Int) (x21 : Int) (x3 : List CVal) (x40 : Int) (x41 : Int) (x5 : List CVal) : Option (LO k_i_tokens_ty_0.T) :=
 br (decide (x05 < x04))
 ((C f_i_tokens_ty [AVal.lptr 0 0, AVal.v (CVal.int i64 (i64.wrap (x01 - 1)))]
 [PB.box [AVal.v (CVal.sl x10), AVal.v (CVal.bool x11)]]).bind
 fun r =>
 r.2[0]?.bind fun y =>
 y[0]?.bind fun y_1 =>
 y[1]?.bind fun y =>
 br ([r.1].all (CVal.fits true 3))
 (br ([r.1].all (CVal.fits true 3))
 (br (decide (x5.length + 1 ≤ 4294967296) && true && true)
 (y_1.asSl.bind fun xs =>
 y.asBool.bind fun b =>
 L f_i_tokens_ty 0 lc_i_tokens_ty_0 [PSh.box [none, none]] k_i_tokens_ty_0
 (((), x01, (), (), x04, i64.wrap (x05 + 1), ()),
 (xs, b, ()), (x20, x21, (), ()), x3, (x40, x41, (), ()),
 x5 ++ [r.1], ()))
 none)
 none)
 none)
 (some
 (LO.out 0
 (((), x01, (), (), x04, x05, ()), (x10, x11, ()),
 (x20, x21, (), ()), x3, (x40, x41, (), ()), x5, ())))
theorem gl_i_tokens_ty_0 (x01 : Int) (x04 : Int) (x05 : Int) (x10 : List CVal) (x11 : Bool) (x20 : Int) (x21 : Int) (x3 : List CVal) (x40 : Int) (x41 : Int) (x5 : List CVal) (R : LO k_i_tokens_ty_0.T) (h : nl_i_tokens_ty_0 CC LL x01 x04 x05 x10 x11 x20 x21 x3 x40 x41 x5 = some R) : LL f_i_tokens_ty 0 lc_i_tokens_ty_0 [PSh.box [none, none]] k_i_tokens_ty_0 (((), x01, (), (), x04, x05, ()), (x10, x11, ()), (x20, x21, (), ()), x3, (x40, x41, (), ()), x5, ()) = some R := loopW (Eq.trans (b := nl_i_tokens_ty_0 CC LL x01 x04 x05 x10 x11 x20 x21 x3 x40 x41 x5) (by kernel_rfl) h)
noncomputable def nl_s_l1Bend_1 (C : CallT) (L : LoopT) (x02 : Int) (x10 : List CVal) (x11 : Int) (x12 : Int) (x20 : Int) (x21 : Int) (x3 : List CVal) (x40 : Int) (x41 : Int) (x5 : List CVal) : Option (LO k_s_l1Bend_1.T) :=
 br (decide (x02 < 5))
 (L f_s_l1Bend 1 lc_s_l1Bend_1 [PSh.box [none, none, none]] k_s_l1Bend_1
 (((), (), i64.wrap (x02 + 1), ()), (x10, x11, x12, ()),
 (6, 0, (), ()),
 [CVal.agg [CVal.int i64 x20, CVal.int i64 x21, CVal.sl x3]], (x40, x41, (), ()),
 x5, ()))
 (some
 (LO.out 1
 (((), (), x02, ()), (x10, x11, x12, ()), (x20, x21, (), ()), x3,
 (x40, x41, (), ()), x5, ())))
theorem gl_s_l1Bend_1 (x02 : Int) (x10 : List CVal) (x11 : Int) (x12 : Int) (x20 : Int) (x21 : Int) (x3 : List CVal) (x40 : Int) (x41 : Int) (x5 : List CVal) (R : LO k_s_l1Bend_1.T) (h : nl_s_l1Bend_1 CC LL x02 x10 x11 x12 x20 x21 x3 x40 x41 x5 = some R) : LL f_s_l1Bend 1 lc_s_l1Bend_1 [PSh.box [none, none, none]] k_s_l1Bend_1 (((), (), x02, ()), (x10, x11, x12, ()), (x20, x21, (), ()), x3, (x40, x41, (), ()), x5, ()) = some R := loopW (Eq.trans (b := nl_s_l1Bend_1 CC LL x02 x10 x11 x12 x20 x21 x3 x40 x41 x5) (by kernel_rfl) h)
end Go.Proofs.YtegbnddjgifcdaaDoor.Abs
