/- What the functions come to in the abstract machine. -/
import Derived.Test.YtegbnddjgifcdaaDoorT1Ann
import Derived.KernelRfl
set_option linter.unusedVariables false
set_option maxRecDepth 100000
namespace Go.Proofs.YtegbnddjgifcdaaDoor.Abs
open Go Go.Proofs Go.IntKind
noncomputable def nf_l_big (C : CallT) (L : LoopT) (a : List CVal) : Option Ret :=
 some (CVal.bool (decide (1048576 < (↑a.length : Int))), [])
theorem go_l_big (a : List CVal) (R : Ret) (h : nf_l_big CC LL a = some R) : CC f_l_big [AVal.v (CVal.sl a)] [] = some R := fnW (by decide) rfl (Eq.trans (b := nf_l_big CC LL a) (by kernel_rfl) h)
noncomputable def nf_s_TyOk (C : CallT) (L : LoopT) (a0 : Int) (a1 : Int) (a2 : List CVal) : Option Ret :=
 (C f_s_l1Look
 [AVal.v (CVal.agg [CVal.int i64 a0, CVal.int i64 a1, CVal.sl a2]),
 AVal.v (CVal.int i64 6), AVal.lptr 0 0]
 [PB.box [AVal.v (CVal.int i64 0)]]).bind
 fun r => r.2[0]?.bind fun y => y[0]?.bind fun y => some (r.1, [])
theorem go_s_TyOk (a0 : Int) (a1 : Int) (a2 : List CVal) (R : Ret) (h : nf_s_TyOk CC LL a0 a1 a2 = some R) : CC f_s_TyOk [AVal.v (CVal.agg [CVal.int i64 a0, CVal.int i64 a1, CVal.sl a2])] [] = some R := fnW (by decide) rfl (Eq.trans (b := nf_s_TyOk CC LL a0 a1 a2) (by kernel_rfl) h)
noncomputable def nf_i_VarsOf (C : CallT) (L : LoopT) (a0 : Int) (a1 : Int) (a2 : List CVal) : Option Ret :=
 (C f_i_TyOk [AVal.v (CVal.agg [CVal.int i64 a0, CVal.int i64 a1, CVal.sl a2])] []).bind fun r =>
 r.1.asBool.bind fun b =>
 br (!b) (some (CVal.int i64 0, []))
 ((C f_i_varsOf [AVal.v (CVal.agg [CVal.int i64 a0, CVal.int i64 a1, CVal.sl a2])] []).bind
 fun r => some (r.1, []))
theorem go_i_VarsOf (a0 : Int) (a1 : Int) (a2 : List CVal) (R : Ret) (h : nf_i_VarsOf CC LL a0 a1 a2 = some R) : CC f_i_VarsOf [AVal.v (CVal.agg [CVal.int i64 a0, CVal.int i64 a1, CVal.sl a2])] [] = some R := fnW (by decide) rfl (Eq.trans (b := nf_i_VarsOf CC LL a0 a1 a2) (by kernel_rfl) h)
noncomputable def nf_i_tyTokens (C : CallT) (L : LoopT) (a : List CVal) (b0 : Int) (b1 : Int) (b2 : List CVal) : Option Ret :=
 br (decide (0 ≤ b0) && true)
 (br (decide (b0.toNat < 7) && true)
 ([CVal.str [], CVal.str [(105 : UInt8)], CVal.str [(98 : UInt8)], CVal.str [(118 : UInt8)],
 CVal.str [(102 : UInt8)], CVal.str [(112 : UInt8)], CVal.str [(108 : UInt8)]][b0.toNat]?.bind
 fun y =>
 (y.cell 0).bind fun c =>
 c.asStr.bind fun s =>
 br (decide (b0 = 3))
 ((C f_strconv_Itoa [AVal.v (CVal.int i64 b1)] []).bind fun r =>
 r.1.asStr.bind fun s_1 =>
 br (decide (s.length + s_1.length ≤ 1152921504606846976))
 (br (decide (a.length + 1 ≤ 4294967296) && true && true)
 ((L f_i_tyTokens 0 lc_i_tyTokens_0 [PSh.arr (Md.mk true false 0) false 1]
 k_i_tyTokens_0
 (((), b2, (↑b2.length : Int), 0, ()), a ++ [CVal.str (s ++ s_1)],
 ())).bind
 fun r =>
 loK r (fun r => some r) fun j p => br (j == 0) (some (CVal.nilp, [p.snd.1])) none)
 none)
 none)
 (br (decide (a.length + 1 ≤ 4294967296) && true && true)
 ((L f_i_tyTokens 0 lc_i_tyTokens_0 [PSh.arr (Md.mk true false 0) false 1]
 k_i_tyTokens_0
 (((), b2, (↑b2.length : Int), 0, ()), a ++ [CVal.str s], ())).bind
 fun r => loK r (fun r => some r) fun j p => br (j == 0) (some (CVal.nilp, [p.snd.1])) none)
 none))
 none)
 none
theorem go_i_tyTokens (a : List CVal) (b0 : Int) (b1 : Int) (b2 : List CVal) (R : Ret) (h : nf_i_tyTokens CC LL a b0 b1 b2 = some R) : CC f_i_tyTokens [AVal.lref 0 0, AVal.v (CVal.agg [CVal.int i64 b0, CVal.int i64 b1, CVal.sl b2])] [PB.arr (Md.mk true false 0) false 1 a] = some R := fnW (by decide) rfl (Eq.trans (b := nf_i_tyTokens CC LL a b0 b1 b2) (by kernel_rfl) h)
noncomputable def nf_slices_EqualFunc_Ty (C : CallT) (L : LoopT) (a : List CVal) (b : List CVal) (c : CVal) : Option Ret :=
 br (!decide ((↑a.length : Int) = (↑b.length : Int))) (some (CVal.bool false, []))
 ((L f_slices_EqualFunc_Ty 0 lc_slices_EqualFunc_Ty_0 [] k_slices_EqualFunc_Ty_0
 ((b, c, a, (↑a.length : Int), 0, ()), ())).bind
 fun r => loK r (fun r => some r) fun j p => br (j == 0) (some (CVal.bool true, [])) none)
theorem go_slices_EqualFunc_Ty (a : List CVal) (b : List CVal) (c : CVal) (R : Ret) (h : nf_slices_EqualFunc_Ty CC LL a b c = some R) : CC f_slices_EqualFunc_Ty [AVal.v (CVal.sl a), AVal.v (CVal.sl b), AVal.v c] [] = some R := fnW (by decide) rfl (Eq.trans (b := nf_slices_EqualFunc_Ty CC LL a b c) (by kernel_rfl) h)
noncomputable def nf_s_l1Ty (C : CallT) (L : LoopT) (a0 : List CVal) (a1 : Int) (a2 : Int) (b : Int) (c : Int) : Option Ret :=
 (C f_s_l1Int
 [AVal.lptr 0 0,
 AVal.v
 (CVal.sl
 [CVal.int i64 1, CVal.int i64 1, CVal.int i64 2,
 CVal.int i64 4, CVal.int i64 5, CVal.int i64 6,
 CVal.int i64 3])]
 [PB.box [AVal.v (CVal.sl a0), AVal.v (CVal.int i64 a1), AVal.v (CVal.int i64 a2)]]).bind
 fun r =>
 r.2[0]?.bind fun y =>
 y[0]?.bind fun y_1 =>
 y[1]?.bind fun y_2 =>
 y[2]?.bind fun y =>
 ((CVal.asInt i64 r.1).bind fun n =>
 br (decide (n = 3))
 (br (decide (c = 0)) (some (true, ()))
 (br (decide (b ≤ 1))
 ((CVal.asInt i64 r.1).bind fun n => some (decide (3 < n), ()))
 (some (false, ()))))
 (br (decide (b ≤ 1))
 ((CVal.asInt i64 r.1).bind fun n => some (decide (3 < n), ()))
 (some (false, ())))).bind
 fun y_3 =>
 br y_3.1
 (y_1.asSl.bind fun xs =>
 (CVal.asInt i64 y_2).bind fun n =>
 (CVal.asInt i64 y).bind fun n_1 =>
 (L f_s_l1Ty 0 lc_s_l1Ty_0 [PSh.box [none, none, none]] k_s_l1Ty_0
 (((), b, c, (), 1, (), 0, ()),
 (xs, n, n_1, ()), (0, 0, (), ()), [],
 (1, 0, (), ()), [], ())).bind
 fun r =>
 loK r (fun r => some r) fun j p =>
 br (j == 0)
 (some
 (CVal.agg
 [CVal.int i64 p.snd.snd.snd.snd.fst.1,
 CVal.int i64 p.snd.snd.snd.snd.fst.snd.1, CVal.sl p.snd.snd.snd.snd.snd.1],
 [[CVal.sl p.snd.fst.1, CVal.int i64 p.snd.fst.snd.1,
 CVal.int i64 p.snd.fst.snd.snd.1]]))
 none)
 (br (r.1.isFlat && true)
 ((CVal.asInt i64 r.1).bind fun n =>
 br (decide (n = 3))
 ((C f_s_l1Below [AVal.lptr 0 0, AVal.v (CVal.int i64 c)]
 [PB.box [AVal.v y_1, AVal.v y_2, AVal.v y]]).bind
 fun r_1 =>
 r_1.2[0]?.bind fun y =>
 y[0]?.bind fun y_4 =>
 y[1]?.bind fun y_5 =>
 y[2]?.bind fun y =>
 br (r_1.1.isFlat && true)
 ((CVal.asInt i64 r.1).bind fun n =>
 y_4.asSl.bind fun xs =>
 (CVal.asInt i64 y_5).bind fun n_1 =>
 (CVal.asInt i64 y).bind fun n_2 =>
 (CVal.asInt i64 r.1).bind fun n_3 =>
 (CVal.asInt i64 r_1.1).bind fun n_4 =>
 (L f_s_l1Ty 0 lc_s_l1Ty_0 [PSh.box [none, none, none]] k_s_l1Ty_0
 (((), b, c, (), n, (), 0, ()),
 (xs, n_1, n_2, ()),
 (0, 0, (), ()), [],
 (n_3, n_4, (), ()), [], ())).bind
 fun r =>
 loK r (fun r => some r) fun j p =>
 br (j == 0)
 (some
 (CVal.agg
 [CVal.int i64 p.snd.snd.snd.snd.fst.1,
 CVal.int i64 p.snd.snd.snd.snd.fst.snd.1,
 CVal.sl p.snd.snd.snd.snd.snd.1],
 [[CVal.sl p.snd.fst.1, CVal.int i64 p.snd.fst.snd.1,
 CVal.int i64 p.snd.fst.snd.snd.1]]))
 none)
 none)
 ((CVal.asInt i64 r.1).bind fun n =>
 y_1.asSl.bind fun xs =>
 (CVal.asInt i64 y_2).bind fun n_1 =>
 (CVal.asInt i64 y).bind fun n_2 =>
 (CVal.asInt i64 r.1).bind fun n_3 =>
 (L f_s_l1Ty 0 lc_s_l1Ty_0 [PSh.box [none, none, none]] k_s_l1Ty_0
 (((), b, c, (), n, (), 0, ()),
 (xs, n_1, n_2, ()), (0, 0, (), ()), [],
 (n_3, 0, (), ()), [], ())).bind
 fun r =>
 loK r (fun r => some r) fun j p =>
 br (j == 0)
 (some
 (CVal.agg
 [CVal.int i64 p.snd.snd.snd.snd.fst.1,
 CVal.int i64 p.snd.snd.snd.snd.fst.snd.1,
 CVal.sl p.snd.snd.snd.snd.snd.1],
 [[CVal.sl p.snd.fst.1, CVal.int i64 p.snd.fst.snd.1,
 CVal.int i64 p.snd.fst.snd.snd.1]]))
 none))
 none)
theorem go_s_l1Ty (a0 : List CVal) (a1 : Int) (a2 : Int) (b : Int) (c : Int) (R : Ret) (h : nf_s_l1Ty CC LL a0 a1 a2 b c = some R) : CC f_s_l1Ty [AVal.lptr 0 0, AVal.v (CVal.int i64 b), AVal.v (CVal.int i64 c)] [PB.box [AVal.v (CVal.sl a0), AVal.v (CVal.int i64 a1), AVal.v (CVal.int i64 a2)]] = some R := fnW (by decide) rfl (Eq.trans (b := nf_s_l1Ty CC LL a0 a1 a2 b c) (by kernel_rfl) h)
noncomputable def nf_s_l1Args (C : CallT) (L : LoopT) (a : Int) : Option Ret :=
 br (decide (a = 1)) (some (CVal.int i64 0, []))
 (br (decide (a = 2)) (some (CVal.int i64 0, []))
 (br (decide (a = 3)) (some (CVal.int i64 0, []))
 (br (decide (a = 6)) (some (CVal.int i64 1, []))
 (br (decide (a = 4)) (some (CVal.int i64 2, []))
 (br (decide (a = 5)) (some (CVal.int i64 2, []))
 (some (CVal.int i64 (-1 : Int), [])))))))
theorem go_s_l1Args (a : Int) (R : Ret) (h : nf_s_l1Args CC LL a = some R) : CC f_s_l1Args [AVal.v (CVal.int i64 a)] [] = some R := fnW (by decide) rfl (Eq.trans (b := nf_s_l1Args CC LL a) (by kernel_rfl) h)
noncomputable def nf_slices_ContainsFunc_Ty (C : CallT) (L : LoopT) (a : List CVal) (b : CVal) : Option Ret :=
 (C f_slices_IndexFunc_Ty [AVal.v (CVal.sl a), AVal.v b] []).bind fun r =>
 (CVal.asInt i64 r.1).bind fun n => some (CVal.bool (decide (0 ≤ n)), [])
theorem go_slices_ContainsFunc_Ty (a : List CVal) (b : CVal) (R : Ret) (h : nf_slices_ContainsFunc_Ty CC LL a b = some R) : CC f_slices_ContainsFunc_Ty [AVal.v (CVal.sl a), AVal.v b] [] = some R := fnW (by decide) rfl (Eq.trans (b := nf_slices_ContainsFunc_Ty CC LL a b) (by kernel_rfl) h)
noncomputable def nf_s_l1Copy (C : CallT) (L : LoopT) (a0 : Int) (a1 : Int) (a2 : List CVal) : Option Ret :=
 (L f_s_l1Copy 0 lc_s_l1Copy_0 [] k_s_l1Copy_0
 (((), (), (), 0, ()), (a0, a1, a2, ()),
 (0, 0, (), ()), [], (a0, a1, (), ()), [], ())).bind
 fun r =>
 loK r (fun r => some r) fun j p =>
 br (j == 0)
 (some
 (CVal.agg
 [CVal.int i64 p.snd.snd.snd.snd.fst.1, CVal.int i64 p.snd.snd.snd.snd.fst.snd.1,
 CVal.sl p.snd.snd.snd.snd.snd.1],
 []))
 none
theorem go_s_l1Copy (a0 : Int) (a1 : Int) (a2 : List CVal) (R : Ret) (h : nf_s_l1Copy CC LL a0 a1 a2 = some R) : CC f_s_l1Copy [AVal.v (CVal.agg [CVal.int i64 a0, CVal.int i64 a1, CVal.sl a2])] [] = some R := fnW (by decide) rfl (Eq.trans (b := nf_s_l1Copy CC LL a0 a1 a2) (by kernel_rfl) h)
noncomputable def nl_i_tyTokens_0 (C : CallT) (L : LoopT) (x01 : List CVal) (x02 : Int) (x03 : Int) (x1 : List CVal) : Option (LO k_i_tyTokens_0.T) :=
 br (decide (x03 < x02))
 (br (decide (0 ≤ x03) && true)
 (x01[x03.toNat]?.bind fun y =>
 br (CVal.fits true 3 y)
 ((y.sub 0 3).bind fun y =>
 br (CVal.isAggN 3 y)
 ((y.cell 0).bind fun c =>
 (y.cell 1).bind fun c_1 =>
 (y.cell 2).bind fun c_2 =>
 (C f_i_tyTokens [AVal.lref 0 0, AVal.v (CVal.agg [c, c_1, c_2])]
 [PB.arr (Md.mk true false 0) false 1 x1]).bind
 fun r =>
 r.2[0]?.bind fun y =>
 L f_i_tyTokens 0 lc_i_tyTokens_0 [PSh.arr (Md.mk true false 0) false 1]
 k_i_tyTokens_0
 (((), x01, x02, i64.wrap (x03 + 1), ()), y, ()))
 none)
 none)
 none)
 (some (LO.out 0 (((), x01, x02, x03, ()), x1, ())))
theorem gl_i_tyTokens_0 (x01 : List CVal) (x02 : Int) (x03 : Int) (x1 : List CVal) (R : LO k_i_tyTokens_0.T) (h : nl_i_tyTokens_0 CC LL x01 x02 x03 x1 = some R) : LL f_i_tyTokens 0 lc_i_tyTokens_0 [PSh.arr (Md.mk true false 0) false 1] k_i_tyTokens_0 (((), x01, x02, x03, ()), x1, ()) = some R := loopW (Eq.trans (b := nl_i_tyTokens_0 CC LL x01 x02 x03 x1) (by kernel_rfl) h)
noncomputable def nl_slices_EqualFunc_Ty_0 (C : CallT) (L : LoopT) (x00 : List CVal) (x01 : CVal) (x02 : List CVal) (x03 : Int) (x04 : Int) : Option (LO k_slices_EqualFunc_Ty_0.T) :=
 br (decide (x04 < x03))
 (br (decide (0 ≤ x04) && true)
 (x02[x04.toNat]?.bind fun y =>
 br (CVal.fits true 3 y)
 ((y.sub 0 3).bind fun y =>
 br (CVal.isAggN 3 y)
 ((y.cell 0).bind fun c =>
 (y.cell 1).bind fun c_1 =>
 (y.cell 2).bind fun c_2 =>
 br (decide (0 ≤ x04) && true)
 (x00[x04.toNat]?.bind fun y =>
 br (CVal.fits true 3 y)
 ((y.sub 0 3).bind fun y =>
 br (CVal.isAggN 3 y)
 ((y.cell 0).bind fun c_3 =>
 (y.cell 1).bind fun c_4 =>
 (y.cell 2).bind fun c_5 =>
 (C apId
 [AVal.v x01, AVal.v (CVal.agg [c, c_1, c_2]), AVal.v (CVal.agg [c_3, c_4, c_5])]
 []).bind
 fun r =>
 r.1.asBool.bind fun b =>
 br (!b) (some (LO.ret (CVal.bool false, [])))
 (L f_slices_EqualFunc_Ty 0 lc_slices_EqualFunc_Ty_0 []
 k_slices_EqualFunc_Ty_0
 ((x00, x01, x02, x03, i64.wrap (x04 + 1), ()),
 ())))
 none)
 none)
 none)
 none)
 none)
 none)
 (some (LO.out 0 ((x00, x01, x02, x03, x04, ()), ())))
theorem gl_slices_EqualFunc_Ty_0 (x00 : List CVal) (x01 : CVal) (x02 : List CVal) (x03 : Int) (x04 : Int) (R : LO k_slices_EqualFunc_Ty_0.T) (h : nl_slices_EqualFunc_Ty_0 CC LL x00 x01 x02 x03 x04 = some R) : LL f_slices_EqualFunc_Ty 0 lc_slices_EqualFunc_Ty_0 [] k_slices_EqualFunc_Ty_0 ((x00, x01, x02, x03, x04, ()), ()) = some R := loopW (Eq.trans (b := nl_slices_EqualFunc_Ty_0 CC LL x00 x01 x02 x03 x04) (by kernel_rfl) h)
noncomputable def nl_slices_Index_string_0 (C : CallT) (L : LoopT) (x00 : List CVal) (x01 : List UInt8) (x02 : Int) (x03 : Int) : Option (LO k_slices_Index_string_0.T) :=
 br (decide (x03 < x02))
 (br (decide (0 ≤ x03) && true)
 (x00[x03.toNat]?.bind fun y =>
 br (CVal.fits false 1 y)
 ((y.cell 0).bind fun c =>
 c.asStr.bind fun s =>
 br (decide (x01 = s)) (some (LO.ret (CVal.int i64 x03, [])))
 (L f_slices_Index_string 0 lc_slices_Index_string_0 [] k_slices_Index_string_0
 ((x00, x01, x02, i64.wrap (x03 + 1), ()), ())))
 none)
 none)
 (some (LO.out 0 ((x00, x01, x02, x03, ()), ())))
theorem gl_slices_Index_string_0 (x00 : List CVal) (x01 : List UInt8) (x02 : Int) (x03 : Int) (R : LO k_slices_Index_string_0.T) (h : nl_slices_Index_string_0 CC LL x00 x01 x02 x03 = some R) : LL f_slices_Index_string 0 lc_slices_Index_string_0 [] k_slices_Index_string_0 ((x00, x01, x02, x03, ()), ()) = some R := loopW (Eq.trans (b := nl_slices_Index_string_0 CC LL x00 x01 x02 x03) (by kernel_rfl) h)
end Go.Proofs.YtegbnddjgifcdaaDoor.Abs
