/- What the functions come to in the abstract machine. -/
import Derived.Test.YtegbnddjgifcdaaDoorB1Ann
import Derived.KernelRfl
set_option linter.unusedVariables false
set_option maxRecDepth 100000
namespace Go.Proofs.YtegbnddjgifcdaaDoor.Abs
open Go Go.Proofs Go.IntKind
noncomputable def nf_s_ParseTy (C : CallT) (L : LoopT) (a : List UInt8) : Option Ret :=
 (C f_s_l1Split [AVal.v (CVal.str a)] []).bind fun r =>
 br (r.1.isFlat && true)
 ((C f_s_l1Read [AVal.lptr 0 0, AVal.v (CVal.int i64 6)]
 [PB.box [AVal.v r.1, AVal.v (CVal.int i64 0), AVal.v (CVal.bool false)]]).bind
 fun r =>
 r.2[0]?.bind fun y =>
 y[0]?.bind fun y_1 =>
 y[1]?.bind fun y_2 =>
 y[2]?.bind fun y =>
 br (CVal.isAggN 3 r.1)
 ((r.1.cell 0).bind fun c =>
 (r.1.cell 1).bind fun c_1 =>
 (r.1.cell 2).bind fun c_2 =>
 c_2.asSl.bind fun xs =>
 (y.asBool.bind fun b =>
 br b (some (true, ()))
 (y_1.asSl.bind fun xs_1 =>
 (CVal.asInt i64 y_2).bind fun n =>
 br (!decide (n = (↑xs_1.length : Int))) (some (true, ()))
 ((C f_s_TyOk [AVal.v (CVal.agg [c, c_1, CVal.sl xs])] []).bind fun r =>
 br (!scalar r.1) none (r.1.asBool.bind fun b => some (!b, ()))))).bind
 fun y =>
 br y.1
 (some
 (CVal.tup
 [CVal.agg
 [CVal.int i64 0, CVal.int i64 0, CVal.sl []],
 CVal.bool false],
 []))
 (some (CVal.tup [CVal.agg [c, c_1, CVal.sl xs], CVal.bool true], [])))
 none)
 none
theorem go_s_ParseTy (a : List UInt8) (R : Ret) (h : nf_s_ParseTy CC LL a = some R) : CC f_s_ParseTy [AVal.v (CVal.str a)] [] = some R := fnW (by decide) rfl (Eq.trans (b := nf_s_ParseTy CC LL a) (by kernel_rfl) h)
noncomputable def nf_l_heldTy (C : CallT) (L : LoopT) (a0 : Int) (a1 : Int) (a2 : List CVal) (b : Int) : Option Ret :=
 (C f_l_heldTyS [AVal.v (CVal.sl a2), AVal.v (CVal.int i64 b)] []).bind fun r =>
 (CVal.asInt i64 r.1).bind fun n =>
 br (decide (n < 0)) (some (CVal.int i64 (-1 : Int), [])) (some (r.1, []))
theorem go_l_heldTy (a0 : Int) (a1 : Int) (a2 : List CVal) (b : Int) (R : Ret) (h : nf_l_heldTy CC LL a0 a1 a2 b = some R) : CC f_l_heldTy [AVal.v (CVal.agg [CVal.int i64 a0, CVal.int i64 a1, CVal.sl a2]), AVal.v (CVal.int i64 b)] [] = some R := fnW (by decide) rfl (Eq.trans (b := nf_l_heldTy CC LL a0 a1 a2 b) (by kernel_rfl) h)
noncomputable def nf_i_tokens_ty (C : CallT) (L : LoopT) (a0 : List CVal) (a1 : Bool) (b : Int) : Option Ret :=
 (C f_i_tokens_next [AVal.lptr 0 0] [PB.box [AVal.v (CVal.sl a0), AVal.v (CVal.bool a1)]]).bind fun r =>
 r.2[0]?.bind fun y =>
 y[0]?.bind fun y_1 =>
 y[1]?.bind fun y =>
 (C f_slices_Index_string
 [AVal.v
 (CVal.sl
 [CVal.str [], CVal.str [(105 : UInt8)], CVal.str [(98 : UInt8)],
 CVal.str [(118 : UInt8), (48 : UInt8)], CVal.str [(102 : UInt8)], CVal.str [(112 : UInt8)],
 CVal.str [(108 : UInt8)]]),
 AVal.v r.1]
 []).bind
 fun r_1 =>
 br (!scalar r_1.1) none
 (br (r_1.1.isFlat && true)
 (r.1.asStr.bind fun s =>
 br (decide (s = [(118 : UInt8), (49 : UInt8)]))
 ((y.asBool.bind fun b_1 =>
 br b_1 (some (true, ())) (some (decide (b = 0), ()))).bind
 fun y_2 =>
 br y_2.1
 (some
 (CVal.agg [CVal.int i64 0, CVal.int i64 0, CVal.sl []],
 [[y_1, CVal.bool true]]))
 ((C f_i_tyParts [AVal.v (CVal.int i64 3)] []).bind fun r =>
 (CVal.asInt i64 r.1).bind fun n =>
 y_1.asSl.bind fun xs =>
 y.asBool.bind fun b_1 =>
 (L f_i_tokens_ty 0 lc_i_tokens_ty_0 [PSh.box [none, none]] k_i_tokens_ty_0
 (((), b, (), (), n, 0, ()),
 (xs, b_1, ()), (0, 0, (), ()), [],
 (3, 1, (), ()), [], ())).bind
 fun r =>
 loK r (fun r => some r) fun j p =>
 br (j == 0)
 (some
 (CVal.agg
 [CVal.int i64 p.snd.snd.snd.snd.fst.1,
 CVal.int i64 p.snd.snd.snd.snd.fst.snd.1,
 CVal.sl p.snd.snd.snd.snd.snd.1],
 [[CVal.sl p.snd.fst.1, CVal.bool p.snd.fst.snd.1]]))
 none))
 ((y.asBool.bind fun b_1 =>
 br b_1 (some (true, ()))
 ((CVal.asInt i64 r_1.1).bind fun n =>
 br (decide (n < 1)) (some (true, ()))
 (some (decide (b = 0), ())))).bind
 fun y_2 =>
 br y_2.1
 (some
 (CVal.agg [CVal.int i64 0, CVal.int i64 0, CVal.sl []],
 [[y_1, CVal.bool true]]))
 ((C f_i_tyParts [AVal.v r_1.1] []).bind fun r =>
 (CVal.asInt i64 r.1).bind fun n =>
 y_1.asSl.bind fun xs =>
 y.asBool.bind fun b_1 =>
 (CVal.asInt i64 r_1.1).bind fun n_1 =>
 (L f_i_tokens_ty 0 lc_i_tokens_ty_0 [PSh.box [none, none]] k_i_tokens_ty_0
 (((), b, (), (), n, 0, ()),
 (xs, b_1, ()), (0, 0, (), ()), [],
 (n_1, 0, (), ()), [], ())).bind
 fun r =>
 loK r (fun r => some r) fun j p =>
 br (j == 0)
 (some
 (CVal.agg
 [CVal.int i64 p.snd.snd.snd.snd.fst.1,
 CVal.int i64 p.snd.snd.snd.snd.fst.snd.1,
 CVal.sl p.snd.snd.snd.snd.snd.1],
 [[CVal.sl p.snd.fst.1, CVal.bool p.snd.fst.snd.1]]))
 none)))
 none)
theorem go_i_tokens_ty (a0 : List CVal) (a1 : Bool) (b : Int) (R : Ret) (h : nf_i_tokens_ty CC LL a0 a1 b = some R) : CC f_i_tokens_ty [AVal.lptr 0 0, AVal.v (CVal.int i64 b)] [PB.box [AVal.v (CVal.sl a0), AVal.v (CVal.bool a1)]] = some R := fnW (by decide) rfl (Eq.trans (b := nf_i_tokens_ty CC LL a0 a1 b) (by kernel_rfl) h)
noncomputable def nf_l_heldTyS (C : CallT) (L : LoopT) (a : List CVal) (b : Int) : Option Ret :=
 (L f_l_heldTyS 0 lc_l_heldTyS_0 [] k_l_heldTyS_0 ((a, b, 0, ()), ())).bind fun r =>
 loK r (fun r => some r) fun j p => br (j == 0) (some (CVal.int i64 p.fst.snd.1, [])) none
theorem go_l_heldTyS (a : List CVal) (b : Int) (R : Ret) (h : nf_l_heldTyS CC LL a b = some R) : CC f_l_heldTyS [AVal.v (CVal.sl a), AVal.v (CVal.int i64 b)] [] = some R := fnW (by decide) rfl (Eq.trans (b := nf_l_heldTyS CC LL a b) (by kernel_rfl) h)
noncomputable def nf_i_tokens_next (C : CallT) (L : LoopT) (a0 : List CVal) (a1 : Bool) : Option Ret :=
 (br a1 (some (true, ())) (some (decide ((↑a0.length : Int) = 0), ()))).bind fun y =>
 br y.1 (some (CVal.str [], [[CVal.sl a0, CVal.bool true]]))
 (a0[0]?.bind fun y =>
 br (CVal.fits false 1 y)
 ((y.cell 0).bind fun c =>
 br
 (decide (1 ≤ (↑a0.length : Int)) && decide ((↑a0.length : Int) ≤ (↑a0.length : Int)) &&
 a0.all (CVal.fits false 1))
 (some (c, [[CVal.sl (List.drop 1 (List.take (↑a0.length : Int).toNat a0)), CVal.bool a1]])) none)
 none)
theorem go_i_tokens_next (a0 : List CVal) (a1 : Bool) (R : Ret) (h : nf_i_tokens_next CC LL a0 a1 = some R) : CC f_i_tokens_next [AVal.lptr 0 0] [PB.box [AVal.v (CVal.sl a0), AVal.v (CVal.bool a1)]] = some R := fnW (by decide) rfl (Eq.trans (b := nf_i_tokens_next CC LL a0 a1) (by kernel_rfl) h)
noncomputable def nf_s_l1In (C : CallT) (L : LoopT) (a : Int) (b : Int) (c : Int) : Option Ret :=
 (br (decide (b ≤ a)) (some (decide (a ≤ c), ())) (some (false, ()))).bind fun y =>
 some (CVal.bool y.1, [])
theorem go_s_l1In (a : Int) (b : Int) (c : Int) (R : Ret) (h : nf_s_l1In CC LL a b c = some R) : CC f_s_l1In [AVal.v (CVal.int i64 a), AVal.v (CVal.int i64 b), AVal.v (CVal.int i64 c)] [] = some R := fnW (by decide) rfl (Eq.trans (b := nf_s_l1In CC LL a b c) (by kernel_rfl) h)
noncomputable def nl_l_eqTyS_0 (C : CallT) (L : LoopT) (x00 : List CVal) (x01 : List CVal) (x02 : Int) : Option (LO k_l_eqTyS_0.T) :=
 br (decide (x02 < (↑x00.length : Int)))
 (br (decide (0 ≤ x02) && true)
 (x00[x02.toNat]?.bind fun y =>
 br (CVal.fits true 3 y)
 ((y.sub 0 3).bind fun y =>
 br (decide (0 ≤ x02) && true)
 (x01[x02.toNat]?.bind fun y_1 =>
 br (CVal.fits true 3 y_1)
 ((y_1.sub 0 3).bind fun y_2 =>
 (C f_l_eqTy [AVal.v y, AVal.v y_2] []).bind fun r =>
 r.1.asBool.bind fun b =>
 br (!b) (some (LO.ret (CVal.bool false, [])))
 (L f_l_eqTyS 0 lc_l_eqTyS_0 [] k_l_eqTyS_0
 ((x00, x01, i64.wrap (x02 + 1), ()), ())))
 none)
 none)
 none)
 none)
 (some (LO.out 0 ((x00, x01, x02, ()), ())))
theorem gl_l_eqTyS_0 (x00 : List CVal) (x01 : List CVal) (x02 : Int) (R : LO k_l_eqTyS_0.T) (h : nl_l_eqTyS_0 CC LL x00 x01 x02 = some R) : LL f_l_eqTyS 0 lc_l_eqTyS_0 [] k_l_eqTyS_0 ((x00, x01, x02, ()), ()) = some R := loopW (Eq.trans (b := nl_l_eqTyS_0 CC LL x00 x01 x02) (by kernel_rfl) h)
noncomputable def nl_slices_Index_string_0 (C : CallT) (L : LoopT) (x00 : List CVal) (x01 : List UInt8) (x02 : Int) (x03 : Int) : Option (LO k_slices_Index_string_0.T) :=
 br (decide (x03 < x02))
 (br (decide (0 ≤ x03) && true)
 (x00[x03.toNat]?.bind fun y =>
 br (CVal.fits false 1 y)
 ((y.cell 0).bind fun c =>
 c.asStr.bind fun s =>
 br (decide (x01 = s)) (some (LO.ret (CVal.int i64 x03, [])))
 (L f_slices_Index_string 0 lc_slices_Index_string_0 [] k_slices_Index_string_0
 ((x00, x01, x02, i64.wrap (x03 + 1), ()), ())))
 none)
 none)
 (some (LO.out 0 ((x00, x01, x02, x03, ()), ())))
theorem gl_slices_Index_string_0 (x00 : List CVal) (x01 : List UInt8) (x02 : Int) (x03 : Int) (R : LO k_slices_Index_string_0.T) (h : nl_slices_Index_string_0 CC LL x00 x01 x02 x03 = some R) : LL f_slices_Index_string 0 lc_slices_Index_string_0 [] k_slices_Index_string_0 ((x00, x01, x02, x03, ()), ()) = some R := loopW (Eq.trans (b := nl_slices_Index_string_0 CC LL x00 x01 x02 x03) (by kernel_rfl) h)
end Go.Proofs.YtegbnddjgifcdaaDoor.Abs
