/- What the functions come to in the abstract machine. -/
import Derived.Test.YtegbnddjgifcdaaDoorB1Ann
import Derived.KernelRfl
set_option linter.unusedVariables false
set_option maxRecDepth 100000
namespace Go.Proofs.YtegbnddjgifcdaaDoor.Abs
open Go Go.Proofs Go.IntKind
noncomputable def nf_i_ParseTy (C : CallT) (L : LoopT) (a : List UInt8) : Option Ret :=
 (C f_strings_Split [AVal.v (CVal.str a), AVal.v (CVal.str [(32 : UInt8)])] []).bind fun r =>
 br (r.1.isFlat && true)
 ((C f_i_tokens_ty [AVal.lptr 0 0, AVal.v (CVal.int i64 6)]
 [PB.box [AVal.v r.1, AVal.v (CVal.bool false)]]).bind
 fun r =>
 r.2[0]?.bind fun y =>
 y[0]?.bind fun y_1 =>
 y[1]?.bind fun y =>
 br (CVal.isAggN 3 r.1)
 ((r.1.cell 0).bind fun c =>
 (r.1.cell 1).bind fun c_1 =>
 (r.1.cell 2).bind fun c_2 =>
 c_2.asSl.bind fun xs =>
 (y.asBool.bind fun b =>
 br b (some (true, ()))
 (y_1.asSl.bind fun xs_1 =>
 br (decide (0 < (↑xs_1.length : Int))) (some (true, ()))
 ((C f_i_TyOk [AVal.v (CVal.agg [c, c_1, CVal.sl xs])] []).bind fun r =>
 br (!scalar r.1) none (r.1.asBool.bind fun b => some (!b, ()))))).bind
 fun y =>
 br y.1
 (some
 (CVal.tup
 [CVal.agg [CVal.int i64 0, CVal.int i64 0, CVal.sl []],
 CVal.bool false],
 []))
 ((CVal.asInt i64 c).bind fun n =>
 (CVal.asInt i64 c_1).bind fun n_1 =>
 some
 (CVal.tup
 [CVal.agg [CVal.int i64 n, CVal.int i64 n_1, CVal.sl xs],
 CVal.bool true],
 [])))
 none)
 none
theorem go_i_ParseTy (a : List UInt8) (R : Ret) (h : nf_i_ParseTy CC LL a = some R) : CC f_i_ParseTy [AVal.v (CVal.str a)] [] = some R := fnW (by decide) rfl (Eq.trans (b := nf_i_ParseTy CC LL a) (by kernel_rfl) h)
noncomputable def nf_s_l1Split (C : CallT) (L : LoopT) (a : List UInt8) : Option Ret :=
 (L f_s_l1Split 0 lc_s_l1Split_0 [] k_s_l1Split_0
 ((a, (), 0, 0, ()), [], ())).bind
 fun r => loK r (fun r => some r) fun j p => br (j == 0) (some (CVal.sl p.snd.1, [])) none
theorem go_s_l1Split (a : List UInt8) (R : Ret) (h : nf_s_l1Split CC LL a = some R) : CC f_s_l1Split [AVal.v (CVal.str a)] [] = some R := fnW (by decide) rfl (Eq.trans (b := nf_s_l1Split CC LL a) (by kernel_rfl) h)
noncomputable def nf_i_TyOk (C : CallT) (L : LoopT) (a0 : Int) (a1 : Int) (a2 : List CVal) : Option Ret :=
 (C f_i_measure [AVal.v (CVal.agg [CVal.int i64 a0, CVal.int i64 a1, CVal.sl a2])] []).bind fun r =>
 r.1.asTup.bind fun y =>
 y[0]?.bind fun y =>
 r.1.asTup.bind fun y_1 =>
 y_1[1]?.bind fun y_2 =>
 r.1.asTup.bind fun y_3 =>
 y_3[2]?.bind fun y_4 =>
 (y_4.asBool.bind fun b =>
 br b
 ((CVal.asInt i64 y).bind fun n =>
 br (decide (n ≤ 6))
 ((CVal.asInt i64 y_2).bind fun n => some (decide (n ≤ 60), ()))
 (some (false, ())))
 (some (false, ()))).bind
 fun y => some (CVal.bool y.1, [])
theorem go_i_TyOk (a0 : Int) (a1 : Int) (a2 : List CVal) (R : Ret) (h : nf_i_TyOk CC LL a0 a1 a2 = some R) : CC f_i_TyOk [AVal.v (CVal.agg [CVal.int i64 a0, CVal.int i64 a1, CVal.sl a2])] [] = some R := fnW (by decide) rfl (Eq.trans (b := nf_i_TyOk CC LL a0 a1 a2) (by kernel_rfl) h)
noncomputable def nf_s_l1Next (C : CallT) (L : LoopT) (a0 : List CVal) (a1 : Int) (a2 : Bool) : Option Ret :=
 (br (decide ((↑a0.length : Int) ≤ a1)) (some (true, ())) (some (a2, ()))).bind fun y =>
 br y.1 (some (CVal.str [], [[CVal.sl a0, CVal.int i64 a1, CVal.bool true]]))
 (br (decide (0 ≤ i64.wrap (i64.wrap (a1 + 1) - 1)) && true)
 (a0[(i64.wrap (i64.wrap (a1 + 1) - 1)).toNat]?.bind fun y =>
 br (CVal.fits false 1 y)
 ((y.cell 0).bind fun c =>
 some (c, [[CVal.sl a0, CVal.int i64 (i64.wrap (a1 + 1)), CVal.bool a2]]))
 none)
 none)
theorem go_s_l1Next (a0 : List CVal) (a1 : Int) (a2 : Bool) (R : Ret) (h : nf_s_l1Next CC LL a0 a1 a2 = some R) : CC f_s_l1Next [AVal.lptr 0 0] [PB.box [AVal.v (CVal.sl a0), AVal.v (CVal.int i64 a1), AVal.v (CVal.bool a2)]] = some R := fnW (by decide) rfl (Eq.trans (b := nf_s_l1Next CC LL a0 a1 a2) (by kernel_rfl) h)
noncomputable def nf_slices_Index_string (C : CallT) (L : LoopT) (a : List CVal) (b : List UInt8) : Option Ret :=
 (L f_slices_Index_string 0 lc_slices_Index_string_0 [] k_slices_Index_string_0
 ((a, b, (↑a.length : Int), 0, ()), ())).bind
 fun r => loK r (fun r => some r) fun j p => br (j == 0) (some (CVal.int i64 (-1 : Int), [])) none
theorem go_slices_Index_string (a : List CVal) (b : List UInt8) (R : Ret) (h : nf_slices_Index_string CC LL a b = some R) : CC f_slices_Index_string [AVal.v (CVal.sl a), AVal.v (CVal.str b)] [] = some R := fnW (by decide) rfl (Eq.trans (b := nf_slices_Index_string CC LL a b) (by kernel_rfl) h)
noncomputable def nl_s_l1Split_0 (C : CallT) (L : LoopT) (x00 : List UInt8) (x02 : Int) (x03 : Int) (x1 : List CVal) : Option (LO k_s_l1Split_0.T) :=
 br (decide (x03 ≤ (↑x00.length : Int)))
 ((br (decide (x03 = (↑x00.length : Int))) (some (true, ()))
 (br (decide (0 ≤ x03))
 (x00[x03.toNat]?.bind fun y => some (decide ((↑y.toNat : Int) = 32), ())) none)).bind
 fun y =>
 br y.1
 (br (decide (0 ≤ x02) && decide (x02 ≤ x03) && decide (x03 ≤ (↑x00.length : Int)))
 (br (decide (x1.length + 1 ≤ 4294967296) && true && true)
 (L f_s_l1Split 0 lc_s_l1Split_0 [] k_s_l1Split_0
 ((x00, (), i64.wrap (x03 + 1), i64.wrap (x03 + 1), ()),
 x1 ++ [CVal.str (List.drop x02.toNat (List.take x03.toNat x00))], ()))
 none)
 none)
 (L f_s_l1Split 0 lc_s_l1Split_0 [] k_s_l1Split_0
 ((x00, (), x02, i64.wrap (x03 + 1), ()), x1, ())))
 (some (LO.out 0 ((x00, (), x02, x03, ()), x1, ())))
theorem gl_s_l1Split_0 (x00 : List UInt8) (x02 : Int) (x03 : Int) (x1 : List CVal) (R : LO k_s_l1Split_0.T) (h : nl_s_l1Split_0 CC LL x00 x02 x03 x1 = some R) : LL f_s_l1Split 0 lc_s_l1Split_0 [] k_s_l1Split_0 ((x00, (), x02, x03, ()), x1, ()) = some R := loopW (Eq.trans (b := nl_s_l1Split_0 CC LL x00 x02 x03 x1) (by kernel_rfl) h)
noncomputable def nl_l_markTyS_0 (C : CallT) (L : LoopT) (x01 : Int) (x02 : Int) (x1 : List CVal) : Option (LO k_l_markTyS_0.T) :=
 br (decide (x02 < (↑x1.length : Int)))
 (br (decide (0 ≤ x02) && true)
 (br (decide (x02.toNat < x1.length) && true)
 (x1[x02.toNat]?.bind fun y =>
 br (CVal.fits false 1 y)
 (br (decide (0 ≤ x02) && true)
 (br (decide (x02.toNat < (x1.set x02.toNat (CVal.int i64 x01)).length) && true)
 ((x1.set x02.toNat (CVal.int i64 x01))[x02.toNat]?.bind fun y =>
 br (y.isAgg && decide (2 ≤ y.cells.length))
 (br (decide (0 ≤ x02) && true)
 (br
 (decide
 (x02.toNat <
 ((x1.set x02.toNat (CVal.int i64 x01)).set x02.toNat
 (CVal.agg
 (splice y.cells 1
 [CVal.int i64 (i64.wrap (x01 + 1))]))).length) &&
 true)
 (((x1.set x02.toNat (CVal.int i64 x01)).set x02.toNat
 (CVal.agg
 (splice y.cells 1
 [CVal.int i64 (i64.wrap (x01 + 1))])))[x02.toNat]?.bind
 fun y_1 =>
 (y_1.cell 2).bind fun c =>
 c.asSl.bind fun xs =>
 ((x1.set x02.toNat (CVal.int i64 x01)).set x02.toNat
 (CVal.agg
 (splice y.cells 1
 [CVal.int i64 (i64.wrap (x01 + 1))])))[x02.toNat]?.bind
 fun y_2 =>
 (y_2.cell 2).bind fun c =>
 c.asSl.bind fun xs =>
 br (xs.all (CVal.fits true 3))
 ((C f_l_markTyS
 [AVal.lref 0 0,
 AVal.v
 (CVal.int i64
 (i64.wrap (i64.wrap (x01 + 1) + 1)))]
 [PB.arr (Md.mk true true 0) false 3 xs]).bind
 fun r =>
 r.2[0]?.bind fun y_3 =>
 (CVal.asInt i64 r.1).bind fun n =>
 L f_l_markTyS 0 lc_l_markTyS_0
 [PSh.arr (Md.mk true true 0) false 3] k_l_markTyS_0
 (((), n, i64.wrap (x02 + 1), ()),
 ((x1.set x02.toNat (CVal.int i64 x01)).set x02.toNat
 (CVal.agg
 (splice y.cells 1
 [CVal.int i64
 (i64.wrap (x01 + 1))]))).set
 x02.toNat (y_2.putCell 2 (CVal.sl y_3)),
 ()))
 none)
 none)
 none)
 none)
 none)
 none)
 (br (y.isAgg && decide (1 ≤ y.cells.length))
 (br (decide (0 ≤ x02) && true)
 (br
 (decide
 (x02.toNat <
 (x1.set x02.toNat (CVal.agg (CVal.int i64 x01 :: List.drop 1 y.cells))).length) &&
 true)
 ((x1.set x02.toNat
 (CVal.agg (CVal.int i64 x01 :: List.drop 1 y.cells)))[x02.toNat]?.bind
 fun y_1 =>
 br (y_1.isAgg && decide (2 ≤ y_1.cells.length))
 (br (decide (0 ≤ x02) && true)
 (br
 (decide
 (x02.toNat <
 ((x1.set x02.toNat
 (CVal.agg (CVal.int i64 x01 :: List.drop 1 y.cells))).set
 x02.toNat
 (CVal.agg
 (splice y_1.cells 1
 [CVal.int i64 (i64.wrap (x01 + 1))]))).length) &&
 true)
 (((x1.set x02.toNat (CVal.agg (CVal.int i64 x01 :: List.drop 1 y.cells))).set
 x02.toNat
 (CVal.agg
 (splice y_1.cells 1
 [CVal.int i64 (i64.wrap (x01 + 1))])))[x02.toNat]?.bind
 fun y_2 =>
 (y_2.cell 2).bind fun c =>
 c.asSl.bind fun xs =>
 ((x1.set x02.toNat
 (CVal.agg (CVal.int i64 x01 :: List.drop 1 y.cells))).set
 x02.toNat
 (CVal.agg
 (splice y_1.cells 1
 [CVal.int i64
 (i64.wrap (x01 + 1))])))[x02.toNat]?.bind
 fun y_3 =>
 (y_3.cell 2).bind fun c =>
 c.asSl.bind fun xs =>
 br (xs.all (CVal.fits true 3))
 ((C f_l_markTyS
 [AVal.lref 0 0,
 AVal.v
 (CVal.int i64
 (i64.wrap (i64.wrap (x01 + 1) + 1)))]
 [PB.arr (Md.mk true true 0) false 3 xs]).bind
 fun r =>
 r.2[0]?.bind fun y_4 =>
 (CVal.asInt i64 r.1).bind fun n =>
 L f_l_markTyS 0 lc_l_markTyS_0
 [PSh.arr (Md.mk true true 0) false 3] k_l_markTyS_0
 (((), n, i64.wrap (x02 + 1), ()),
 ((x1.set x02.toNat
 (CVal.agg
 (CVal.int i64 x01 ::
 List.drop 1 y.cells))).set
 x02.toNat
 (CVal.agg
 (splice y_1.cells 1
 [CVal.int i64
 (i64.wrap (x01 + 1))]))).set
 x02.toNat (y_3.putCell 2 (CVal.sl y_4)),
 ()))
 none)
 none)
 none)
 none)
 none)
 none)
 none))
 none)
 none)
 (some (LO.out 0 (((), x01, x02, ()), x1, ())))
theorem gl_l_markTyS_0 (x01 : Int) (x02 : Int) (x1 : List CVal) (R : LO k_l_markTyS_0.T) (h : nl_l_markTyS_0 CC LL x01 x02 x1 = some R) : LL f_l_markTyS 0 lc_l_markTyS_0 [PSh.arr (Md.mk true true 0) false 3] k_l_markTyS_0 (((), x01, x02, ()), x1, ()) = some R := loopW (Eq.trans (b := nl_l_markTyS_0 CC LL x01 x02 x1) (by kernel_rfl) h)
noncomputable def nl_i_measure_0 (C : CallT) (L : LoopT) (x00 : Int) (x01 : Int) (x02 : List CVal) (x03 : Int) (x04 : Int) : Option (LO k_i_measure_0.T) :=
 br (decide (x04 < x03))
 (br (decide (0 ≤ x04) && true)
 (x02[x04.toNat]?.bind fun y =>
 br (CVal.fits true 3 y)
 ((y.sub 0 3).bind fun y =>
 br (CVal.isAggN 3 y)
 ((y.cell 0).bind fun c =>
 (y.cell 1).bind fun c_1 =>
 (y.cell 2).bind fun c_2 =>
 (C f_i_measure [AVal.v (CVal.agg [c, c_1, c_2])] []).bind fun r =>
 r.1.asTup.bind fun y =>
 y[0]?.bind fun y =>
 r.1.asTup.bind fun y_1 =>
 y_1[1]?.bind fun y_2 =>
 r.1.asTup.bind fun y_3 =>
 y_3[2]?.bind fun y_4 =>
 y_4.asBool.bind fun b =>
 br (!b)
 (some
 (LO.ret
 (CVal.tup
 [CVal.int i64 0, CVal.int i64 0,
 CVal.bool false],
 [])))
 ((CVal.asInt i64 y).bind fun n =>
 (CVal.asInt i64 y_2).bind fun n_1 =>
 L f_i_measure 0 lc_i_measure_0 [] k_i_measure_0
 ((bif decide (x00 < n) then n else x00, i64.wrap (x01 + n_1), x02,
 x03, i64.wrap (x04 + 1), ()),
 ())))
 none)
 none)
 none)
 (some (LO.out 0 ((x00, x01, x02, x03, x04, ()), ())))
theorem gl_i_measure_0 (x00 : Int) (x01 : Int) (x02 : List CVal) (x03 : Int) (x04 : Int) (R : LO k_i_measure_0.T) (h : nl_i_measure_0 CC LL x00 x01 x02 x03 x04 = some R) : LL f_i_measure 0 lc_i_measure_0 [] k_i_measure_0 ((x00, x01, x02, x03, x04, ()), ()) = some R := loopW (Eq.trans (b := nl_i_measure_0 CC LL x00 x01 x02 x03 x04) (by kernel_rfl) h)
end Go.Proofs.YtegbnddjgifcdaaDoor.Abs
