/- What the functions come to in the abstract machine. -/
import Derived.Test.YtegbnddjgifcdaaDoorB1Ann
import Derived.KernelRfl
set_option linter.unusedVariables false
set_option maxRecDepth 100000
namespace Go.Proofs.YtegbnddjgifcdaaDoor.Abs
open Go Go.Proofs Go.IntKind
noncomputable def nf_l_eqTy (C : CallT) (L : LoopT) (a0 : Int) (a1 : Int) (a2 : List CVal) (b0 : Int) (b1 : Int) (b2 : List CVal) : Option Ret :=
 br (!decide (a0 = b0)) (some (CVal.bool false, []))
 (br (!decide (a1 = b1)) (some (CVal.bool false, []))
 ((C f_l_eqTyS [AVal.v (CVal.sl a2), AVal.v (CVal.sl b2)] []).bind fun r =>
 r.1.asBool.bind fun b => br (!b) (some (CVal.bool false, [])) (some (CVal.bool true, []))))
theorem go_l_eqTy (a0 : Int) (a1 : Int) (a2 : List CVal) (b0 : Int) (b1 : Int) (b2 : List CVal) (R : Ret) (h : nf_l_eqTy CC LL a0 a1 a2 b0 b1 b2 = some R) : CC f_l_eqTy [AVal.v (CVal.agg [CVal.int i64 a0, CVal.int i64 a1, CVal.sl a2]),
 AVal.v (CVal.agg [CVal.int i64 b0, CVal.int i64 b1, CVal.sl b2])] [] = some R := fnW (by decide) rfl (Eq.trans (b := nf_l_eqTy CC LL a0 a1 a2 b0 b1 b2) (by kernel_rfl) h)
noncomputable def nf_s_l1Read (C : CallT) (L : LoopT) (a0 : List CVal) (a1 : Int) (a2 : Bool) (b : Int) : Option Ret :=
 (C f_s_l1Next [AVal.lptr 0 0]
 [PB.box [AVal.v (CVal.sl a0), AVal.v (CVal.int i64 a1), AVal.v (CVal.bool a2)]]).bind
 fun r =>
 r.2[0]?.bind fun y =>
 y[0]?.bind fun y_1 =>
 y[1]?.bind fun y_2 =>
 y[2]?.bind fun y =>
 r.1.asStr.bind fun s =>
 br (decide (s = [(105 : UInt8)]))
 (br (decide (b = 0))
 (y_1.asSl.bind fun xs =>
 (CVal.asInt i64 y_2).bind fun n =>
 (L f_s_l1Read 1 lc_s_l1Read_1 [PSh.box [none, none, none]] k_s_l1Read_1
 (((), b, (), (), 0, ()), (xs, n, true, ()),
 (0, 0, (), ()), [],
 (1, 0, (), ()), [], ())).bind
 fun r =>
 loK r (fun r => some r) fun j p =>
 br (j == 1)
 (some
 (CVal.agg
 [CVal.int i64 p.snd.snd.snd.snd.fst.1,
 CVal.int i64 p.snd.snd.snd.snd.fst.snd.1, CVal.sl p.snd.snd.snd.snd.snd.1],
 [[CVal.sl p.snd.fst.1, CVal.int i64 p.snd.fst.snd.1,
 CVal.bool p.snd.fst.snd.snd.1]]))
 none)
 (y_1.asSl.bind fun xs =>
 (CVal.asInt i64 y_2).bind fun n =>
 y.asBool.bind fun b_1 =>
 (L f_s_l1Read 1 lc_s_l1Read_1 [PSh.box [none, none, none]] k_s_l1Read_1
 (((), b, (), (), 0, ()), (xs, n, b_1, ()),
 (0, 0, (), ()), [],
 (1, 0, (), ()), [], ())).bind
 fun r =>
 loK r (fun r => some r) fun j p =>
 br (j == 1)
 (some
 (CVal.agg
 [CVal.int i64 p.snd.snd.snd.snd.fst.1,
 CVal.int i64 p.snd.snd.snd.snd.fst.snd.1, CVal.sl p.snd.snd.snd.snd.snd.1],
 [[CVal.sl p.snd.fst.1, CVal.int i64 p.snd.fst.snd.1,
 CVal.bool p.snd.fst.snd.snd.1]]))
 none))
 (r.1.asStr.bind fun s =>
 br (decide (s = [(98 : UInt8)]))
 (br (decide (b = 0))
 (y_1.asSl.bind fun xs =>
 (CVal.asInt i64 y_2).bind fun n =>
 (L f_s_l1Read 1 lc_s_l1Read_1 [PSh.box [none, none, none]] k_s_l1Read_1
 (((), b, (), (), 0, ()),
 (xs, n, true, ()), (0, 0, (), ()), [],
 (2, 0, (), ()), [], ())).bind
 fun r =>
 loK r (fun r => some r) fun j p =>
 br (j == 1)
 (some
 (CVal.agg
 [CVal.int i64 p.snd.snd.snd.snd.fst.1,
 CVal.int i64 p.snd.snd.snd.snd.fst.snd.1,
 CVal.sl p.snd.snd.snd.snd.snd.1],
 [[CVal.sl p.snd.fst.1, CVal.int i64 p.snd.fst.snd.1,
 CVal.bool p.snd.fst.snd.snd.1]]))
 none)
 (y_1.asSl.bind fun xs =>
 (CVal.asInt i64 y_2).bind fun n =>
 y.asBool.bind fun b_1 =>
 (L f_s_l1Read 1 lc_s_l1Read_1 [PSh.box [none, none, none]] k_s_l1Read_1
 (((), b, (), (), 0, ()),
 (xs, n, b_1, ()), (0, 0, (), ()), [],
 (2, 0, (), ()), [], ())).bind
 fun r =>
 loK r (fun r => some r) fun j p =>
 br (j == 1)
 (some
 (CVal.agg
 [CVal.int i64 p.snd.snd.snd.snd.fst.1,
 CVal.int i64 p.snd.snd.snd.snd.fst.snd.1,
 CVal.sl p.snd.snd.snd.snd.snd.1],
 [[CVal.sl p.snd.fst.1, CVal.int i64 p.snd.fst.snd.1,
 CVal.bool p.snd.fst.snd.snd.1]]))
 none))
 (r.1.asStr.bind fun s =>
 br (decide (s = [(118 : UInt8), (48 : UInt8)]))
 (r.1.asStr.bind fun s =>
 s[1]?.bind fun y_3 =>
 br (decide (b = 0))
 (y_1.asSl.bind fun xs =>
 (CVal.asInt i64 y_2).bind fun n =>
 (L f_s_l1Read 1 lc_s_l1Read_1 [PSh.box [none, none, none]] k_s_l1Read_1
 (((), b, (), (), 0, ()),
 (xs, n, true, ()), (0, 0, (), ()), [],
 (3,
 i64.wrap (IntKind.u8.wrap ((↑y_3.toNat : Int) - 48)),
 (), ()),
 [], ())).bind
 fun r =>
 loK r (fun r => some r) fun j p =>
 br (j == 1)
 (some
 (CVal.agg
 [CVal.int i64 p.snd.snd.snd.snd.fst.1,
 CVal.int i64 p.snd.snd.snd.snd.fst.snd.1,
 CVal.sl p.snd.snd.snd.snd.snd.1],
 [[CVal.sl p.snd.fst.1, CVal.int i64 p.snd.fst.snd.1,
 CVal.bool p.snd.fst.snd.snd.1]]))
 none)
 (y_1.asSl.bind fun xs =>
 (CVal.asInt i64 y_2).bind fun n =>
 y.asBool.bind fun b_1 =>
 (L f_s_l1Read 1 lc_s_l1Read_1 [PSh.box [none, none, none]] k_s_l1Read_1
 (((), b, (), (), 0, ()),
 (xs, n, b_1, ()), (0, 0, (), ()), [],
 (3,
 i64.wrap (IntKind.u8.wrap ((↑y_3.toNat : Int) - 48)),
 (), ()),
 [], ())).bind
 fun r =>
 loK r (fun r => some r) fun j p =>
 br (j == 1)
 (some
 (CVal.agg
 [CVal.int i64 p.snd.snd.snd.snd.fst.1,
 CVal.int i64 p.snd.snd.snd.snd.fst.snd.1,
 CVal.sl p.snd.snd.snd.snd.snd.1],
 [[CVal.sl p.snd.fst.1, CVal.int i64 p.snd.fst.snd.1,
 CVal.bool p.snd.fst.snd.snd.1]]))
 none))
 (r.1.asStr.bind fun s =>
 br (decide (s = [(118 : UInt8), (49 : UInt8)]))
 (r.1.asStr.bind fun s =>
 s[1]?.bind fun y_3 =>
 br (decide (b = 0))
 (y_1.asSl.bind fun xs =>
 (CVal.asInt i64 y_2).bind fun n =>
 (L f_s_l1Read 1 lc_s_l1Read_1 [PSh.box [none, none, none]] k_s_l1Read_1
 (((), b, (), (), 0, ()),
 (xs, n, true, ()), (0, 0, (), ()),
 [],
 (3,
 i64.wrap (IntKind.u8.wrap ((↑y_3.toNat : Int) - 48)),
 (), ()),
 [], ())).bind
 fun r =>
 loK r (fun r => some r) fun j p =>
 br (j == 1)
 (some
 (CVal.agg
 [CVal.int i64 p.snd.snd.snd.snd.fst.1,
 CVal.int i64 p.snd.snd.snd.snd.fst.snd.1,
 CVal.sl p.snd.snd.snd.snd.snd.1],
 [[CVal.sl p.snd.fst.1, CVal.int i64 p.snd.fst.snd.1,
 CVal.bool p.snd.fst.snd.snd.1]]))
 none)
 (y_1.asSl.bind fun xs =>
 (CVal.asInt i64 y_2).bind fun n =>
 y.asBool.bind fun b_1 =>
 (L f_s_l1Read 1 lc_s_l1Read_1 [PSh.box [none, none, none]] k_s_l1Read_1
 (((), b, (), (), 0, ()),
 (xs, n, b_1, ()), (0, 0, (), ()),
 [],
 (3,
 i64.wrap (IntKind.u8.wrap ((↑y_3.toNat : Int) - 48)),
 (), ()),
 [], ())).bind
 fun r =>
 loK r (fun r => some r) fun j p =>
 br (j == 1)
 (some
 (CVal.agg
 [CVal.int i64 p.snd.snd.snd.snd.fst.1,
 CVal.int i64 p.snd.snd.snd.snd.fst.snd.1,
 CVal.sl p.snd.snd.snd.snd.snd.1],
 [[CVal.sl p.snd.fst.1, CVal.int i64 p.snd.fst.snd.1,
 CVal.bool p.snd.fst.snd.snd.1]]))
 none))
 (r.1.asStr.bind fun s =>
 br (decide (s = [(102 : UInt8)]))
 (br (decide (b = 0))
 (y_1.asSl.bind fun xs =>
 (CVal.asInt i64 y_2).bind fun n =>
 (L f_s_l1Read 1 lc_s_l1Read_1 [PSh.box [none, none, none]] k_s_l1Read_1
 (((), b, (), (), 0, ()),
 (xs, n, true, ()), (0, 0, (), ()),
 [], (4, 0, (), ()), [], ())).bind
 fun r =>
 loK r (fun r => some r) fun j p =>
 br (j == 1)
 (some
 (CVal.agg
 [CVal.int i64 p.snd.snd.snd.snd.fst.1,
 CVal.int i64 p.snd.snd.snd.snd.fst.snd.1,
 CVal.sl p.snd.snd.snd.snd.snd.1],
 [[CVal.sl p.snd.fst.1, CVal.int i64 p.snd.fst.snd.1,
 CVal.bool p.snd.fst.snd.snd.1]]))
 none)
 (y_1.asSl.bind fun xs =>
 (CVal.asInt i64 y_2).bind fun n =>
 y.asBool.bind fun b_1 =>
 (L f_s_l1Read 1 lc_s_l1Read_1 [PSh.box [none, none, none]] k_s_l1Read_1
 (((), b, (), (), 0, ()),
 (xs, n, b_1, ()), (0, 0, (), ()),
 [], (4, 0, (), ()), [], ())).bind
 fun r =>
 loK r (fun r => some r) fun j p =>
 br (j == 1)
 (some
 (CVal.agg
 [CVal.int i64 p.snd.snd.snd.snd.fst.1,
 CVal.int i64 p.snd.snd.snd.snd.fst.snd.1,
 CVal.sl p.snd.snd.snd.snd.snd.1],
 [[CVal.sl p.snd.fst.1, CVal.int i64 p.snd.fst.snd.1,
 CVal.bool p.snd.fst.snd.snd.1]]))
 none))
 (r.1.asStr.bind fun s =>
 br (decide (s = [(112 : UInt8)]))
 (br (decide (b = 0))
 (y_1.asSl.bind fun xs =>
 (CVal.asInt i64 y_2).bind fun n =>
 (L f_s_l1Read 1 lc_s_l1Read_1 [PSh.box [none, none, none]] k_s_l1Read_1
 (((), b, (), (), 0, ()),
 (xs, n, true, ()),
 (0, 0, (), ()), [],
 (5, 0, (), ()), [], ())).bind
 fun r =>
 loK r (fun r => some r) fun j p =>
 br (j == 1)
 (some
 (CVal.agg
 [CVal.int i64 p.snd.snd.snd.snd.fst.1,
 CVal.int i64 p.snd.snd.snd.snd.fst.snd.1,
 CVal.sl p.snd.snd.snd.snd.snd.1],
 [[CVal.sl p.snd.fst.1, CVal.int i64 p.snd.fst.snd.1,
 CVal.bool p.snd.fst.snd.snd.1]]))
 none)
 (y_1.asSl.bind fun xs =>
 (CVal.asInt i64 y_2).bind fun n =>
 y.asBool.bind fun b_1 =>
 (L f_s_l1Read 1 lc_s_l1Read_1 [PSh.box [none, none, none]]
 k_s_l1Read_1
 (((), b, (), (), 0, ()),
 (xs, n, b_1, ()),
 (0, 0, (), ()), [],
 (5, 0, (), ()), [], ())).bind
 fun r =>
 loK r (fun r => some r) fun j p =>
 br (j == 1)
 (some
 (CVal.agg
 [CVal.int i64 p.snd.snd.snd.snd.fst.1,
 CVal.int i64 p.snd.snd.snd.snd.fst.snd.1,
 CVal.sl p.snd.snd.snd.snd.snd.1],
 [[CVal.sl p.snd.fst.1, CVal.int i64 p.snd.fst.snd.1,
 CVal.bool p.snd.fst.snd.snd.1]]))
 none))
 (r.1.asStr.bind fun s =>
 br (decide (s = [(108 : UInt8)]))
 (br (decide (b = 0))
 (y_1.asSl.bind fun xs =>
 (CVal.asInt i64 y_2).bind fun n =>
 (L f_s_l1Read 1 lc_s_l1Read_1 [PSh.box [none, none, none]]
 k_s_l1Read_1
 (((), b, (), (), 0, ()),
 (xs, n, true, ()),
 (0, 0, (), ()), [],
 (6, 0, (), ()), [],
 ())).bind
 fun r =>
 loK r (fun r => some r) fun j p =>
 br (j == 1)
 (some
 (CVal.agg
 [CVal.int i64 p.snd.snd.snd.snd.fst.1,
 CVal.int i64 p.snd.snd.snd.snd.fst.snd.1,
 CVal.sl p.snd.snd.snd.snd.snd.1],
 [[CVal.sl p.snd.fst.1, CVal.int i64 p.snd.fst.snd.1,
 CVal.bool p.snd.fst.snd.snd.1]]))
 none)
 (y_1.asSl.bind fun xs =>
 (CVal.asInt i64 y_2).bind fun n =>
 y.asBool.bind fun b_1 =>
 (L f_s_l1Read 1 lc_s_l1Read_1 [PSh.box [none, none, none]]
 k_s_l1Read_1
 (((), b, (), (), 0, ()),
 (xs, n, b_1, ()),
 (0, 0, (), ()), [],
 (6, 0, (), ()), [],
 ())).bind
 fun r =>
 loK r (fun r => some r) fun j p =>
 br (j == 1)
 (some
 (CVal.agg
 [CVal.int i64 p.snd.snd.snd.snd.fst.1,
 CVal.int i64 p.snd.snd.snd.snd.fst.snd.1,
 CVal.sl p.snd.snd.snd.snd.snd.1],
 [[CVal.sl p.snd.fst.1, CVal.int i64 p.snd.fst.snd.1,
 CVal.bool p.snd.fst.snd.snd.1]]))
 none))
 (y_1.asSl.bind fun xs =>
 (CVal.asInt i64 y_2).bind fun n =>
 (L f_s_l1Read 1 lc_s_l1Read_1 [PSh.box [none, none, none]]
 k_s_l1Read_1
 (((), b, (), (), 0, ()),
 (xs, n, true, ()),
 (0, 0, (), ()), [],
 (0, 0, (), ()), [], ())).bind
 fun r =>
 loK r (fun r => some r) fun j p =>
 br (j == 1)
 (some
 (CVal.agg
 [CVal.int i64 p.snd.snd.snd.snd.fst.1,
 CVal.int i64 p.snd.snd.snd.snd.fst.snd.1,
 CVal.sl p.snd.snd.snd.snd.snd.1],
 [[CVal.sl p.snd.fst.1, CVal.int i64 p.snd.fst.snd.1,
 CVal.bool p.snd.fst.snd.snd.1]]))
 none)))))))
theorem go_s_l1Read (a0 : List CVal) (a1 : Int) (a2 : Bool) (b : Int) (R : Ret) (h : nf_s_l1Read CC LL a0 a1 a2 b = some R) : CC f_s_l1Read [AVal.lptr 0 0, AVal.v (CVal.int i64 b)] [PB.box [AVal.v (CVal.sl a0), AVal.v (CVal.int i64 a1), AVal.v (CVal.bool a2)]] = some R := fnW (by decide) rfl (Eq.trans (b := nf_s_l1Read CC LL a0 a1 a2 b) (by kernel_rfl) h)
noncomputable def nf_l_eqTyS (C : CallT) (L : LoopT) (a : List CVal) (b : List CVal) : Option Ret :=
 br (!decide ((↑a.length : Int) = (↑b.length : Int))) (some (CVal.bool false, []))
 ((L f_l_eqTyS 0 lc_l_eqTyS_0 [] k_l_eqTyS_0 ((a, b, 0, ()), ())).bind fun r =>
 loK r (fun r => some r) fun j p => br (j == 0) (some (CVal.bool true, [])) none)
theorem go_l_eqTyS (a : List CVal) (b : List CVal) (R : Ret) (h : nf_l_eqTyS CC LL a b = some R) : CC f_l_eqTyS [AVal.v (CVal.sl a), AVal.v (CVal.sl b)] [] = some R := fnW (by decide) rfl (Eq.trans (b := nf_l_eqTyS CC LL a b) (by kernel_rfl) h)
noncomputable def nf_s_l1Args (C : CallT) (L : LoopT) (a : Int) : Option Ret :=
 br (decide (a = 1)) (some (CVal.int i64 0, []))
 (br (decide (a = 2)) (some (CVal.int i64 0, []))
 (br (decide (a = 3)) (some (CVal.int i64 0, []))
 (br (decide (a = 6)) (some (CVal.int i64 1, []))
 (br (decide (a = 4)) (some (CVal.int i64 2, []))
 (br (decide (a = 5)) (some (CVal.int i64 2, []))
 (some (CVal.int i64 (-1 : Int), [])))))))
theorem go_s_l1Args (a : Int) (R : Ret) (h : nf_s_l1Args CC LL a = some R) : CC f_s_l1Args [AVal.v (CVal.int i64 a)] [] = some R := fnW (by decide) rfl (Eq.trans (b := nf_s_l1Args CC LL a) (by kernel_rfl) h)
noncomputable def nf_i_tyParts (C : CallT) (L : LoopT) (a : Int) : Option Ret :=
 br (decide (a = 1)) (some (CVal.int i64 0, []))
 (br (decide (a = 2)) (some (CVal.int i64 0, []))
 (br (decide (a = 3)) (some (CVal.int i64 0, []))
 (br (decide (a = 6)) (some (CVal.int i64 1, []))
 (br (decide (a = 4)) (some (CVal.int i64 2, []))
 (br (decide (a = 5)) (some (CVal.int i64 2, []))
 (some (CVal.int i64 (-1 : Int), [])))))))
theorem go_i_tyParts (a : Int) (R : Ret) (h : nf_i_tyParts CC LL a = some R) : CC f_i_tyParts [AVal.v (CVal.int i64 a)] [] = some R := fnW (by decide) rfl (Eq.trans (b := nf_i_tyParts CC LL a) (by kernel_rfl) h)
noncomputable def nl_s_l1Read_1 (C : CallT) (L : LoopT) (x01 : Int) (x04 : Int) (x10 : List CVal) (x11 : Int) (x12 : Bool) (x20 : Int) (x21 : Int) (x3 : List CVal) (x40 : Int) (x41 : Int) (x5 : List CVal) : Option (LO k_s_l1Read_1.T) :=
 ((C f_s_l1Args [AVal.v (CVal.int i64 x40)] []).bind fun r =>
 (CVal.asInt i64 r.1).bind fun n =>
 br (decide (x04 < n)) (some (!x12, ())) (some (false, ()))).bind
 fun y =>
 br y.1
 ((C f_s_l1Read [AVal.lptr 0 0, AVal.v (CVal.int i64 (i64.wrap (x01 - 1)))]
 [PB.box [AVal.v (CVal.sl x10), AVal.v (CVal.int i64 x11), AVal.v (CVal.bool x12)]]).bind
 fun r =>
 r.2[0]?.bind fun y =>
 y[0]?.bind fun y_1 =>
 y[1]?.bind fun y_2 =>
 y[2]?.bind fun y =>
 br (CVal.isAggN 3 r.1)
 ((r.1.cell 0).bind fun c =>
 (r.1.cell 1).bind fun c_1 =>
 (r.1.cell 2).bind fun c_2 =>
 c_2.asSl.bind fun xs =>
 (CVal.asInt i64 c).bind fun n =>
 (CVal.asInt i64 c_1).bind fun n_1 =>
 br (decide (x5.length + 1 ≤ 4294967296) && true && true)
 (y_1.asSl.bind fun xs_1 =>
 (CVal.asInt i64 y_2).bind fun n_2 =>
 y.asBool.bind fun b =>
 L f_s_l1Read 1 lc_s_l1Read_1 [PSh.box [none, none, none]] k_s_l1Read_1
 (((), x01, (), (), i64.wrap (x04 + 1),
 ()),
 (xs_1, n_2, b, ()), (x20, x21, (), ()), x3,
 (x40, x41, (), ()),
 x5 ++ [CVal.agg [CVal.int i64 n, CVal.int i64 n_1, CVal.sl xs]],
 ()))
 none)
 none)
 (some
 (LO.out 1
 (((), x01, (), (), x04, ()), (x10, x11, x12, ()),
 (x20, x21, (), ()), x3, (x40, x41, (), ()), x5, ())))
theorem gl_s_l1Read_1 (x01 : Int) (x04 : Int) (x10 : List CVal) (x11 : Int) (x12 : Bool) (x20 : Int) (x21 : Int) (x3 : List CVal) (x40 : Int) (x41 : Int) (x5 : List CVal) (R : LO k_s_l1Read_1.T) (h : nl_s_l1Read_1 CC LL x01 x04 x10 x11 x12 x20 x21 x3 x40 x41 x5 = some R) : LL f_s_l1Read 1 lc_s_l1Read_1 [PSh.box [none, none, none]] k_s_l1Read_1 (((), x01, (), (), x04, ()), (x10, x11, x12, ()), (x20, x21, (), ()), x3, (x40, x41, (), ()), x5, ()) = some R := loopW (Eq.trans (b := nl_s_l1Read_1 CC LL x01 x04 x10 x11 x12 x20 x21 x3 x40 x41 x5) (by kernel_rfl) h)
noncomputable def nl_l_heldTyS_0 (C : CallT) (L : LoopT) (x00 : List CVal) (x01 : Int) (x02 : Int) : Option (LO k_l_heldTyS_0.T) :=
 br (decide (x02 < (↑x00.length : Int)))
 (br (decide (0 ≤ x02) && true)
 (x00[x02.toNat]?.bind fun y =>
 br (CVal.fits true 3 y)
 ((y.cell 0).bind fun c =>
 (CVal.asInt i64 c).bind fun n =>
 br (!decide (n = x01)) (some (LO.ret (CVal.int i64 (-1 : Int), [])))
 (br (decide (0 ≤ x02) && true)
 (x00[x02.toNat]?.bind fun y =>
 br (CVal.fits true 3 y)
 ((y.cell 1).bind fun c =>
 (CVal.asInt i64 c).bind fun n =>
 br (!decide (n = i64.wrap (x01 + 1)))
 (some (LO.ret (CVal.int i64 (-1 : Int), [])))
 (br (decide (0 ≤ x02) && true)
 (x00[x02.toNat]?.bind fun y =>
 br (CVal.fits true 3 y)
 ((y.cell 2).bind fun c =>
 (C f_l_heldTyS
 [AVal.v c,
 AVal.v
 (CVal.int i64
 (i64.wrap (i64.wrap (x01 + 1) + 1)))]
 []).bind
 fun r =>
 (CVal.asInt i64 r.1).bind fun n =>
 br (decide (n < 0)) (some (LO.ret (CVal.int i64 (-1 : Int), [])))
 ((CVal.asInt i64 r.1).bind fun n =>
 L f_l_heldTyS 0 lc_l_heldTyS_0 [] k_l_heldTyS_0
 ((x00, n, i64.wrap (x02 + 1), ()), ())))
 none)
 none))
 none)
 none))
 none)
 none)
 (some (LO.out 0 ((x00, x01, x02, ()), ())))
theorem gl_l_heldTyS_0 (x00 : List CVal) (x01 : Int) (x02 : Int) (R : LO k_l_heldTyS_0.T) (h : nl_l_heldTyS_0 CC LL x00 x01 x02 = some R) : LL f_l_heldTyS 0 lc_l_heldTyS_0 [] k_l_heldTyS_0 ((x00, x01, x02, ()), ()) = some R := loopW (Eq.trans (b := nl_l_heldTyS_0 CC LL x00 x01 x02) (by kernel_rfl) h)
end Go.Proofs.YtegbnddjgifcdaaDoor.Abs
