/- What the functions come to in the abstract machine. -/
import Derived.Test.YtmjjaoffeajcbaaF1Ann
import Derived.KernelRfl
set_option linter.unusedVariables false
set_option maxRecDepth 100000
namespace Go.Proofs.Ytmjjaoffeajcbaa.Abs
open Go Go.Proofs Go.IntKind
noncomputable def nf_l_big (C : CallT) (L : LoopT) (a : List CVal) : Option Ret :=
 some (CVal.bool (decide (1048576 < (↑a.length : Int))), [])
theorem go_l_big (a : List CVal) (R : Ret) (h : nf_l_big CC LL a = some R) : CC f_l_big [AVal.v (CVal.sl a)] [] = some R := fnW (by decide) rfl (Eq.trans (b := nf_l_big CC LL a) (by kernel_rfl) h)
noncomputable def nf_i_VarsOf (C : CallT) (L : LoopT) (a0 : Int) (a1 : Int) (a2 : List CVal) : Option Ret :=
 (C f_i_TyOk [AVal.v (CVal.agg [CVal.int i64 a0, CVal.int i64 a1, CVal.sl a2])] []).bind fun r =>
 r.1.asBool.bind fun b =>
 br (!b) (some (CVal.int i64 0, []))
 ((C f_i_varsOf [AVal.v (CVal.agg [CVal.int i64 a0, CVal.int i64 a1, CVal.sl a2])] []).bind
 fun r => some (r.1, []))
theorem go_i_VarsOf (a0 : Int) (a1 : Int) (a2 : List CVal) (R : Ret) (h : nf_i_VarsOf CC LL a0 a1 a2 = some R) : CC f_i_VarsOf [AVal.v (CVal.agg [CVal.int i64 a0, CVal.int i64 a1, CVal.sl a2])] [] = some R := fnW (by decide) rfl (Eq.trans (b := nf_i_VarsOf CC LL a0 a1 a2) (by kernel_rfl) h)
noncomputable def nf_s_l1New (C : CallT) (L : LoopT) (a : List CVal) : Option Ret :=
 (L f_s_l1New 0 lc_s_l1New_0 [] k_s_l1New_0
 ((a, i64.wrap (122122 + (↑a.length : Int)), 0, ()), ())).bind
 fun r =>
 loK r (fun r => some r) fun j p =>
 br (j == 0)
 (some
 ((CVal.agg [CVal.sl p.fst.1, CVal.int i64 0, CVal.int i64 p.fst.snd.1]).fp 0,
 []))
 none
theorem go_s_l1New (a : List CVal) (R : Ret) (h : nf_s_l1New CC LL a = some R) : CC f_s_l1New [AVal.v (CVal.sl a)] [] = some R := fnW (by decide) rfl (Eq.trans (b := nf_s_l1New CC LL a) (by kernel_rfl) h)
noncomputable def nf_i_subst (C : CallT) (L : LoopT) (a0 : Int) (a1 : Int) (a2 : List CVal) (b : List CVal) : Option Ret :=
 br (decide (a0 = 3))
 (br (decide (0 ≤ a1) && true)
 (b[a1.toNat]?.bind fun y =>
 br (CVal.fits true 3 y)
 ((y.sub 0 3).bind fun y =>
 (C f_i_cloneTy [AVal.v y] []).bind fun r =>
 br (CVal.isAggN 3 r.1)
 ((r.1.cell 0).bind fun c =>
 (r.1.cell 1).bind fun c_1 =>
 (r.1.cell 2).bind fun c_2 => some (CVal.agg [c, c_1, c_2], []))
 none)
 none)
 none)
 ((L f_i_subst 0 lc_i_subst_0 [] k_i_subst_0
 ((b, (), (), a2, (↑a2.length : Int), 0, ()),
 (0, 0, (), ()), [], (a0, a1, (), ()), [], ())).bind
 fun r =>
 loK r (fun r => some r) fun j p =>
 br (j == 0)
 (some
 (CVal.agg
 [CVal.int i64 p.snd.snd.snd.fst.1, CVal.int i64 p.snd.snd.snd.fst.snd.1,
 CVal.sl p.snd.snd.snd.snd.1],
 []))
 none)
theorem go_i_subst (a0 : Int) (a1 : Int) (a2 : List CVal) (b : List CVal) (R : Ret) (h : nf_i_subst CC LL a0 a1 a2 b = some R) : CC f_i_subst [AVal.v (CVal.agg [CVal.int i64 a0, CVal.int i64 a1, CVal.sl a2]), AVal.v (CVal.sl b)] [] = some R := fnW (by decide) rfl (Eq.trans (b := nf_i_subst CC LL a0 a1 a2 b) (by kernel_rfl) h)
noncomputable def nf_s_l1Put (C : CallT) (L : LoopT) (a0 : Int) (a1 : Int) (a2 : List CVal) (b : List CVal) : Option Ret :=
 (br (decide (a0 = 3)) (some (decide (a1 < (↑b.length : Int)), ())) (some (false, ()))).bind
 fun y =>
 br y.1
 (br (decide (0 ≤ a1) && true)
 (b[a1.toNat]?.bind fun y =>
 br (CVal.fits true 3 y)
 ((y.sub 0 3).bind fun y =>
 (C f_s_l1Copy [AVal.v y] []).bind fun r =>
 br (CVal.isAggN 3 r.1)
 ((r.1.cell 0).bind fun c =>
 (r.1.cell 1).bind fun c_1 =>
 (r.1.cell 2).bind fun c_2 =>
 c_2.asSl.bind fun xs => some (CVal.agg [c, c_1, CVal.sl xs], []))
 none)
 none)
 none)
 ((L f_s_l1Put 0 lc_s_l1Put_0 [] k_s_l1Put_0
 ((b, (), (), (), 0, ()), (a0, a1, a2, ()),
 (0, 0, (), ()), [], (a0, a1, (), ()), [], ())).bind
 fun r =>
 loK r (fun r => some r) fun j p =>
 br (j == 0)
 (some
 (CVal.agg
 [CVal.int i64 p.snd.snd.snd.snd.fst.1, CVal.int i64 p.snd.snd.snd.snd.fst.snd.1,
 CVal.sl p.snd.snd.snd.snd.snd.1],
 []))
 none)
theorem go_s_l1Put (a0 : Int) (a1 : Int) (a2 : List CVal) (b : List CVal) (R : Ret) (h : nf_s_l1Put CC LL a0 a1 a2 b = some R) : CC f_s_l1Put [AVal.v (CVal.agg [CVal.int i64 a0, CVal.int i64 a1, CVal.sl a2]), AVal.v (CVal.sl b)] [] = some R := fnW (by decide) rfl (Eq.trans (b := nf_s_l1Put CC LL a0 a1 a2 b) (by kernel_rfl) h)
noncomputable def nf_i_measure (C : CallT) (L : LoopT) (a0 : Int) (a1 : Int) (a2 : List CVal) : Option Ret :=
 ((C f_i_tyParts [AVal.v (CVal.int i64 a0)] []).bind fun r =>
 (CVal.asInt i64 r.1).bind fun n =>
 br (!decide ((↑a2.length : Int) = n)) (some (true, ()))
 (br (!decide (a1 = 0))
 (br (!decide (a0 = 3)) (some (true, ())) (some (!decide (a1 = 1), ())))
 (some (false, ())))).bind
 fun y =>
 br y.1 (some (CVal.tup [CVal.int i64 0, CVal.int i64 0, CVal.bool false], []))
 ((L f_i_measure 0 lc_i_measure_0 [] k_i_measure_0
 ((0, 1, a2, (↑a2.length : Int), 0, ()), ())).bind
 fun r =>
 loK r (fun r => some r) fun j p =>
 br (j == 0)
 (some
 (CVal.tup
 [CVal.int i64 (i64.wrap (p.fst.1 + 1)), CVal.int i64 p.fst.snd.1,
 CVal.bool true],
 []))
 none)
theorem go_i_measure (a0 : Int) (a1 : Int) (a2 : List CVal) (R : Ret) (h : nf_i_measure CC LL a0 a1 a2 = some R) : CC f_i_measure [AVal.v (CVal.agg [CVal.int i64 a0, CVal.int i64 a1, CVal.sl a2])] [] = some R := fnW (by decide) rfl (Eq.trans (b := nf_i_measure CC LL a0 a1 a2) (by kernel_rfl) h)
noncomputable def nf_s_l1Bend (C : CallT) (L : LoopT) (a0 : List CVal) (a1 : Int) (a2 : Int) (b0 : Int) (b1 : Int) (b2 : List CVal) : Option Ret :=
 (C f_s_l1Copy [AVal.v (CVal.agg [CVal.int i64 b0, CVal.int i64 b1, CVal.sl b2])] []).bind fun r =>
 br (CVal.isAggN 3 r.1)
 ((r.1.cell 0).bind fun c =>
 (r.1.cell 1).bind fun c_1 =>
 (r.1.cell 2).bind fun c_2 =>
 c_2.asSl.bind fun xs =>
 br (decide (0 < (↑xs.length : Int)))
 ((C f_s_l1Once [AVal.lptr 0 0, AVal.v (CVal.int i64 2)]
 [PB.box
 [AVal.v (CVal.sl a0), AVal.v (CVal.int i64 a1), AVal.v (CVal.int i64 a2)]]).bind
 fun r =>
 r.2[0]?.bind fun y =>
 y[0]?.bind fun y_1 =>
 y[1]?.bind fun y_2 =>
 y[2]?.bind fun y =>
 (bif true then r.1 else CVal.bool false).asBool.bind fun b =>
 br b
 ((C f_s_l1Below
 [AVal.lptr 0 0, AVal.v (CVal.int i64 (↑xs.length : Int))]
 [PB.box [AVal.v y_1, AVal.v y_2, AVal.v y]]).bind
 fun r =>
 r.2[0]?.bind fun y =>
 y[0]?.bind fun y_3 =>
 y[1]?.bind fun y_4 =>
 y[2]?.bind fun y =>
 r.1.asIdx.bind fun y_5 =>
 br (decide (0 ≤ y_5) && true)
 (br (decide (y_5.toNat < xs.length) && true)
 (xs[y_5.toNat]?.bind fun y_6 =>
 (y_6.sub 0 3).bind fun y_7 =>
 (C f_s_l1Bend [AVal.lptr 0 0, AVal.v y_7]
 [PB.box [AVal.v y_3, AVal.v y_4, AVal.v y]]).bind
 fun r_1 =>
 r_1.2[0]?.bind fun y =>
 y[0]?.bind fun y_8 =>
 y[1]?.bind fun y_9 =>
 y[2]?.bind fun y =>
 r.1.asIdx.bind fun y_10 =>
 br (decide (0 ≤ y_10) && true)
 (br (decide (y_10.toNat < xs.length) && true)
 (xs[y_10.toNat]?.bind fun y_11 =>
 br (CVal.fits true 3 r_1.1)
 (br (CVal.fits true 3 y_11)
 (some
 (CVal.agg
 [c, c_1, CVal.sl (xs.set y_10.toNat r_1.1)],
 [[y_8, y_9, y]]))
 (br
 (y_11.isAgg &&
 decide
 (0 + r_1.1.cells.length ≤
 y_11.cells.length))
 (some
 (CVal.agg
 [c, c_1,
 CVal.sl
 (xs.set y_10.toNat
 (CVal.agg
 (splice y_11.cells 0
 r_1.1.cells)))],
 [[y_8, y_9, y]]))
 none))
 none)
 none)
 none)
 none)
 none)
 ((C f_s_l1Below [AVal.lptr 0 0, AVal.v (CVal.int i64 5)]
 [PB.box [AVal.v y_1, AVal.v y_2, AVal.v y]]).bind
 fun r =>
 r.2[0]?.bind fun y =>
 y[0]?.bind fun y_3 =>
 y[1]?.bind fun y_4 =>
 y[2]?.bind fun y =>
 (CVal.asInt i64 r.1).bind fun n =>
 br (decide (n = 0))
 ((C f_s_l1Below
 [AVal.lptr 0 0, AVal.v (CVal.int i64 8)]
 [PB.box [AVal.v y_3, AVal.v y_4, AVal.v y]]).bind
 fun r =>
 r.2[0]?.bind fun y =>
 y[0]?.bind fun y_5 =>
 y[1]?.bind fun y_6 =>
 y[2]?.bind fun y =>
 br (r.1.isFlat && true)
 (some (CVal.agg [r.1, c_1, CVal.sl xs], [[y_5, y_6, y]])) none)
 ((CVal.asInt i64 r.1).bind fun n =>
 br (decide (n = 1))
 ((C f_s_l1Int
 [AVal.lptr 0 0,
 AVal.v
 (CVal.sl
 [CVal.int i64 0,
 CVal.int i64 1,
 CVal.int i64 2,
 CVal.int i64 (-1 : Int)])]
 [PB.box [AVal.v y_3, AVal.v y_4, AVal.v y]]).bind
 fun r =>
 r.2[0]?.bind fun y =>
 y[0]?.bind fun y_5 =>
 y[1]?.bind fun y_6 =>
 y[2]?.bind fun y =>
 br (r.1.isFlat && true)
 (some (CVal.agg [c, r.1, CVal.sl xs], [[y_5, y_6, y]])) none)
 ((CVal.asInt i64 r.1).bind fun n =>
 br (decide (n = 2))
 (br
 (decide (xs.length + 1 ≤ 4294967296) && true &&
 true)
 (some
 (CVal.agg
 [c, c_1,
 CVal.sl
 (xs ++
 [CVal.agg
 [CVal.int i64 1,
 CVal.int i64 0, CVal.sl []]])],
 [[y_3, y_4, y]]))
 none)
 ((CVal.asInt i64 r.1).bind fun n =>
 br (decide (n = 3))
 (y_3.asSl.bind fun xs_1 =>
 (CVal.asInt i64 y_4).bind fun n =>
 (CVal.asInt i64 y).bind fun n_1 =>
 (CVal.asInt i64 c).bind fun n_2 =>
 (CVal.asInt i64 c_1).bind fun n_3 =>
 (L f_s_l1Bend 1 lc_s_l1Bend_1
 [PSh.box [none, none, none]] k_s_l1Bend_1
 (((), (), 0, ()),
 (xs_1, n, n_1, ()),
 (n_2, n_3, (), ()), xs,
 (0, 0, (), ()),
 [], ())).bind
 fun r =>
 loK r (fun r => some r) fun j p =>
 br (j == 1)
 (some
 (CVal.agg
 [CVal.int i64 p.snd.snd.fst.1,
 CVal.int i64 p.snd.snd.fst.snd.1,
 CVal.sl p.snd.snd.snd.1],
 [[CVal.sl p.snd.fst.1,
 CVal.int i64 p.snd.fst.snd.1,
 CVal.int i64
 p.snd.fst.snd.snd.1]]))
 (br (j == 0)
 (some
 (CVal.agg
 [CVal.int i64 p.snd.snd.fst.1,
 CVal.int i64
 p.snd.snd.fst.snd.1,
 CVal.sl p.snd.snd.snd.1],
 [[CVal.sl p.snd.fst.1,
 CVal.int i64 p.snd.fst.snd.1,
 CVal.int i64
 p.snd.fst.snd.snd.1]]))
 none))
 (some (CVal.agg [c, c_1, CVal.sl xs], [[y_3, y_4, y]])))))))
 ((C f_s_l1Below [AVal.lptr 0 0, AVal.v (CVal.int i64 5)]
 [PB.box
 [AVal.v (CVal.sl a0), AVal.v (CVal.int i64 a1), AVal.v (CVal.int i64 a2)]]).bind
 fun r =>
 r.2[0]?.bind fun y =>
 y[0]?.bind fun y_1 =>
 y[1]?.bind fun y_2 =>
 y[2]?.bind fun y =>
 (CVal.asInt i64 r.1).bind fun n =>
 br (decide (n = 0))
 ((C f_s_l1Below [AVal.lptr 0 0, AVal.v (CVal.int i64 8)]
 [PB.box [AVal.v y_1, AVal.v y_2, AVal.v y]]).bind
 fun r =>
 r.2[0]?.bind fun y =>
 y[0]?.bind fun y_3 =>
 y[1]?.bind fun y_4 =>
 y[2]?.bind fun y =>
 br (r.1.isFlat && true) (some (CVal.agg [r.1, c_1, CVal.sl xs], [[y_3, y_4, y]]))
 none)
 ((CVal.asInt i64 r.1).bind fun n =>
 br (decide (n = 1))
 ((C f_s_l1Int
 [AVal.lptr 0 0,
 AVal.v
 (CVal.sl
 [CVal.int i64 0, CVal.int i64 1,
 CVal.int i64 2, CVal.int i64 (-1 : Int)])]
 [PB.box [AVal.v y_1, AVal.v y_2, AVal.v y]]).bind
 fun r =>
 r.2[0]?.bind fun y =>
 y[0]?.bind fun y_3 =>
 y[1]?.bind fun y_4 =>
 y[2]?.bind fun y =>
 br (r.1.isFlat && true)
 (some (CVal.agg [c, r.1, CVal.sl xs], [[y_3, y_4, y]])) none)
 ((CVal.asInt i64 r.1).bind fun n =>
 br (decide (n = 2))
 (br (decide (xs.length + 1 ≤ 4294967296) && true && true)
 (some
 (CVal.agg
 [c, c_1,
 CVal.sl
 (xs ++
 [CVal.agg
 [CVal.int i64 1, CVal.int i64 0,
 CVal.sl []]])],
 [[y_1, y_2, y]]))
 none)
 ((CVal.asInt i64 r.1).bind fun n =>
 br (decide (n = 3))
 (y_1.asSl.bind fun xs_1 =>
 (CVal.asInt i64 y_2).bind fun n =>
 (CVal.asInt i64 y).bind fun n_1 =>
 (CVal.asInt i64 c).bind fun n_2 =>
 (CVal.asInt i64 c_1).bind fun n_3 =>
 (L f_s_l1Bend 1 lc_s_l1Bend_1 [PSh.box [none, none, none]]
 k_s_l1Bend_1
 (((), (), 0, ()),
 (xs_1, n, n_1, ()),
 (n_2, n_3, (), ()), xs,
 (0, 0, (), ()), [],
 ())).bind
 fun r =>
 loK r (fun r => some r) fun j p =>
 br (j == 1)
 (some
 (CVal.agg
 [CVal.int i64 p.snd.snd.fst.1,
 CVal.int i64 p.snd.snd.fst.snd.1,
 CVal.sl p.snd.snd.snd.1],
 [[CVal.sl p.snd.fst.1, CVal.int i64 p.snd.fst.snd.1,
 CVal.int i64 p.snd.fst.snd.snd.1]]))
 (br (j == 0)
 (some
 (CVal.agg
 [CVal.int i64 p.snd.snd.fst.1,
 CVal.int i64 p.snd.snd.fst.snd.1,
 CVal.sl p.snd.snd.snd.1],
 [[CVal.sl p.snd.fst.1,
 CVal.int i64 p.snd.fst.snd.1,
 CVal.int i64 p.snd.fst.snd.snd.1]]))
 none))
 (some (CVal.agg [c, c_1, CVal.sl xs], [[y_1, y_2, y]])))))))
 none
theorem go_s_l1Bend (a0 : List CVal) (a1 : Int) (a2 : Int) (b0 : Int) (b1 : Int) (b2 : List CVal) (R : Ret) (h : nf_s_l1Bend CC LL a0 a1 a2 b0 b1 b2 = some R) : CC f_s_l1Bend [AVal.lptr 0 0, AVal.v (CVal.agg [CVal.int i64 b0, CVal.int i64 b1, CVal.sl b2])] [PB.box [AVal.v (CVal.sl a0), AVal.v (CVal.int i64 a1), AVal.v (CVal.int i64 a2)]] = some R := fnW (by decide) rfl (Eq.trans (b := nf_s_l1Bend CC LL a0 a1 a2 b0 b1 b2) (by kernel_rfl) h)
noncomputable def nf_s_l1Look (C : CallT) (L : LoopT) (a0 : Int) (a1 : Int) (a2 : List CVal) (b : Int) (c : Int) : Option Ret :=
 (br (decide (b = 0)) (some (true, ()))
 (br (decide (60 < i64.wrap (c + 1))) (some (true, ()))
 ((C f_s_l1Args [AVal.v (CVal.int i64 a0)] []).bind fun r =>
 (CVal.asInt i64 r.1).bind fun n =>
 br (!decide ((↑a2.length : Int) = n)) (some (true, ()))
 (br (decide (a0 = 3))
 ((C f_s_l1In
 [AVal.v (CVal.int i64 a1), AVal.v (CVal.int i64 0),
 AVal.v (CVal.int i64 1)]
 []).bind
 fun r =>
 r.1.asBool.bind fun b =>
 br (!b) (some (true, ()))
 (br (!decide (a0 = 3)) (some (!decide (a1 = 0), ()))
 (some (false, ()))))
 (br (!decide (a0 = 3)) (some (!decide (a1 = 0), ()))
 (some (false, ()))))))).bind
 fun y =>
 br y.1 (some (CVal.bool false, [[CVal.int i64 (i64.wrap (c + 1))]]))
 ((L f_s_l1Look 0 lc_s_l1Look_0 [PSh.box [none]] k_s_l1Look_0
 ((b, (), (), 0, ()), (i64.wrap (c + 1), ()),
 (a0, a1, a2, ()), ())).bind
 fun r =>
 loK r (fun r => some r) fun j p =>
 br (j == 0) (some (CVal.bool true, [[CVal.int i64 p.snd.fst.1]])) none)
theorem go_s_l1Look (a0 : Int) (a1 : Int) (a2 : List CVal) (b : Int) (c : Int) (R : Ret) (h : nf_s_l1Look CC LL a0 a1 a2 b c = some R) : CC f_s_l1Look [AVal.v (CVal.agg [CVal.int i64 a0, CVal.int i64 a1, CVal.sl a2]), AVal.v (CVal.int i64 b),
 AVal.lptr 0 0] [PB.box [AVal.v (CVal.int i64 c)]] = some R := fnW (by decide) rfl (Eq.trans (b := nf_s_l1Look CC LL a0 a1 a2 b c) (by kernel_rfl) h)
noncomputable def nf_s_l1Args (C : CallT) (L : LoopT) (a : Int) : Option Ret :=
 br (decide (a = 1)) (some (CVal.int i64 0, []))
 (br (decide (a = 2)) (some (CVal.int i64 0, []))
 (br (decide (a = 3)) (some (CVal.int i64 0, []))
 (br (decide (a = 6)) (some (CVal.int i64 1, []))
 (br (decide (a = 4)) (some (CVal.int i64 2, []))
 (br (decide (a = 5)) (some (CVal.int i64 2, []))
 (some (CVal.int i64 (-1 : Int), [])))))))
theorem go_s_l1Args (a : Int) (R : Ret) (h : nf_s_l1Args CC LL a = some R) : CC f_s_l1Args [AVal.v (CVal.int i64 a)] [] = some R := fnW (by decide) rfl (Eq.trans (b := nf_s_l1Args CC LL a) (by kernel_rfl) h)
noncomputable def nl_s_DrawSubstTy_0 (C : CallT) (L : LoopT) (x04 : Int) (x10 : Int) (x11 : Int) (x12 : List CVal) (x20 : List CVal) (x21 : Int) (x22 : Int) (x30 : Int) (x31 : Int) (x32 : List CVal) (x4 : List CVal) : Option (LO k_s_DrawSubstTy_0.T) :=
 br (decide (0 < x04))
 ((C f_s_l1Any [AVal.lptr 0 0]
 [PB.box [AVal.v (CVal.sl x20), AVal.v (CVal.int i64 x21), AVal.v (CVal.int i64 x22)]]).bind
 fun r =>
 r.2[0]?.bind fun y =>
 y[0]?.bind fun y_1 =>
 y[1]?.bind fun y_2 =>
 y[2]?.bind fun y =>
 br ([r.1].all (CVal.fits true 3))
 (br ([r.1].all (CVal.fits true 3))
 (br (decide (x4.length + 1 ≤ 4294967296) && true && true)
 (y_1.asSl.bind fun xs =>
 (CVal.asInt i64 y_2).bind fun n =>
 (CVal.asInt i64 y).bind fun n_1 =>
 L f_s_DrawSubstTy 0 lc_s_DrawSubstTy_0 [] k_s_DrawSubstTy_0
 (((), (), (), (), i64.wrap (x04 - 1),
 ()),
 (x10, x11, x12, ()), (xs, n, n_1, ()), (x30, x31, x32, ()),
 x4 ++ [r.1], ()))
 none)
 none)
 none)
 (some
 (LO.out 0
 (((), (), (), (), x04, ()), (x10, x11, x12, ()),
 (x20, x21, x22, ()), (x30, x31, x32, ()), x4, ())))
theorem gl_s_DrawSubstTy_0 (x04 : Int) (x10 : Int) (x11 : Int) (x12 : List CVal) (x20 : List CVal) (x21 : Int) (x22 : Int) (x30 : Int) (x31 : Int) (x32 : List CVal) (x4 : List CVal) (R : LO k_s_DrawSubstTy_0.T) (h : nl_s_DrawSubstTy_0 CC LL x04 x10 x11 x12 x20 x21 x22 x30 x31 x32 x4 = some R) : LL f_s_DrawSubstTy 0 lc_s_DrawSubstTy_0 [] k_s_DrawSubstTy_0 (((), (), (), (), x04, ()), (x10, x11, x12, ()), (x20, x21, x22, ()), (x30, x31, x32, ()), x4, ()) = some R := loopW (Eq.trans (b := nl_s_DrawSubstTy_0 CC LL x04 x10 x11 x12 x20 x21 x22 x30 x31 x32 x4) (by kernel_rfl) h)
noncomputable def nl_s_l1Vars_0 (C : CallT) (L : LoopT) (x01 : Int) (x02 : Int) (x10 : Int) (x11 : Int) (x12 : List CVal) : Option (LO k_s_l1Vars_0.T) :=
 br (decide (x02 < (↑x12.length : Int)))
 (br (decide (0 ≤ x02) && true)
 (x12[x02.toNat]?.bind fun y =>
 br (CVal.fits true 3 y)
 ((y.sub 0 3).bind fun y =>
 (C f_s_l1Vars [AVal.v y] []).bind fun r =>
 (CVal.asInt i64 r.1).bind fun n =>
 br (decide (x01 < n))
 ((CVal.asInt i64 r.1).bind fun n =>
 L f_s_l1Vars 0 lc_s_l1Vars_0 [] k_s_l1Vars_0
 (((), n, i64.wrap (x02 + 1), ()), (x10, x11, x12, ()),
 ()))
 (L f_s_l1Vars 0 lc_s_l1Vars_0 [] k_s_l1Vars_0
 (((), x01, i64.wrap (x02 + 1), ()), (x10, x11, x12, ()),
 ())))
 none)
 none)
 (some (LO.out 0 (((), x01, x02, ()), (x10, x11, x12, ()), ())))
theorem gl_s_l1Vars_0 (x01 : Int) (x02 : Int) (x10 : Int) (x11 : Int) (x12 : List CVal) (R : LO k_s_l1Vars_0.T) (h : nl_s_l1Vars_0 CC LL x01 x02 x10 x11 x12 = some R) : LL f_s_l1Vars 0 lc_s_l1Vars_0 [] k_s_l1Vars_0 (((), x01, x02, ()), (x10, x11, x12, ()), ()) = some R := loopW (Eq.trans (b := nl_s_l1Vars_0 CC LL x01 x02 x10 x11 x12) (by kernel_rfl) h)
noncomputable def nl_slices_EqualFunc_Ty_0 (C : CallT) (L : LoopT) (x00 : List CVal) (x01 : CVal) (x02 : List CVal) (x03 : Int) (x04 : Int) : Option (LO k_slices_EqualFunc_Ty_0.T) :=
 br (decide (x04 < x03))
 (br (decide (0 ≤ x04) && true)
 (x02[x04.toNat]?.bind fun y =>
 br (CVal.fits true 3 y)
 ((y.sub 0 3).bind fun y =>
 br (CVal.isAggN 3 y)
 ((y.cell 0).bind fun c =>
 (y.cell 1).bind fun c_1 =>
 (y.cell 2).bind fun c_2 =>
 br (decide (0 ≤ x04) && true)
 (x00[x04.toNat]?.bind fun y =>
 br (CVal.fits true 3 y)
 ((y.sub 0 3).bind fun y =>
 br (CVal.isAggN 3 y)
 ((y.cell 0).bind fun c_3 =>
 (y.cell 1).bind fun c_4 =>
 (y.cell 2).bind fun c_5 =>
 (C apId
 [AVal.v x01, AVal.v (CVal.agg [c, c_1, c_2]), AVal.v (CVal.agg [c_3, c_4, c_5])]
 []).bind
 fun r =>
 r.1.asBool.bind fun b =>
 br (!b) (some (LO.ret (CVal.bool false, [])))
 (L f_slices_EqualFunc_Ty 0 lc_slices_EqualFunc_Ty_0 []
 k_slices_EqualFunc_Ty_0
 ((x00, x01, x02, x03, i64.wrap (x04 + 1), ()),
 ())))
 none)
 none)
 none)
 none)
 none)
 none)
 (some (LO.out 0 ((x00, x01, x02, x03, x04, ()), ())))
theorem gl_slices_EqualFunc_Ty_0 (x00 : List CVal) (x01 : CVal) (x02 : List CVal) (x03 : Int) (x04 : Int) (R : LO k_slices_EqualFunc_Ty_0.T) (h : nl_slices_EqualFunc_Ty_0 CC LL x00 x01 x02 x03 x04 = some R) : LL f_slices_EqualFunc_Ty 0 lc_slices_EqualFunc_Ty_0 [] k_slices_EqualFunc_Ty_0 ((x00, x01, x02, x03, x04, ()), ()) = some R := loopW (Eq.trans (b := nl_slices_EqualFunc_Ty_0 CC LL x00 x01 x02 x03 x04) (by kernel_rfl) h)
noncomputable def nl_i_cloneTy_0 (C : CallT) (L : LoopT) (x02 : List CVal) (x03 : Int) (x04 : Int) (x10 : Int) (x11 : Int) (x2 : List CVal) (x30 : Int) (x31 : Int) (x4 : List CVal) : Option (LO k_i_cloneTy_0.T) :=
 br (decide (x04 < x03))
 (br (decide (0 ≤ x04) && true)
 (x02[x04.toNat]?.bind fun y =>
 br (CVal.fits true 3 y)
 ((y.sub 0 3).bind fun y =>
 br (CVal.isAggN 3 y)
 ((y.cell 0).bind fun c =>
 (y.cell 1).bind fun c_1 =>
 (y.cell 2).bind fun c_2 =>
 (C f_i_cloneTy [AVal.v (CVal.agg [c, c_1, c_2])] []).bind fun r =>
 br ([r.1].all (CVal.fits true 3))
 (br ([r.1].all (CVal.fits true 3))
 (br (decide (x4.length + 1 ≤ 4294967296) && true && true)
 (L f_i_cloneTy 0 lc_i_cloneTy_0 [] k_i_cloneTy_0
 (((), (), x02, x03, i64.wrap (x04 + 1), ()),
 (x10, x11, (), ()), x2, (x30, x31, (), ()), x4 ++ [r.1],
 ()))
 none)
 none)
 none)
 none)
 none)
 none)
 (some
 (LO.out 0
 (((), (), x02, x03, x04, ()), (x10, x11, (), ()), x2,
 (x30, x31, (), ()), x4, ())))
theorem gl_i_cloneTy_0 (x02 : List CVal) (x03 : Int) (x04 : Int) (x10 : Int) (x11 : Int) (x2 : List CVal) (x30 : Int) (x31 : Int) (x4 : List CVal) (R : LO k_i_cloneTy_0.T) (h : nl_i_cloneTy_0 CC LL x02 x03 x04 x10 x11 x2 x30 x31 x4 = some R) : LL f_i_cloneTy 0 lc_i_cloneTy_0 [] k_i_cloneTy_0 (((), (), x02, x03, x04, ()), (x10, x11, (), ()), x2, (x30, x31, (), ()), x4, ()) = some R := loopW (Eq.trans (b := nl_i_cloneTy_0 CC LL x02 x03 x04 x10 x11 x2 x30 x31 x4) (by kernel_rfl) h)
end Go.Proofs.Ytmjjaoffeajcbaa.Abs
