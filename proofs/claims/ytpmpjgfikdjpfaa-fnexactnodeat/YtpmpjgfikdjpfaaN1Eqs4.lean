/- What the functions come to in the abstract machine. -/
import Derived.Test.YtpmpjgfikdjpfaaN1Ann
import Derived.KernelRfl
set_option linter.unusedVariables false
set_option maxRecDepth 100000
namespace Go.Proofs.Ytpmpjgfikdjpfaa.Abs
open Go Go.Proofs Go.IntKind
noncomputable def nf_i_NodeAt (C : CallT) (L : LoopT) (a0 : Int) (a1 : Int) (a2 : List UInt8) (a3 : List UInt8) (a40 : Int) (a41 : Int) (a42 : List CVal) (a5 : List CVal) (a6 : List CVal) (b : Int) : Option Ret :=
 (C f_i_allNodes
 [AVal.v
 (CVal.agg
 [CVal.int i64 a0, CVal.int i64 a1, CVal.str a2, CVal.str a3, CVal.int i64 a40,
 CVal.int i64 a41, CVal.sl a42, CVal.sl a5, CVal.sl a6])]
 []).bind
 fun r =>
 r.1.asSl.bind fun xs =>
 (C f_i_in
 [AVal.v (CVal.int i64 b), AVal.v (CVal.int i64 0),
 AVal.v (CVal.int i64 (i64.wrap ((↑xs.length : Int) - 1)))]
 []).bind
 fun r_1 =>
 r_1.1.asBool.bind fun b_1 =>
 br (!b_1)
 (some
 (CVal.tup
 [CVal.agg
 [CVal.int i64 0, CVal.int i64 0, CVal.str [], CVal.str [],
 CVal.int i64 0, CVal.int i64 0, CVal.sl [], CVal.sl [],
 CVal.sl []],
 CVal.bool false],
 []))
 (br (decide (0 ≤ b) && true)
 (r.1.asSl.bind fun xs =>
 xs[b.toNat]?.bind fun y =>
 br (CVal.fits false 1 y)
 ((y.cell 0).bind fun c =>
 c.asFp.bind fun y =>
 (y.1.sub (y.2 + 0) 9).bind fun y =>
 (C f_i_cloneTerm [AVal.v y] []).bind fun r =>
 br (CVal.isAggN 9 r.1)
 ((r.1.cell 0).bind fun c =>
 (r.1.cell 1).bind fun c_1 =>
 (r.1.cell 2).bind fun c_2 =>
 (r.1.cell 3).bind fun c_3 =>
 (r.1.cell 4).bind fun c_4 =>
 (r.1.cell 5).bind fun c_5 =>
 (r.1.cell 6).bind fun c_6 =>
 (r.1.cell 7).bind fun c_7 =>
 (r.1.cell 8).bind fun c_8 =>
 c_6.asSl.bind fun xs =>
 c_7.asSl.bind fun xs_1 =>
 c_8.asSl.bind fun xs_2 =>
 (CVal.asInt i64 c).bind fun n =>
 (CVal.asInt i64 c_1).bind fun n_1 =>
 c_2.asStr.bind fun s =>
 c_3.asStr.bind fun s_1 =>
 (CVal.asInt i64 c_4).bind fun n_2 =>
 (CVal.asInt i64 c_5).bind fun n_3 =>
 some
 (CVal.tup
 [CVal.agg
 [CVal.int i64 n,
 CVal.int i64 n_1, CVal.str s,
 CVal.str s_1, CVal.int i64 n_2,
 CVal.int i64 n_3, CVal.sl xs,
 CVal.sl xs_1, CVal.sl xs_2],
 CVal.bool true],
 []))
 none)
 none)
 none)
theorem go_i_NodeAt (a0 : Int) (a1 : Int) (a2 : List UInt8) (a3 : List UInt8) (a40 : Int) (a41 : Int) (a42 : List CVal) (a5 : List CVal) (a6 : List CVal) (b : Int) (R : Ret) (h : nf_i_NodeAt CC LL a0 a1 a2 a3 a40 a41 a42 a5 a6 b = some R) : CC f_i_NodeAt [AVal.v
 (CVal.agg
 [CVal.int i64 a0, CVal.int i64 a1, CVal.str a2, CVal.str a3, CVal.int i64 a40,
 CVal.int i64 a41, CVal.sl a42, CVal.sl a5, CVal.sl a6]),
 AVal.v (CVal.int i64 b)] [] = some R := fnW (by decide) rfl (Eq.trans (b := nf_i_NodeAt CC LL a0 a1 a2 a3 a40 a41 a42 a5 a6 b) (by kernel_rfl) h)
noncomputable def nf_l_szTermS (C : CallT) (L : LoopT) (a : List CVal) (b : Int) : Option Ret :=
 br (decide (i64.wrap (b - (↑a.length : Int)) < 0)) (some (CVal.int i64 (-1 : Int), []))
 ((L f_l_szTermS 0 lc_l_szTermS_0 [] k_l_szTermS_0
 ((a, i64.wrap (b - (↑a.length : Int)), 0, ()), ())).bind
 fun r => loK r (fun r => some r) fun j p => br (j == 0) (some (CVal.int i64 p.fst.snd.1, [])) none)
theorem go_l_szTermS (a : List CVal) (b : Int) (R : Ret) (h : nf_l_szTermS CC LL a b = some R) : CC f_l_szTermS [AVal.v (CVal.sl a), AVal.v (CVal.int i64 b)] [] = some R := fnW (by decide) rfl (Eq.trans (b := nf_l_szTermS CC LL a b) (by kernel_rfl) h)
noncomputable def nf_s_l1In (C : CallT) (L : LoopT) (a : Int) (b : Int) (c : Int) : Option Ret :=
 (br (decide (b ≤ a)) (some (decide (a ≤ c), ())) (some (false, ()))).bind fun y =>
 some (CVal.bool y.1, [])
theorem go_s_l1In (a : Int) (b : Int) (c : Int) (R : Ret) (h : nf_s_l1In CC LL a b c = some R) : CC f_s_l1In [AVal.v (CVal.int i64 a), AVal.v (CVal.int i64 b), AVal.v (CVal.int i64 c)] [] = some R := fnW (by decide) rfl (Eq.trans (b := nf_s_l1In CC LL a b c) (by kernel_rfl) h)
noncomputable def nf_l_eqTyS (C : CallT) (L : LoopT) (a : List CVal) (b : List CVal) : Option Ret :=
 br (!decide ((↑a.length : Int) = (↑b.length : Int))) (some (CVal.bool false, []))
 ((L f_l_eqTyS 0 lc_l_eqTyS_0 [] k_l_eqTyS_0 ((a, b, 0, ()), ())).bind fun r =>
 loK r (fun r => some r) fun j p => br (j == 0) (some (CVal.bool true, [])) none)
theorem go_l_eqTyS (a : List CVal) (b : List CVal) (R : Ret) (h : nf_l_eqTyS CC LL a b = some R) : CC f_l_eqTyS [AVal.v (CVal.sl a), AVal.v (CVal.sl b)] [] = some R := fnW (by decide) rfl (Eq.trans (b := nf_l_eqTyS CC LL a b) (by kernel_rfl) h)
noncomputable def nf_l_heldTyS (C : CallT) (L : LoopT) (a : List CVal) (b : Int) : Option Ret :=
 (L f_l_heldTyS 0 lc_l_heldTyS_0 [] k_l_heldTyS_0 ((a, b, 0, ()), ())).bind fun r =>
 loK r (fun r => some r) fun j p => br (j == 0) (some (CVal.int i64 p.fst.snd.1, [])) none
theorem go_l_heldTyS (a : List CVal) (b : Int) (R : Ret) (h : nf_l_heldTyS CC LL a b = some R) : CC f_l_heldTyS [AVal.v (CVal.sl a), AVal.v (CVal.int i64 b)] [] = some R := fnW (by decide) rfl (Eq.trans (b := nf_l_heldTyS CC LL a b) (by kernel_rfl) h)
noncomputable def nf_i_numbered (C : CallT) (L : LoopT) (a0 : Int) (a1 : Int) (a2 : List UInt8) (a3 : List UInt8) (a40 : Int) (a41 : Int) (a42 : List CVal) (a5 : List CVal) (a6 : List CVal) (b : Int) : Option Ret :=
 (L f_i_numbered 0 lc_i_numbered_0 [PSh.box [none]] k_i_numbered_0
 (((), (), a6, (↑a6.length : Int), 0, ()),
 (i64.wrap (b + 1), ()),
 (a0, a1, a2, a3, a40, a41, a42, a5, a6, b, (), ()), [], ())).bind
 fun r =>
 loK r (fun r => some r) fun j p =>
 br (j == 0)
 (some
 ((CVal.agg
 [CVal.int i64 p.snd.snd.fst.1, CVal.int i64 p.snd.snd.fst.snd.1,
 CVal.str p.snd.snd.fst.snd.snd.1, CVal.str p.snd.snd.fst.snd.snd.snd.1,
 CVal.int i64 p.snd.snd.fst.snd.snd.snd.snd.1,
 CVal.int i64 p.snd.snd.fst.snd.snd.snd.snd.snd.1,
 CVal.sl p.snd.snd.fst.snd.snd.snd.snd.snd.snd.1, CVal.sl p.snd.snd.fst.snd.snd.snd.snd.snd.snd.snd.1,
 CVal.sl p.snd.snd.fst.snd.snd.snd.snd.snd.snd.snd.snd.1,
 CVal.int i64 p.snd.snd.fst.snd.snd.snd.snd.snd.snd.snd.snd.snd.1, CVal.sl p.snd.snd.snd.1]).fp
 0,
 [[CVal.int i64 p.snd.fst.1]]))
 none
theorem go_i_numbered (a0 : Int) (a1 : Int) (a2 : List UInt8) (a3 : List UInt8) (a40 : Int) (a41 : Int) (a42 : List CVal) (a5 : List CVal) (a6 : List CVal) (b : Int) (R : Ret) (h : nf_i_numbered CC LL a0 a1 a2 a3 a40 a41 a42 a5 a6 b = some R) : CC f_i_numbered [AVal.v
 (CVal.agg
 [CVal.int i64 a0, CVal.int i64 a1, CVal.str a2, CVal.str a3, CVal.int i64 a40,
 CVal.int i64 a41, CVal.sl a42, CVal.sl a5, CVal.sl a6]),
 AVal.lptr 0 0] [PB.box [AVal.v (CVal.int i64 b)]] = some R := fnW (by decide) rfl (Eq.trans (b := nf_i_numbered CC LL a0 a1 a2 a3 a40 a41 a42 a5 a6 b) (by kernel_rfl) h)
noncomputable def nf_s_l2Of (C : CallT) (L : LoopT) (a : Int) : Option Ret :=
 br (decide (a = 1))
 (some
 (CVal.agg
 [CVal.int i64 0, CVal.int i64 1, CVal.bool false, CVal.bool false,
 CVal.bool false],
 []))
 (br (decide (a = 2))
 (some
 (CVal.agg
 [CVal.int i64 0, CVal.int i64 1, CVal.bool false, CVal.bool false,
 CVal.bool false],
 []))
 (br (decide (a = 3))
 (some
 (CVal.agg
 [CVal.int i64 0, CVal.int i64 0, CVal.bool true, CVal.bool false,
 CVal.bool false],
 []))
 (br (decide (a = 4))
 (some
 (CVal.agg
 [CVal.int i64 1, CVal.int i64 0, CVal.bool true, CVal.bool false,
 CVal.bool true],
 []))
 (br (decide (a = 5))
 (some
 (CVal.agg
 [CVal.int i64 2, CVal.int i64 0, CVal.bool false, CVal.bool false,
 CVal.bool false],
 []))
 (br (decide (a = 9))
 (some
 (CVal.agg
 [CVal.int i64 2, CVal.int i64 0, CVal.bool false, CVal.bool false,
 CVal.bool false],
 []))
 (br (decide (a = 13))
 (some
 (CVal.agg
 [CVal.int i64 2, CVal.int i64 0, CVal.bool false, CVal.bool false,
 CVal.bool false],
 []))
 (br (decide (a = 6))
 (some
 (CVal.agg
 [CVal.int i64 2, CVal.int i64 1, CVal.bool true, CVal.bool false,
 CVal.bool false],
 []))
 (br (decide (a = 7))
 (some
 (CVal.agg
 [CVal.int i64 2, CVal.int i64 1, CVal.bool true,
 CVal.bool false, CVal.bool true],
 []))
 (br (decide (a = 8))
 (some
 (CVal.agg
 [CVal.int i64 3, CVal.int i64 0, CVal.bool false,
 CVal.bool false, CVal.bool false],
 []))
 (br (decide (a = 10))
 (some
 (CVal.agg
 [CVal.int i64 1, CVal.int i64 0, CVal.bool false,
 CVal.bool false, CVal.bool false],
 []))
 (br (decide (a = 11))
 (some
 (CVal.agg
 [CVal.int i64 1, CVal.int i64 0, CVal.bool false,
 CVal.bool false, CVal.bool false],
 []))
 (br (decide (a = 12))
 (some
 (CVal.agg
 [CVal.int i64 0, CVal.int i64 0, CVal.bool false,
 CVal.bool false, CVal.bool true],
 []))
 (br (decide (a = 14))
 (some
 (CVal.agg
 [CVal.int i64 3, CVal.int i64 0, CVal.bool true,
 CVal.bool true, CVal.bool false],
 []))
 (br (decide (a = 15))
 (some
 (CVal.agg
 [CVal.int i64 2, CVal.int i64 1, CVal.bool false,
 CVal.bool false, CVal.bool false],
 []))
 (br (decide (a = 16))
 (some
 (CVal.agg
 [CVal.int i64 1, CVal.int i64 0, CVal.bool false,
 CVal.bool false, CVal.bool true],
 []))
 (br (decide (a = 17))
 (some
 (CVal.agg
 [CVal.int i64 2, CVal.int i64 0, CVal.bool true,
 CVal.bool false, CVal.bool false],
 []))
 (some
 (CVal.agg
 [CVal.int i64 (-1 : Int), CVal.int i64 0,
 CVal.bool false, CVal.bool false, CVal.bool false],
 []))))))))))))))))))
theorem go_s_l2Of (a : Int) (R : Ret) (h : nf_s_l2Of CC LL a = some R) : CC f_s_l2Of [AVal.v (CVal.int i64 a)] [] = some R := fnW (by decide) rfl (Eq.trans (b := nf_s_l2Of CC LL a) (by kernel_rfl) h)
noncomputable def nf_s_l1Look (C : CallT) (L : LoopT) (a0 : Int) (a1 : Int) (a2 : List CVal) (b : Int) (c : Int) : Option Ret :=
 (br (decide (b = 0)) (some (true, ()))
 (br (decide (60 < i64.wrap (c + 1))) (some (true, ()))
 ((C f_s_l1Args [AVal.v (CVal.int i64 a0)] []).bind fun r =>
 (CVal.asInt i64 r.1).bind fun n =>
 br (!decide ((↑a2.length : Int) = n)) (some (true, ()))
 (br (decide (a0 = 3))
 ((C f_s_l1In
 [AVal.v (CVal.int i64 a1), AVal.v (CVal.int i64 0),
 AVal.v (CVal.int i64 1)]
 []).bind
 fun r =>
 r.1.asBool.bind fun b =>
 br (!b) (some (true, ()))
 (br (!decide (a0 = 3)) (some (!decide (a1 = 0), ()))
 (some (false, ()))))
 (br (!decide (a0 = 3)) (some (!decide (a1 = 0), ()))
 (some (false, ()))))))).bind
 fun y =>
 br y.1 (some (CVal.bool false, [[CVal.int i64 (i64.wrap (c + 1))]]))
 ((L f_s_l1Look 0 lc_s_l1Look_0 [PSh.box [none]] k_s_l1Look_0
 ((b, (), (), 0, ()), (i64.wrap (c + 1), ()),
 (a0, a1, a2, ()), ())).bind
 fun r =>
 loK r (fun r => some r) fun j p =>
 br (j == 0) (some (CVal.bool true, [[CVal.int i64 p.snd.fst.1]])) none)
theorem go_s_l1Look (a0 : Int) (a1 : Int) (a2 : List CVal) (b : Int) (c : Int) (R : Ret) (h : nf_s_l1Look CC LL a0 a1 a2 b c = some R) : CC f_s_l1Look [AVal.v (CVal.agg [CVal.int i64 a0, CVal.int i64 a1, CVal.sl a2]), AVal.v (CVal.int i64 b),
 AVal.lptr 0 0] [PB.box [AVal.v (CVal.int i64 c)]] = some R := fnW (by decide) rfl (Eq.trans (b := nf_s_l1Look CC LL a0 a1 a2 b c) (by kernel_rfl) h)
noncomputable def nf_i_SameTy (C : CallT) (L : LoopT) (a0 : Int) (a1 : Int) (a2 : List CVal) (b0 : Int) (b1 : Int) (b2 : List CVal) : Option Ret :=
 (br (decide (a0 = b0))
 (br (decide (a1 = b1))
 ((C f_slices_EqualFunc_Ty [AVal.v (CVal.sl a2), AVal.v (CVal.sl b2), AVal.v (CVal.func f_i_SameTy [])] []).bind
 fun r => (bif true then r.1 else CVal.bool false).asBool.bind fun b => some (b, ()))
 (some (false, ())))
 (some (false, ()))).bind
 fun y => some (CVal.bool y.1, [])
theorem go_i_SameTy (a0 : Int) (a1 : Int) (a2 : List CVal) (b0 : Int) (b1 : Int) (b2 : List CVal) (R : Ret) (h : nf_i_SameTy CC LL a0 a1 a2 b0 b1 b2 = some R) : CC f_i_SameTy [AVal.v (CVal.agg [CVal.int i64 a0, CVal.int i64 a1, CVal.sl a2]),
 AVal.v (CVal.agg [CVal.int i64 b0, CVal.int i64 b1, CVal.sl b2])] [] = some R := fnW (by decide) rfl (Eq.trans (b := nf_i_SameTy CC LL a0 a1 a2 b0 b1 b2) (by kernel_rfl) h)
noncomputable def nf_i_measure (C : CallT) (L : LoopT) (a0 : Int) (a1 : Int) (a2 : List CVal) : Option Ret :=
 ((C f_i_tyParts [AVal.v (CVal.int i64 a0)] []).bind fun r =>
 (CVal.asInt i64 r.1).bind fun n =>
 br (!decide ((↑a2.length : Int) = n)) (some (true, ()))
 (br (!decide (a1 = 0))
 (br (!decide (a0 = 3)) (some (true, ())) (some (!decide (a1 = 1), ())))
 (some (false, ())))).bind
 fun y =>
 br y.1 (some (CVal.tup [CVal.int i64 0, CVal.int i64 0, CVal.bool false], []))
 ((L f_i_measure 0 lc_i_measure_0 [] k_i_measure_0
 ((0, 1, a2, (↑a2.length : Int), 0, ()), ())).bind
 fun r =>
 loK r (fun r => some r) fun j p =>
 br (j == 0)
 (some
 (CVal.tup
 [CVal.int i64 (i64.wrap (p.fst.1 + 1)), CVal.int i64 p.fst.snd.1,
 CVal.bool true],
 []))
 none)
theorem go_i_measure (a0 : Int) (a1 : Int) (a2 : List CVal) (R : Ret) (h : nf_i_measure CC LL a0 a1 a2 = some R) : CC f_i_measure [AVal.v (CVal.agg [CVal.int i64 a0, CVal.int i64 a1, CVal.sl a2])] [] = some R := fnW (by decide) rfl (Eq.trans (b := nf_i_measure CC LL a0 a1 a2) (by kernel_rfl) h)
noncomputable def nl_l_toTyS_0 (C : CallT) (L : LoopT) (x00 : List CVal) (x02 : Int) (x1 : List CVal) : Option (LO k_l_toTyS_0.T) :=
 br (decide (x02 < (↑x00.length : Int)))
 (br (decide (0 ≤ x02) && true)
 (x00[x02.toNat]?.bind fun y =>
 br (CVal.fits true 3 y)
 ((y.sub 0 3).bind fun y =>
 (C f_l_toTy [AVal.v y] []).bind fun r =>
 br (CVal.isAggN 3 r.1)
 ((r.1.cell 0).bind fun c =>
 (r.1.cell 1).bind fun c_1 =>
 (r.1.cell 2).bind fun c_2 =>
 c_2.asSl.bind fun xs =>
 br (decide (0 ≤ x02) && true)
 (br (decide (x02.toNat < x1.length) && true)
 ((CVal.asInt i64 c).bind fun n =>
 (CVal.asInt i64 c_1).bind fun n_1 =>
 x1[x02.toNat]?.bind fun y =>
 br (CVal.fits true 3 y)
 (L f_l_toTyS 0 lc_l_toTyS_0 [] k_l_toTyS_0
 ((x00, (), i64.wrap (x02 + 1), ()),
 x1.set x02.toNat
 (CVal.agg [CVal.int i64 n, CVal.int i64 n_1, CVal.sl xs]),
 ()))
 (br (y.isAgg && decide (3 ≤ y.cells.length))
 (L f_l_toTyS 0 lc_l_toTyS_0 [] k_l_toTyS_0
 ((x00, (), i64.wrap (x02 + 1), ()),
 x1.set x02.toNat
 (CVal.agg
 (CVal.int i64 n ::
 CVal.int i64 n_1 :: CVal.sl xs :: List.drop 3 y.cells)),
 ()))
 none))
 none)
 none)
 none)
 none)
 none)
 (some (LO.out 0 ((x00, (), x02, ()), x1, ())))
theorem gl_l_toTyS_0 (x00 : List CVal) (x02 : Int) (x1 : List CVal) (R : LO k_l_toTyS_0.T) (h : nl_l_toTyS_0 CC LL x00 x02 x1 = some R) : LL f_l_toTyS 0 lc_l_toTyS_0 [] k_l_toTyS_0 ((x00, (), x02, ()), x1, ()) = some R := loopW (Eq.trans (b := nl_l_toTyS_0 CC LL x00 x02 x1) (by kernel_rfl) h)
noncomputable def nl_l_eqTyS_0 (C : CallT) (L : LoopT) (x00 : List CVal) (x01 : List CVal) (x02 : Int) : Option (LO k_l_eqTyS_0.T) :=
 br (decide (x02 < (↑x00.length : Int)))
 (br (decide (0 ≤ x02) && true)
 (x00[x02.toNat]?.bind fun y =>
 br (CVal.fits true 3 y)
 ((y.sub 0 3).bind fun y =>
 br (decide (0 ≤ x02) && true)
 (x01[x02.toNat]?.bind fun y_1 =>
 br (CVal.fits true 3 y_1)
 ((y_1.sub 0 3).bind fun y_2 =>
 (C f_l_eqTy [AVal.v y, AVal.v y_2] []).bind fun r =>
 r.1.asBool.bind fun b =>
 br (!b) (some (LO.ret (CVal.bool false, [])))
 (L f_l_eqTyS 0 lc_l_eqTyS_0 [] k_l_eqTyS_0
 ((x00, x01, i64.wrap (x02 + 1), ()), ())))
 none)
 none)
 none)
 none)
 (some (LO.out 0 ((x00, x01, x02, ()), ())))
theorem gl_l_eqTyS_0 (x00 : List CVal) (x01 : List CVal) (x02 : Int) (R : LO k_l_eqTyS_0.T) (h : nl_l_eqTyS_0 CC LL x00 x01 x02 = some R) : LL f_l_eqTyS 0 lc_l_eqTyS_0 [] k_l_eqTyS_0 ((x00, x01, x02, ()), ()) = some R := loopW (Eq.trans (b := nl_l_eqTyS_0 CC LL x00 x01 x02) (by kernel_rfl) h)
noncomputable def nl_s_l2Look_0 (C : CallT) (L : LoopT) (x00 : Int) (x03 : Int) (x10 : Int) (x20 : Int) (x21 : Int) (x22 : List UInt8) (x23 : List UInt8) (x24 : Int) (x25 : Int) (x26 : List CVal) (x27 : List CVal) (x28 : List CVal) : Option (LO k_s_l2Look_0.T) :=
 br (decide (x03 < (↑x28.length : Int)))
 (br (decide (0 ≤ x03) && true)
 (x28[x03.toNat]?.bind fun y =>
 br (CVal.fits true 9 y)
 ((y.sub 0 9).bind fun y =>
 (C f_s_l2Look
 [AVal.v y, AVal.v (CVal.int i64 (i64.wrap (x00 - 1))),
 AVal.lptr 0 0]
 [PB.box [AVal.v (CVal.int i64 x10)]]).bind
 fun r =>
 r.2[0]?.bind fun y =>
 y[0]?.bind fun y =>
 r.1.asBool.bind fun b =>
 br (!b) (some (LO.ret (CVal.bool false, [[y]])))
 ((CVal.asInt i64 y).bind fun n =>
 L f_s_l2Look 0 lc_s_l2Look_0 [PSh.box [none]] k_s_l2Look_0
 ((x00, (), (), i64.wrap (x03 + 1), ()), (n, ()),
 (x20, x21, x22, x23, x24, x25, x26, x27, x28, ()), ())))
 none)
 none)
 (some
 (LO.out 0
 ((x00, (), (), x03, ()), (x10, ()),
 (x20, x21, x22, x23, x24, x25, x26, x27, x28, ()), ())))
theorem gl_s_l2Look_0 (x00 : Int) (x03 : Int) (x10 : Int) (x20 : Int) (x21 : Int) (x22 : List UInt8) (x23 : List UInt8) (x24 : Int) (x25 : Int) (x26 : List CVal) (x27 : List CVal) (x28 : List CVal) (R : LO k_s_l2Look_0.T) (h : nl_s_l2Look_0 CC LL x00 x03 x10 x20 x21 x22 x23 x24 x25 x26 x27 x28 = some R) : LL f_s_l2Look 0 lc_s_l2Look_0 [PSh.box [none]] k_s_l2Look_0 ((x00, (), (), x03, ()), (x10, ()), (x20, x21, x22, x23, x24, x25, x26, x27, x28, ()), ()) = some R := loopW (Eq.trans (b := nl_s_l2Look_0 CC LL x00 x03 x10 x20 x21 x22 x23 x24 x25 x26 x27 x28) (by kernel_rfl) h)
noncomputable def nl_l_markText_0 (C : CallT) (L : LoopT) (x00 : Int) (x01 : List UInt8) : Option (LO k_l_markText_0.T) :=
 br (decide (0 < x00))
 (br (decide (1 + x01.length ≤ 1152921504606846976))
 (L f_l_markText 0 lc_l_markText_0 [] k_l_markText_0
 ((i64.wrap (x00.tdiv 10),
 [UInt8.ofNat (IntKind.u8.wrap (i64.wrap (48 + x00.tmod 10))).toNat] ++ x01,
 ()),
 ()))
 none)
 (some (LO.out 0 ((x00, x01, ()), ())))
theorem gl_l_markText_0 (x00 : Int) (x01 : List UInt8) (R : LO k_l_markText_0.T) (h : nl_l_markText_0 CC LL x00 x01 = some R) : LL f_l_markText 0 lc_l_markText_0 [] k_l_markText_0 ((x00, x01, ()), ()) = some R := loopW (Eq.trans (b := nl_l_markText_0 CC LL x00 x01) (by kernel_rfl) h)
noncomputable def nl_i_isName_0 (C : CallT) (L : LoopT) (x00 : List UInt8) (x01 : Int) (x02 : Int) : Option (LO k_i_isName_0.T) :=
 br (decide (x02 < x01))
 (br (decide (0 ≤ x02))
 (x00[x02.toNat]?.bind fun y =>
 (br (decide (97 ≤ (↑y.toNat : Int))) (some (decide ((↑y.toNat : Int) ≤ 122), ()))
 (some (false, ()))).bind
 fun y_1 =>
 (br (!y_1.1)
 (br (decide (x02 = 0)) (some (true, ()))
 (br (decide ((↑y.toNat : Int) < 48))
 (some (!decide ((↑y.toNat : Int) = 46), ()))
 (br (decide (57 < (↑y.toNat : Int)))
 (some (!decide ((↑y.toNat : Int) = 46), ())) (some (false, ())))))
 (some (false, ()))).bind
 fun y =>
 br y.1 (some (LO.ret (CVal.bool false, [])))
 (L f_i_isName 0 lc_i_isName_0 [] k_i_isName_0
 ((x00, x01, i64.wrap (x02 + 1), ()), ())))
 none)
 (some (LO.out 0 ((x00, x01, x02, ()), ())))
theorem gl_i_isName_0 (x00 : List UInt8) (x01 : Int) (x02 : Int) (R : LO k_i_isName_0.T) (h : nl_i_isName_0 CC LL x00 x01 x02 = some R) : LL f_i_isName 0 lc_i_isName_0 [] k_i_isName_0 ((x00, x01, x02, ()), ()) = some R := loopW (Eq.trans (b := nl_i_isName_0 CC LL x00 x01 x02) (by kernel_rfl) h)
end Go.Proofs.Ytpmpjgfikdjpfaa.Abs
