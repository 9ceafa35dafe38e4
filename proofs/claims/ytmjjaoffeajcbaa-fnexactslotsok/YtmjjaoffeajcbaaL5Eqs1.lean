/- What the functions come to in the abstract machine. -/
import Derived.Test.YtmjjaoffeajcbaaL5Ann
import Derived.KernelRfl
set_option linter.unusedVariables false
set_option maxRecDepth 100000
namespace Go.Proofs.Ytmjjaoffeajcbaa.Abs
open Go Go.Proofs Go.IntKind
noncomputable def nf_l_szPiece (C : CallT) (L : LoopT) (a0 : Int) (a1 : Int) (a2 : Int) (a3 : List CVal) (b : Int) : Option Ret :=
 (C f_l_szInsS [AVal.v (CVal.sl a3), AVal.v (CVal.int i64 b)] []).bind fun r =>
 (CVal.asInt i64 r.1).bind fun n =>
 br (decide (n < 0)) (some (CVal.int i64 (-1 : Int), [])) (some (r.1, []))
theorem go_l_szPiece (a0 : Int) (a1 : Int) (a2 : Int) (a3 : List CVal) (b : Int) (R : Ret) (h : nf_l_szPiece CC LL a0 a1 a2 a3 b = some R) : CC f_l_szPiece [AVal.v (CVal.agg [CVal.int i64 a0, CVal.int i64 a1, CVal.int i64 a2, CVal.sl a3]),
 AVal.v (CVal.int i64 b)] [] = some R := fnW (by decide) rfl (Eq.trans (b := nf_l_szPiece CC LL a0 a1 a2 a3 b) (by kernel_rfl) h)
noncomputable def nf_i_SlotsOk (C : CallT) (L : LoopT) (a0 : Int) (a1 : Int) (a2 : Int) (a3 : List CVal) (b : List CVal) : Option Ret :=
 ((C f_i_pieceOk
 [AVal.v (CVal.agg [CVal.int i64 a0, CVal.int i64 a1, CVal.int i64 a2, CVal.sl a3])]
 []).bind
 fun r =>
 r.1.asBool.bind fun b_1 =>
 br (!b_1) (some (true, ())) (some (!decide ((↑b.length : Int) = a2), ()))).bind
 fun y =>
 br y.1 (some (CVal.bool false, []))
 ((L f_i_SlotsOk 0 lc_i_SlotsOk_0 [] k_i_SlotsOk_0
 (((), (CVal.sl b).fp 0, b, (↑b.length : Int), 0, ()),
 (a0, a1, a2, a3, ()), ())).bind
 fun r =>
 loK r (fun r => some r) fun j p =>
 br (j == 0)
 ((C f_i_Clashes
 [AVal.v
 (CVal.agg
 [CVal.int i64 p.snd.fst.1, CVal.int i64 p.snd.fst.snd.1,
 CVal.int i64 p.snd.fst.snd.snd.1, CVal.sl p.snd.fst.snd.snd.snd.1])]
 []).bind
 fun r =>
 (C f_slices_ContainsFunc_2_int [AVal.v r.1, AVal.v (CVal.func f_i_SlotsOk_1 [p.fst.snd.1])] []).bind
 fun r => r.1.asBool.bind fun b => some (CVal.bool !b, []))
 none)
theorem go_i_SlotsOk (a0 : Int) (a1 : Int) (a2 : Int) (a3 : List CVal) (b : List CVal) (R : Ret) (h : nf_i_SlotsOk CC LL a0 a1 a2 a3 b = some R) : CC f_i_SlotsOk [AVal.v (CVal.agg [CVal.int i64 a0, CVal.int i64 a1, CVal.int i64 a2, CVal.sl a3]),
 AVal.v (CVal.sl b)] [] = some R := fnW (by decide) rfl (Eq.trans (b := nf_i_SlotsOk CC LL a0 a1 a2 a3 b) (by kernel_rfl) h)
noncomputable def nf_l_toInsS (C : CallT) (L : LoopT) (a : List CVal) : Option Ret :=
 br (decide ((↑a.length : Int) = (↑a.length : Int)) && decide ((↑a.length : Int) ≤ 1048576))
 ((L f_l_toInsS 0 lc_l_toInsS_0 [] k_l_toInsS_0
 ((a, (), 0, ()),
 List.replicate (↑a.length : Int).toNat
 (CVal.agg
 [CVal.int i64 0, CVal.int i64 0, CVal.int i64 0,
 CVal.int i64 0, CVal.int i64 0, CVal.sl [],
 CVal.int i64 0]),
 ())).bind
 fun r => loK r (fun r => some r) fun j p => br (j == 0) (some (CVal.sl p.snd.1, [])) none)
 none
theorem go_l_toInsS (a : List CVal) (R : Ret) (h : nf_l_toInsS CC LL a = some R) : CC f_l_toInsS [AVal.v (CVal.sl a)] [] = some R := fnW (by decide) rfl (Eq.trans (b := nf_l_toInsS CC LL a) (by kernel_rfl) h)
noncomputable def nf_i_Clashes (C : CallT) (L : LoopT) (a0 : Int) (a1 : Int) (a2 : Int) (a3 : List CVal) : Option Ret :=
 (C f_i_pieceOk
 [AVal.v (CVal.agg [CVal.int i64 a0, CVal.int i64 a1, CVal.int i64 a2, CVal.sl a3])]
 []).bind
 fun r =>
 r.1.asBool.bind fun b =>
 br (!b) (some (CVal.sl [], []))
 ((C f_i_clashes
 [AVal.v (CVal.agg [CVal.int i64 a0, CVal.int i64 a1, CVal.int i64 a2, CVal.sl a3])]
 []).bind
 fun r =>
 r.1.asSl.bind fun xs =>
 r.1.asSl.bind fun xs_1 =>
 (L f_i_Clashes 0 lc_i_Clashes_0 [] k_i_Clashes_0
 (((), xs_1, (↑xs.length : Int), 0, ()), [], ())).bind
 fun r => loK r (fun r => some r) fun j p => br (j == 0) (some (CVal.sl p.snd.1, [])) none)
theorem go_i_Clashes (a0 : Int) (a1 : Int) (a2 : Int) (a3 : List CVal) (R : Ret) (h : nf_i_Clashes CC LL a0 a1 a2 a3 = some R) : CC f_i_Clashes [AVal.v (CVal.agg [CVal.int i64 a0, CVal.int i64 a1, CVal.int i64 a2, CVal.sl a3])] [] = some R := fnW (by decide) rfl (Eq.trans (b := nf_i_Clashes CC LL a0 a1 a2 a3) (by kernel_rfl) h)
noncomputable def nf_l_szIns (C : CallT) (L : LoopT) (a0 : Int) (a1 : Int) (a2 : Int) (a3 : Int) (a4 : Int) (a5 : List CVal) (a6 : Int) (b : Int) : Option Ret :=
 (C f_l_szIntS [AVal.v (CVal.sl a5), AVal.v (CVal.int i64 b)] []).bind fun r =>
 (CVal.asInt i64 r.1).bind fun n =>
 br (decide (n < 0)) (some (CVal.int i64 (-1 : Int), [])) (some (r.1, []))
theorem go_l_szIns (a0 : Int) (a1 : Int) (a2 : Int) (a3 : Int) (a4 : Int) (a5 : List CVal) (a6 : Int) (b : Int) (R : Ret) (h : nf_l_szIns CC LL a0 a1 a2 a3 a4 a5 a6 b = some R) : CC f_l_szIns [AVal.v
 (CVal.agg
 [CVal.int i64 a0, CVal.int i64 a1, CVal.int i64 a2, CVal.int i64 a3,
 CVal.int i64 a4, CVal.sl a5, CVal.int i64 a6]),
 AVal.v (CVal.int i64 b)] [] = some R := fnW (by decide) rfl (Eq.trans (b := nf_l_szIns CC LL a0 a1 a2 a3 a4 a5 a6 b) (by kernel_rfl) h)
noncomputable def nf_s_l10Solve (C : CallT) (L : LoopT) (a0 : Int) (a1 : Int) (a2 : Int) (a3 : List CVal) : Option Ret :=
 (C f_s_l10New
 [AVal.v (CVal.agg [CVal.int i64 a0, CVal.int i64 a1, CVal.int i64 a2, CVal.sl a3])]
 []).bind
 fun r =>
 r.1.asFp.bind fun y =>
 br (decide (y.2 = 0) && CVal.isAggN 6 y.1)
 ((y.1.cell 0).bind fun c =>
 (y.1.cell 1).bind fun c_1 =>
 (y.1.cell 2).bind fun c_2 =>
 (y.1.cell 3).bind fun c_3 =>
 (y.1.cell 4).bind fun c_4 =>
 (y.1.cell 5).bind fun c_5 =>
 c_4.asSl.bind fun xs =>
 (CVal.asInt i64 c).bind fun n =>
 (CVal.asInt i64 c_1).bind fun n_1 =>
 (CVal.asInt i64 c_2).bind fun n_2 =>
 c_3.asSl.bind fun xs_1 =>
 (L f_s_l10Solve 0 lc_s_l10Solve_0 [] k_s_l10Solve_0
 (((CVal.agg
 [CVal.int i64 a0, CVal.int i64 a1, CVal.int i64 a2,
 CVal.sl a3]).fp
 0,
 (), ()),
 (n, n_1, n_2, xs_1, (), true, ()), xs, ())).bind
 fun r =>
 loK r (fun r => some r) fun j p =>
 br (j == 0)
 (some
 ((CVal.agg
 [CVal.int i64 p.snd.fst.1, CVal.int i64 p.snd.fst.snd.1,
 CVal.int i64 p.snd.fst.snd.snd.1, CVal.sl p.snd.fst.snd.snd.snd.1,
 CVal.sl p.snd.snd.1, CVal.bool p.snd.fst.snd.snd.snd.snd.snd.1]).fp
 0,
 []))
 none)
 none
theorem go_s_l10Solve (a0 : Int) (a1 : Int) (a2 : Int) (a3 : List CVal) (R : Ret) (h : nf_s_l10Solve CC LL a0 a1 a2 a3 = some R) : CC f_s_l10Solve [AVal.v (CVal.agg [CVal.int i64 a0, CVal.int i64 a1, CVal.int i64 a2, CVal.sl a3])] [] = some R := fnW (by decide) rfl (Eq.trans (b := nf_s_l10Solve CC LL a0 a1 a2 a3) (by kernel_rfl) h)
noncomputable def nf_s_l10Normal (C : CallT) (L : LoopT) (a0 : Int) (a1 : Int) (a2 : Int) (a3 : List CVal) (b : Int) : Option Ret :=
 br (decide (0 ≤ b) && true)
 (a3[b.toNat]?.bind fun y =>
 br (CVal.fits true 7 y)
 ((y.sub 0 7).bind fun y =>
 br (CVal.isAggN 7 y)
 ((y.cell 0).bind fun c =>
 (y.cell 1).bind fun c_1 =>
 (y.cell 2).bind fun c_2 =>
 (y.cell 3).bind fun c_3 =>
 (y.cell 4).bind fun c_4 =>
 (y.cell 5).bind fun c_5 =>
 (y.cell 6).bind fun c_6 =>
 (CVal.asInt i64 c).bind fun n =>
 br (decide (n = 15)) (some (CVal.sl [], []))
 ((CVal.asInt i64 c).bind fun n =>
 br (decide (n = 16)) (some (CVal.sl [], []))
 ((CVal.asInt i64 c).bind fun n =>
 br (decide (n = 13))
 (br (c_6.isFlat && true)
 ((CVal.asInt i64 c_6).bind fun n =>
 some (CVal.sl [CVal.int i64 n], []))
 none)
 ((CVal.asInt i64 c).bind fun n =>
 br (decide (n = 11))
 ((CVal.asInt i64 c_6).bind fun n =>
 br (decide (n < i64.wrap (b + 1)))
 (br (c_6.isFlat && true)
 ((CVal.asInt i64 c_6).bind fun n =>
 some
 (CVal.sl
 [CVal.int i64 n,
 CVal.int i64 (i64.wrap (b + 1))],
 []))
 none)
 ((CVal.asInt i64 c_6).bind fun n =>
 br (decide (i64.wrap (b + 1) < n))
 (br (c_6.isFlat && true)
 ((CVal.asInt i64 c_6).bind fun n =>
 some
 (CVal.sl
 [CVal.int i64 (i64.wrap (b + 1)),
 CVal.int i64 n],
 []))
 none)
 (some
 (CVal.sl [CVal.int i64 (i64.wrap (b + 1))],
 []))))
 ((CVal.asInt i64 c).bind fun n =>
 br (decide (n = 12))
 ((CVal.asInt i64 c_6).bind fun n =>
 br (decide (n < i64.wrap (b + 1)))
 (br (c_6.isFlat && true)
 ((CVal.asInt i64 c_6).bind fun n =>
 some
 (CVal.sl
 [CVal.int i64 n,
 CVal.int i64 (i64.wrap (b + 1))],
 []))
 none)
 ((CVal.asInt i64 c_6).bind fun n =>
 br (decide (i64.wrap (b + 1) < n))
 (br (c_6.isFlat && true)
 ((CVal.asInt i64 c_6).bind fun n =>
 some
 (CVal.sl
 [CVal.int i64 (i64.wrap (b + 1)),
 CVal.int i64 n],
 []))
 none)
 (some
 (CVal.sl
 [CVal.int i64 (i64.wrap (b + 1))],
 []))))
 (some
 (CVal.sl [CVal.int i64 (i64.wrap (b + 1))],
 [])))))))
 none)
 none)
 none
theorem go_s_l10Normal (a0 : Int) (a1 : Int) (a2 : Int) (a3 : List CVal) (b : Int) (R : Ret) (h : nf_s_l10Normal CC LL a0 a1 a2 a3 b = some R) : CC f_s_l10Normal [AVal.v (CVal.agg [CVal.int i64 a0, CVal.int i64 a1, CVal.int i64 a2, CVal.sl a3]),
 AVal.v (CVal.int i64 b)] [] = some R := fnW (by decide) rfl (Eq.trans (b := nf_s_l10Normal CC LL a0 a1 a2 a3 b) (by kernel_rfl) h)
noncomputable def nf_i_pieceOk_1 (C : CallT) (L : LoopT) (a0 : Int) (a1 : Int) (a2 : Int) (a3 : Int) (a4 : Int) (a5 : List CVal) (a6 : Int) (b0 : Int) (b1 : Int) (b2 : Int) (b3 : List CVal) : Option Ret :=
 (C f_i_insOk
 [AVal.v (CVal.agg [CVal.int i64 b0, CVal.int i64 b1, CVal.int i64 b2, CVal.sl b3]),
 AVal.v
 (CVal.agg
 [CVal.int i64 a0, CVal.int i64 a1, CVal.int i64 a2, CVal.int i64 a3,
 CVal.int i64 a4, CVal.sl a5, CVal.int i64 a6])]
 []).bind
 fun r => r.1.asBool.bind fun b => some (CVal.bool !b, [])
theorem go_i_pieceOk_1 (a0 : Int) (a1 : Int) (a2 : Int) (a3 : Int) (a4 : Int) (a5 : List CVal) (a6 : Int) (b0 : Int) (b1 : Int) (b2 : Int) (b3 : List CVal) (R : Ret) (h : nf_i_pieceOk_1 CC LL a0 a1 a2 a3 a4 a5 a6 b0 b1 b2 b3 = some R) : CC f_i_pieceOk_1 [AVal.v
 (CVal.agg
 [CVal.int i64 a0, CVal.int i64 a1, CVal.int i64 a2, CVal.int i64 a3,
 CVal.int i64 a4, CVal.sl a5, CVal.int i64 a6]),
 AVal.v
 ((CVal.agg [CVal.int i64 b0, CVal.int i64 b1, CVal.int i64 b2, CVal.sl b3]).fp 0)] [] = some R := fnW (by decide) rfl (Eq.trans (b := nf_i_pieceOk_1 CC LL a0 a1 a2 a3 a4 a5 a6 b0 b1 b2 b3) (by kernel_rfl) h)
noncomputable def nf_l_szIntS (C : CallT) (L : LoopT) (a : List CVal) (b : Int) : Option Ret :=
 br (decide (i64.wrap (b - (↑a.length : Int)) < 0)) (some (CVal.int i64 (-1 : Int), []))
 (some (CVal.int i64 (i64.wrap (b - (↑a.length : Int))), []))
theorem go_l_szIntS (a : List CVal) (b : Int) (R : Ret) (h : nf_l_szIntS CC LL a b = some R) : CC f_l_szIntS [AVal.v (CVal.sl a), AVal.v (CVal.int i64 b)] [] = some R := fnW (by decide) rfl (Eq.trans (b := nf_l_szIntS CC LL a b) (by kernel_rfl) h)
noncomputable def nf_s_l10Node (C : CallT) (L : LoopT) (a00 : Int) (a01 : Int) (a02 : Int) (a03 : List CVal) (a1 : List CVal) (a2 : Bool) (b : Int) : Option Ret :=
 br (decide (0 ≤ b) && true)
 (a03[b.toNat]?.bind fun y =>
 br (CVal.fits true 7 y)
 ((y.sub 0 7).bind fun y =>
 (C f_s_Reads [AVal.v y] []).bind fun r =>
 r.1.asSl.bind fun xs =>
 (L f_s_l10Node 0 lc_s_l10Node_0
 [PSh.box [none, none, none, none, some 1, none],
 PSh.arr (Md.mk true false 0) true 1]
 k_s_l10Node_0
 (((), b, xs, 0, ()), (a00, a01, a02, a03, (), a2, ()),
 (), a1, ())).bind
 fun r =>
 loK r (fun r => some r) fun j p =>
 br (j == 0)
 (br (decide (0 ≤ p.fst.snd.1) && true)
 (p.snd.fst.snd.snd.snd.1[Int.toNat p.fst.snd.1]?.bind fun y =>
 br (CVal.fits true 7 y)
 ((y.sub 0 7).bind fun y =>
 (C f_s_Writes [AVal.v y] []).bind fun r =>
 (C f_s_l10Normal
 [AVal.v
 (CVal.agg
 [CVal.int i64 p.snd.fst.1, CVal.int i64 p.snd.fst.snd.1,
 CVal.int i64 p.snd.fst.snd.snd.1, CVal.sl p.snd.fst.snd.snd.snd.1]),
 AVal.v (CVal.int i64 p.fst.snd.1)]
 []).bind
 fun r_1 =>
 (CVal.asInt i64 r.1).bind fun n =>
 r_1.1.asSl.bind fun xs =>
 (L f_s_l10Node 2 lc_s_l10Node_2
 [PSh.box [none, none, none, none, some 1, none],
 PSh.arr (Md.mk true false 0) true 1]
 k_s_l10Node_2
 (((), p.fst.snd.1, n, xs, 0, ()),
 (p.snd.fst.1, p.snd.fst.snd.1, p.snd.fst.snd.snd.1, p.snd.fst.snd.snd.snd.1,
 (), p.snd.fst.snd.snd.snd.snd.snd.1, ()),
 (), p.snd.snd.snd.1, ())).bind
 fun r =>
 loK r (fun r => some r) fun j p =>
 br (j == 2)
 ((C f_s_l10Guard
 [AVal.v
 (CVal.agg
 [CVal.int i64 p.snd.fst.1,
 CVal.int i64 p.snd.fst.snd.1,
 CVal.int i64 p.snd.fst.snd.snd.1,
 CVal.sl p.snd.fst.snd.snd.snd.1]),
 AVal.v (CVal.int i64 p.fst.snd.1)]
 []).bind
 fun r =>
 ((CVal.asInt i64 r.1).bind fun n =>
 br (decide (0 ≤ n))
 (br (decide (0 ≤ p.fst.snd.1) && true)
 (p.snd.fst.snd.snd.snd.1[Int.toNat p.fst.snd.1]?.bind fun y =>
 br (CVal.fits true 7 y)
 ((y.cell 0).bind fun c =>
 (C f_s_l10May [AVal.v c] []).bind fun r =>
 (bif true then r.1 else CVal.bool false).asBool.bind
 fun b => some (b, ()))
 none)
 none)
 (some (false, ()))).bind
 fun y =>
 br y.1
 (r.1.asIdx.bind fun y =>
 br (decide (0 ≤ y) && true)
 (p.snd.fst.snd.snd.snd.1[y.toNat]?.bind fun y =>
 br (CVal.fits true 7 y)
 ((y.cell 6).bind fun c =>
 r.1.asIdx.bind fun y =>
 br (decide (0 ≤ y) && true)
 (p.snd.fst.snd.snd.snd.1[y.toNat]?.bind fun y =>
 br (CVal.fits true 7 y)
 ((y.cell 1).bind fun c_1 =>
 (C f_s_l10From
 [AVal.lptr 0 0,
 AVal.v (CVal.int i64 p.fst.snd.1),
 AVal.v c, AVal.v c_1]
 [PB.box
 [AVal.v (CVal.int i64 p.snd.fst.1),
 AVal.v
 (CVal.int i64 p.snd.fst.snd.1),
 AVal.v
 (CVal.int i64
 p.snd.fst.snd.snd.1),
 AVal.v (CVal.sl p.snd.fst.snd.snd.snd.1),
 AVal.lref 1 0,
 AVal.v
 (CVal.bool
 p.snd.fst.snd.snd.snd.snd.snd.1)],
 PB.arr (Md.mk true false 0) true
 1 p.snd.snd.snd.1]).bind
 fun r =>
 r.2[0]?.bind fun y =>
 r.2[1]?.bind fun y_1 =>
 y[0]?.bind fun y_2 =>
 y[1]?.bind fun y_3 =>
 y[2]?.bind fun y_4 =>
 y[3]?.bind fun y_5 =>
 y[4]?.bind fun y_6 =>
 y[5]?.bind fun y =>
 y_6.asSl.bind fun xs =>
 some
 (CVal.tup [],
 [[y_2, y_3, y_4, y_5,
 CVal.sl xs, y],
 []]))
 none)
 none)
 none)
 none)
 (some
 (CVal.tup [],
 [[CVal.int i64 p.snd.fst.1,
 CVal.int i64 p.snd.fst.snd.1,
 CVal.int i64 p.snd.fst.snd.snd.1,
 CVal.sl p.snd.fst.snd.snd.snd.1, CVal.sl p.snd.snd.snd.1,
 CVal.bool p.snd.fst.snd.snd.snd.snd.snd.1],
 []])))
 none)
 none)
 none)
 none)
 none)
 none
theorem go_s_l10Node (a00 : Int) (a01 : Int) (a02 : Int) (a03 : List CVal) (a1 : List CVal) (a2 : Bool) (b : Int) (R : Ret) (h : nf_s_l10Node CC LL a00 a01 a02 a03 a1 a2 b = some R) : CC f_s_l10Node [AVal.lptr 0 0, AVal.v (CVal.int i64 b)] [PB.box
 [AVal.v (CVal.int i64 a00), AVal.v (CVal.int i64 a01), AVal.v (CVal.int i64 a02),
 AVal.v (CVal.sl a03), AVal.lref 1 0, AVal.v (CVal.bool a2)],
 PB.arr (Md.mk true false 0) true 1 a1] = some R := fnW (by decide) rfl (Eq.trans (b := nf_s_l10Node CC LL a00 a01 a02 a03 a1 a2 b) (by kernel_rfl) h)
noncomputable def nf_i_things (C : CallT) (L : LoopT) (a : List CVal) : Option Ret :=
 (L f_i_things 0 lc_i_things_0 [] k_i_things_0
 (((), a, (↑a.length : Int), 0, ()), [], ())).bind
 fun r => loK r (fun r => some r) fun j p => br (j == 0) (some (CVal.sl p.snd.1, [])) none
theorem go_i_things (a : List CVal) (R : Ret) (h : nf_i_things CC LL a = some R) : CC f_i_things [AVal.v (CVal.sl a)] [] = some R := fnW (by decide) rfl (Eq.trans (b := nf_i_things CC LL a) (by kernel_rfl) h)
noncomputable def nf_s_Reads (C : CallT) (L : LoopT) (a0 : Int) (a1 : Int) (a2 : Int) (a3 : Int) (a4 : Int) (a5 : List CVal) (a6 : Int) : Option Ret :=
 (C f_s_l9Uses [AVal.v (CVal.int i64 a0)] []).bind fun r =>
 br (CVal.isAggN 4 r.1)
 ((r.1.cell 0).bind fun c =>
 (r.1.cell 1).bind fun c =>
 (r.1.cell 2).bind fun c_1 =>
 (r.1.cell 3).bind fun c_2 =>
 c.asBool.bind fun b =>
 br b
 ((C f_s_l10Add [AVal.v (CVal.sl []), AVal.v (CVal.int i64 a2)] []).bind fun r =>
 c_1.asBool.bind fun b =>
 br b
 ((C f_s_l10Add [AVal.v r.1, AVal.v (CVal.int i64 a3)] []).bind fun r =>
 r.1.asSl.bind fun xs =>
 (L f_s_Reads 0 lc_s_Reads_0 [] k_s_Reads_0
 (((), xs, 0, ()), (a0, a1, a2, a3, a4, a5, a6, ()),
 ())).bind
 fun r =>
 loK r (fun r => some r) fun j p =>
 br (j == 0) (some (CVal.sl p.fst.snd.1, [])) none)
 (r.1.asSl.bind fun xs =>
 (L f_s_Reads 0 lc_s_Reads_0 [] k_s_Reads_0
 (((), xs, 0, ()), (a0, a1, a2, a3, a4, a5, a6, ()),
 ())).bind
 fun r =>
 loK r (fun r => some r) fun j p => br (j == 0) (some (CVal.sl p.fst.snd.1, [])) none))
 (c_1.asBool.bind fun b =>
 br b
 ((C f_s_l10Add [AVal.v (CVal.sl []), AVal.v (CVal.int i64 a3)] []).bind fun r =>
 r.1.asSl.bind fun xs =>
 (L f_s_Reads 0 lc_s_Reads_0 [] k_s_Reads_0
 (((), xs, 0, ()), (a0, a1, a2, a3, a4, a5, a6, ()),
 ())).bind
 fun r =>
 loK r (fun r => some r) fun j p => br (j == 0) (some (CVal.sl p.fst.snd.1, [])) none)
 ((L f_s_Reads 0 lc_s_Reads_0 [] k_s_Reads_0
 (((), [], 0, ()), (a0, a1, a2, a3, a4, a5, a6, ()),
 ())).bind
 fun r =>
 loK r (fun r => some r) fun j p => br (j == 0) (some (CVal.sl p.fst.snd.1, [])) none)))
 none
theorem go_s_Reads (a0 : Int) (a1 : Int) (a2 : Int) (a3 : Int) (a4 : Int) (a5 : List CVal) (a6 : Int) (R : Ret) (h : nf_s_Reads CC LL a0 a1 a2 a3 a4 a5 a6 = some R) : CC f_s_Reads [AVal.v
 (CVal.agg
 [CVal.int i64 a0, CVal.int i64 a1, CVal.int i64 a2, CVal.int i64 a3,
 CVal.int i64 a4, CVal.sl a5, CVal.int i64 a6])] [] = some R := fnW (by decide) rfl (Eq.trans (b := nf_s_Reads CC LL a0 a1 a2 a3 a4 a5 a6) (by kernel_rfl) h)
noncomputable def nf_s_l10May (C : CallT) (L : LoopT) (a : Int) : Option Ret :=
 br (decide (a = 5)) (some (CVal.bool true, []))
 (br (decide (a = 14)) (some (CVal.bool true, []))
 (br (decide (a = 16)) (some (CVal.bool true, []))
 (br (decide (a = 9)) (some (CVal.bool true, []))
 (br (decide (a = 10)) (some (CVal.bool true, []))
 (br (decide (a = 11)) (some (CVal.bool true, []))
 (br (decide (a = 12)) (some (CVal.bool true, [])) (some (CVal.bool false, []))))))))
theorem go_s_l10May (a : Int) (R : Ret) (h : nf_s_l10May CC LL a = some R) : CC f_s_l10May [AVal.v (CVal.int i64 a)] [] = some R := fnW (by decide) rfl (Eq.trans (b := nf_s_l10May CC LL a) (by kernel_rfl) h)
noncomputable def nf_i_fieldOk (C : CallT) (L : LoopT) (a : Int) (b : Bool) (c : Int) : Option Ret :=
 br b
 ((br (decide (0 ≤ a)) (some (decide (a < c), ())) (some (false, ()))).bind fun y =>
 some (CVal.bool y.1, []))
 (some (CVal.bool (decide (a = 0)), []))
theorem go_i_fieldOk (a : Int) (b : Bool) (c : Int) (R : Ret) (h : nf_i_fieldOk CC LL a b c = some R) : CC f_i_fieldOk [AVal.v (CVal.int i64 a), AVal.v (CVal.bool b), AVal.v (CVal.int i64 c)] [] = some R := fnW (by decide) rfl (Eq.trans (b := nf_i_fieldOk CC LL a b c) (by kernel_rfl) h)
noncomputable def nf_slices_Equal_bool (C : CallT) (L : LoopT) (a : List CVal) (b : List CVal) : Option Ret :=
 br (!decide ((↑a.length : Int) = (↑b.length : Int))) (some (CVal.bool false, []))
 ((L f_slices_Equal_bool 0 lc_slices_Equal_bool_0 [] k_slices_Equal_bool_0
 ((a, b, (↑a.length : Int), 0, ()), ())).bind
 fun r => loK r (fun r => some r) fun j p => br (j == 0) (some (CVal.bool true, [])) none)
theorem go_slices_Equal_bool (a : List CVal) (b : List CVal) (R : Ret) (h : nf_slices_Equal_bool CC LL a b = some R) : CC f_slices_Equal_bool [AVal.v (CVal.sl a), AVal.v (CVal.sl b)] [] = some R := fnW (by decide) rfl (Eq.trans (b := nf_slices_Equal_bool CC LL a b) (by kernel_rfl) h)
noncomputable def nf_slices_IndexFunc_int (C : CallT) (L : LoopT) (a : List CVal) (b : CVal) : Option Ret :=
 (L f_slices_IndexFunc_int 0 lc_slices_IndexFunc_int_0 [] k_slices_IndexFunc_int_0
 ((a, b, (↑a.length : Int), 0, ()), ())).bind
 fun r => loK r (fun r => some r) fun j p => br (j == 0) (some (CVal.int i64 (-1 : Int), [])) none
theorem go_slices_IndexFunc_int (a : List CVal) (b : CVal) (R : Ret) (h : nf_slices_IndexFunc_int CC LL a b = some R) : CC f_slices_IndexFunc_int [AVal.v (CVal.sl a), AVal.v b] [] = some R := fnW (by decide) rfl (Eq.trans (b := nf_slices_IndexFunc_int CC LL a b) (by kernel_rfl) h)
noncomputable def nf_i_wanted_1 (C : CallT) (L : LoopT) (a : Int) (b : Int) (c : List CVal) (d : List CVal) : Option Ret :=
 br (decide (0 ≤ a) && true)
 (c[a.toNat]?.bind fun y =>
 br (CVal.fits false 1 y)
 ((y.cell 0).bind fun c =>
 c.asSl.bind fun xs =>
 c.asSl.bind fun xs_1 =>
 (L f_i_wanted_1 0 lc_i_wanted_1_0
 [PSh.box [some 1], PSh.arr (Md.mk true false 0) true 1] k_i_wanted_1_0
 ((b, (), xs_1, (↑xs.length : Int), 0, ()), ((), ()),
 (), d, ())).bind
 fun r =>
 loK r (fun r => some r) fun j p =>
 br (j == 0) (some (CVal.tup [], [[CVal.sl p.snd.snd.snd.1], []])) none)
 none)
 none
theorem go_i_wanted_1 (a : Int) (b : Int) (c : List CVal) (d : List CVal) (R : Ret) (h : nf_i_wanted_1 CC LL a b c d = some R) : CC f_i_wanted_1 [AVal.v (CVal.int i64 a), AVal.v (CVal.int i64 b), AVal.v ((CVal.sl c).fp 0),
 AVal.lptr 0 0] [PB.box [AVal.lref 1 0], PB.arr (Md.mk true false 0) true 1 d] = some R := fnW (by decide) rfl (Eq.trans (b := nf_i_wanted_1 CC LL a b c d) (by kernel_rfl) h)
noncomputable def nl_s_SlotsOk_0 (C : CallT) (L : LoopT) (x00 : List CVal) (x02 : List CVal) (x03 : Int) (x10 : Int) (x11 : Int) (x12 : Int) (x13 : List CVal) : Option (LO k_s_SlotsOk_0.T) :=
 br (decide (x03 < x12))
 ((br (decide (0 ≤ x03) && true)
 (x00[x03.toNat]?.bind fun y =>
 br (CVal.fits false 1 y)
 ((y.cell 0).bind fun c =>
 (CVal.asInt i64 c).bind fun n =>
 br (decide (n < 0)) (some (true, ()))
 (br (decide (x03 < x11))
 (br (decide (0 ≤ x03) && true)
 (x00[x03.toNat]?.bind fun y =>
 br (CVal.fits false 1 y)
 ((y.cell 0).bind fun c =>
 (CVal.asInt i64 c).bind fun n => some (!decide (n = x03), ()))
 none)
 none)
 (some (false, ()))))
 none)
 none).bind
 fun y =>
 br y.1 (some (LO.ret (CVal.bool false, [])))
 ((L f_s_SlotsOk 2 lc_s_SlotsOk_2 [] k_s_SlotsOk_2
 ((x00, (), x02, x03, 0, ()), (x10, x11, x12, x13, ()), ())).bind
 fun r =>
 loK r (fun r => some (LO.ret r)) fun j p =>
 br (j == 2)
 (L f_s_SlotsOk 0 lc_s_SlotsOk_0 [] k_s_SlotsOk_0
 ((p.fst.1, (), p.fst.snd.snd.1, i64.wrap (p.fst.snd.snd.snd.1 + 1), ()),
 (p.snd.fst.1, p.snd.fst.snd.1, p.snd.fst.snd.snd.1, p.snd.fst.snd.snd.snd.1, ()), ()))
 (br (j == 1)
 (L f_s_SlotsOk 0 lc_s_SlotsOk_0 [] k_s_SlotsOk_0
 ((p.fst.1, (), p.fst.snd.snd.1, i64.wrap (p.fst.snd.snd.snd.1 + 1), ()),
 (p.snd.fst.1, p.snd.fst.snd.1, p.snd.fst.snd.snd.1, p.snd.fst.snd.snd.snd.1, ()), ()))
 (some
 (LO.out j
 ((p.fst.1, (), p.fst.snd.snd.1, p.fst.snd.snd.snd.1, ()),
 (p.snd.fst.1, p.snd.fst.snd.1, p.snd.fst.snd.snd.1, p.snd.fst.snd.snd.snd.1, ()),
 ()))))))
 (some (LO.out 0 ((x00, (), x02, x03, ()), (x10, x11, x12, x13, ()), ())))
theorem gl_s_SlotsOk_0 (x00 : List CVal) (x02 : List CVal) (x03 : Int) (x10 : Int) (x11 : Int) (x12 : Int) (x13 : List CVal) (R : LO k_s_SlotsOk_0.T) (h : nl_s_SlotsOk_0 CC LL x00 x02 x03 x10 x11 x12 x13 = some R) : LL f_s_SlotsOk 0 lc_s_SlotsOk_0 [] k_s_SlotsOk_0 ((x00, (), x02, x03, ()), (x10, x11, x12, x13, ()), ()) = some R := loopW (Eq.trans (b := nl_s_SlotsOk_0 CC LL x00 x02 x03 x10 x11 x12 x13) (by kernel_rfl) h)
noncomputable def nl_l_toInsS_0 (C : CallT) (L : LoopT) (x00 : List CVal) (x02 : Int) (x1 : List CVal) : Option (LO k_l_toInsS_0.T) :=
 br (decide (x02 < (↑x00.length : Int)))
 (br (decide (0 ≤ x02) && true)
 (x00[x02.toNat]?.bind fun y =>
 br (CVal.fits true 7 y)
 ((y.sub 0 7).bind fun y =>
 (C f_l_toIns [AVal.v y] []).bind fun r =>
 br (CVal.isAggN 7 r.1)
 ((r.1.cell 0).bind fun c =>
 (r.1.cell 1).bind fun c_1 =>
 (r.1.cell 2).bind fun c_2 =>
 (r.1.cell 3).bind fun c_3 =>
 (r.1.cell 4).bind fun c_4 =>
 (r.1.cell 5).bind fun c_5 =>
 (r.1.cell 6).bind fun c_6 =>
 c_5.asSl.bind fun xs =>
 br (decide (0 ≤ x02) && true)
 (br (decide (x02.toNat < x1.length) && true)
 ((CVal.asInt i64 c).bind fun n =>
 (CVal.asInt i64 c_1).bind fun n_1 =>
 (CVal.asInt i64 c_2).bind fun n_2 =>
 (CVal.asInt i64 c_3).bind fun n_3 =>
 (CVal.asInt i64 c_4).bind fun n_4 =>
 (CVal.asInt i64 c_6).bind fun n_5 =>
 x1[x02.toNat]?.bind fun y =>
 br (CVal.fits true 7 y)
 (L f_l_toInsS 0 lc_l_toInsS_0 [] k_l_toInsS_0
 ((x00, (), i64.wrap (x02 + 1), ()),
 x1.set x02.toNat
 (CVal.agg
 [CVal.int i64 n, CVal.int i64 n_1,
 CVal.int i64 n_2, CVal.int i64 n_3,
 CVal.int i64 n_4, CVal.sl xs,
 CVal.int i64 n_5]),
 ()))
 (br (y.isAgg && decide (7 ≤ y.cells.length))
 (L f_l_toInsS 0 lc_l_toInsS_0 [] k_l_toInsS_0
 ((x00, (), i64.wrap (x02 + 1),
 ()),
 x1.set x02.toNat
 (CVal.agg
 (CVal.int i64 n ::
 CVal.int i64 n_1 ::
 CVal.int i64 n_2 ::
 CVal.int i64 n_3 ::
 CVal.int i64 n_4 ::
 CVal.sl xs ::
 CVal.int i64 n_5 ::
 List.drop 7 y.cells)),
 ()))
 none))
 none)
 none)
 none)
 none)
 none)
 (some (LO.out 0 ((x00, (), x02, ()), x1, ())))
theorem gl_l_toInsS_0 (x00 : List CVal) (x02 : Int) (x1 : List CVal) (R : LO k_l_toInsS_0.T) (h : nl_l_toInsS_0 CC LL x00 x02 x1 = some R) : LL f_l_toInsS 0 lc_l_toInsS_0 [] k_l_toInsS_0 ((x00, (), x02, ()), x1, ()) = some R := loopW (Eq.trans (b := nl_l_toInsS_0 CC LL x00 x02 x1) (by kernel_rfl) h)
noncomputable def nl_s_l11Table_6 (C : CallT) (L : LoopT) (x00 : CVal) (x01 : List CVal) (x03 : Int) (x1 : List CVal) : Option (LO k_s_l11Table_6.T) :=
 x00.asFp.bind fun y =>
 (y.1.cell (y.2 + 3)).bind fun c =>
 c.asSl.bind fun xs =>
 br (decide (x03 < (↑xs.length : Int)))
 (br (decide (0 ≤ x03) && true)
 (x01[x03.toNat]?.bind fun y =>
 br (CVal.fits false 1 y)
 ((y.cell 0).bind fun c =>
 (C f_s_l11All [AVal.lref 0 0, AVal.v c]
 [PB.arr (Md.mk true true 0) false 1 x1]).bind
 fun r =>
 r.2[0]?.bind fun y =>
 x00.asFp.bind fun y_1 =>
 (y_1.1.cell (y_1.2 + 3)).bind fun c =>
 br (decide (0 ≤ x03) && true)
 (c.asSl.bind fun xs =>
 xs[x03.toNat]?.bind fun y_2 =>
 br (CVal.fits true 7 y_2)
 ((y_2.sub 0 7).bind fun y_3 =>
 (C f_s_Writes [AVal.v y_3] []).bind fun r =>
 x00.asFp.bind fun y_4 =>
 (y_4.1.sub y_4.2 4).bind fun y_5 =>
 (C f_s_l10Normal [AVal.v y_5, AVal.v (CVal.int i64 x03)] []).bind
 fun r_1 =>
 br r_1.1.isFlat
 (r_1.1.asSl.bind fun xs =>
 x00.asFp.bind fun y_6 =>
 (y_6.1.cell (y_6.2 + 3)).bind fun c =>
 br (decide (0 ≤ x03) && true)
 (c.asSl.bind fun xs_1 =>
 xs_1[x03.toNat]?.bind fun y_7 =>
 br (CVal.fits true 7 y_7)
 ((y_7.cell 0).bind fun c =>
 (CVal.asInt i64 c).bind fun n =>
 br (decide (n = 17))
 (x00.asFp.bind fun y_8 =>
 (y_8.1.cell (y_8.2 + 3)).bind fun c =>
 br (decide (0 ≤ x03) && true)
 (c.asSl.bind fun xs =>
 xs[x03.toNat]?.bind fun y_9 =>
 br (CVal.fits true 7 y_9)
 ((y_9.cell 1).bind fun c =>
 x00.asFp.bind fun y_10 =>
 (y_10.1.cell (y_10.2 + 3)).bind
 fun c_1 =>
 br (decide (0 ≤ x03) && true)
 (c_1.asSl.bind fun xs =>
 xs[x03.toNat]?.bind fun y_11 =>
 br
 (CVal.fits true 7
 y_11)
 ((y_11.cell 6).bind
 fun c_2 =>
 br (c_2.isFlat && true)
 ((CVal.asInt i64
 c_2).bind
 fun n =>
 (CVal.asInt i64
 c).bind
 fun n_1 =>
 (L f_s_l11Table
 8
 lc_s_l11Table_8
 []
 k_s_l11Table_8
 ((x00, x01,
 (),
 x03, n_1,
 (),
 0,
 ()),
 y,
 [CVal.int
 i64
 n],
 ())).bind
 fun r =>
 loK r
 (fun r =>
 some (LO.ret r))
 fun j p =>
 br
 (j == 8)
 (L f_s_l11Table
 6
 lc_s_l11Table_6
 []
 k_s_l11Table_6
 ((p.fst.1,
 p.fst.snd.1,
 (),
 i64.wrap
 (p.fst.snd.snd.snd.1 +
 (1 :
 Int)),
 ()),
 p.snd.1,
 ()))
 (br
 (j ==
 7)
 (L
 f_s_l11Table
 6
 lc_s_l11Table_6
 []
 k_s_l11Table_6
 ((p.fst.1,
 p.fst.snd.1,
 (),
 i64.wrap
 (p.fst.snd.snd.snd.1 +
 (1 :
 Int)),
 ()),
 p.snd.1,
 ()))
 (some
 (LO.out j
 ((p.fst.1,
 p.fst.snd.1,
 (),
 p.fst.snd.snd.snd.1,
 ()),
 p.snd.1,
 ())))))
 none)
 none)
 none)
 none)
 none)
 ((CVal.asInt i64 r.1).bind fun n =>
 (L f_s_l11Table 8 lc_s_l11Table_8 []
 k_s_l11Table_8
 ((x00, x01, (), x03, n, (),
 0, ()),
 y, xs, ())).bind
 fun r =>
 loK r (fun r => some (LO.ret r)) fun j p =>
 br (j == 8)
 (L f_s_l11Table 6 lc_s_l11Table_6 []
 k_s_l11Table_6
 ((p.fst.1, p.fst.snd.1, (),
 i64.wrap
 (p.fst.snd.snd.snd.1 + 1),
 ()),
 p.snd.1, ()))
 (br (j == 7)
 (L f_s_l11Table 6 lc_s_l11Table_6 []
 k_s_l11Table_6
 ((p.fst.1, p.fst.snd.1, (),
 i64.wrap
 (p.fst.snd.snd.snd.1 + 1),
 ()),
 p.snd.1, ()))
 (some
 (LO.out j
 ((p.fst.1, p.fst.snd.1, (),
 p.fst.snd.snd.snd.1, ()),
 p.snd.1, ()))))))
 none)
 none)
 none)
 none)
 none)
 none)
 none)
 (some (LO.out 6 ((x00, x01, (), x03, ()), x1, ())))
theorem gl_s_l11Table_6 (x00 : CVal) (x01 : List CVal) (x03 : Int) (x1 : List CVal) (R : LO k_s_l11Table_6.T) (h : nl_s_l11Table_6 CC LL x00 x01 x03 x1 = some R) : LL f_s_l11Table 6 lc_s_l11Table_6 [] k_s_l11Table_6 ((x00, x01, (), x03, ()), x1, ()) = some R := loopW (Eq.trans (b := nl_s_l11Table_6 CC LL x00 x01 x03 x1) (by kernel_rfl) h)
noncomputable def nl_i_Clashes_2 (C : CallT) (L : LoopT) (x01 : Int) (x02 : List CVal) (x03 : Int) (x04 : Int) (x05 : List CVal) (x06 : Int) (x07 : Int) (x1 : List CVal) : Option (LO k_i_Clashes_2.T) :=
 br (decide (x07 < x06))
 (br (decide (0 ≤ x07) && true)
 (x05[x07.toNat]?.bind fun y =>
 br (CVal.fits false 1 y)
 ((y.cell 0).bind fun c =>
 (c.asBool.bind fun b => br b (some (decide (x01 < x07), ())) (some (false, ()))).bind fun y =>
 br y.1
 (br (decide (x1.length + 1 ≤ 4294967296) && true && true)
 (L f_i_Clashes 2 lc_i_Clashes_2 [] k_i_Clashes_2
 (((), x01, x02, x03, x04, x05, x06, i64.wrap (x07 + 1), ()),
 x1 ++ [CVal.agg [CVal.int i64 x01, CVal.int i64 x07]], ()))
 none)
 (L f_i_Clashes 2 lc_i_Clashes_2 [] k_i_Clashes_2
 (((), x01, x02, x03, x04, x05, x06, i64.wrap (x07 + 1), ()), x1,
 ())))
 none)
 none)
 (some (LO.out 2 (((), x01, x02, x03, x04, x05, x06, x07, ()), x1, ())))
theorem gl_i_Clashes_2 (x01 : Int) (x02 : List CVal) (x03 : Int) (x04 : Int) (x05 : List CVal) (x06 : Int) (x07 : Int) (x1 : List CVal) (R : LO k_i_Clashes_2.T) (h : nl_i_Clashes_2 CC LL x01 x02 x03 x04 x05 x06 x07 x1 = some R) : LL f_i_Clashes 2 lc_i_Clashes_2 [] k_i_Clashes_2 (((), x01, x02, x03, x04, x05, x06, x07, ()), x1, ()) = some R := loopW (Eq.trans (b := nl_i_Clashes_2 CC LL x01 x02 x03 x04 x05 x06 x07 x1) (by kernel_rfl) h)
noncomputable def nl_s_l9Ins_3 (C : CallT) (L : LoopT) (x01 : Int) (x10 : Int) (x11 : Int) (x12 : Int) (x13 : Int) (x14 : Int) (x15 : List CVal) (x16 : Int) : Option (LO k_s_l9Ins_3.T) :=
 br (decide (x01 < (↑x15.length : Int)))
 (br (decide (0 ≤ i64.wrap (x01 - 1)) && true)
 (x15[(i64.wrap (x01 - 1)).toNat]?.bind fun y =>
 br (CVal.fits false 1 y)
 ((y.cell 0).bind fun c =>
 br (decide (0 ≤ x01) && true)
 (x15[x01.toNat]?.bind fun y =>
 br (CVal.fits false 1 y)
 ((y.cell 0).bind fun c_1 =>
 (CVal.asInt i64 c).bind fun n =>
 (CVal.asInt i64 c_1).bind fun n_1 =>
 br (decide (n_1 ≤ n)) (some (LO.ret (CVal.bool false, [])))
 (L f_s_l9Ins 3 lc_s_l9Ins_3 [] k_s_l9Ins_3
 (((), i64.wrap (x01 + 1), ()),
 (x10, x11, x12, x13, x14, x15, x16, ()), ())))
 none)
 none)
 none)
 none)
 (some (LO.out 3 (((), x01, ()), (x10, x11, x12, x13, x14, x15, x16, ()), ())))
theorem gl_s_l9Ins_3 (x01 : Int) (x10 : Int) (x11 : Int) (x12 : Int) (x13 : Int) (x14 : Int) (x15 : List CVal) (x16 : Int) (R : LO k_s_l9Ins_3.T) (h : nl_s_l9Ins_3 CC LL x01 x10 x11 x12 x13 x14 x15 x16 = some R) : LL f_s_l9Ins 3 lc_s_l9Ins_3 [] k_s_l9Ins_3 (((), x01, ()), (x10, x11, x12, x13, x14, x15, x16, ()), ()) = some R := loopW (Eq.trans (b := nl_s_l9Ins_3 CC LL x01 x10 x11 x12 x13 x14 x15 x16) (by kernel_rfl) h)
noncomputable def nl_s_l11All_0 (C : CallT) (L : LoopT) (x01 : List CVal) (x02 : Int) (x1 : List CVal) : Option (LO k_s_l11All_0.T) :=
 br (decide (x02 < (↑x01.length : Int)))
 ((L f_s_l11All 2 lc_s_l11All_2 [PSh.arr (Md.mk true true 0) false 1] k_s_l11All_2
 (((), x01, x02, 0, ()), x1, ())).bind
 fun r =>
 loK r (fun r => some (LO.ret r)) fun j p =>
 br (j == 2)
 (L f_s_l11All 0 lc_s_l11All_0 [PSh.arr (Md.mk true true 0) false 1] k_s_l11All_0
 (((), p.fst.snd.1, i64.wrap (p.fst.snd.snd.1 + 1), ()), p.snd.1, ()))
 (br (j == 1)
 (L f_s_l11All 0 lc_s_l11All_0 [PSh.arr (Md.mk true true 0) false 1] k_s_l11All_0
 (((), p.fst.snd.1, i64.wrap (p.fst.snd.snd.1 + 1), ()), p.snd.1,
 ()))
 (some (LO.out j (((), p.fst.snd.1, p.fst.snd.snd.1, ()), p.snd.1, ())))))
 (some (LO.out 0 (((), x01, x02, ()), x1, ())))
theorem gl_s_l11All_0 (x01 : List CVal) (x02 : Int) (x1 : List CVal) (R : LO k_s_l11All_0.T) (h : nl_s_l11All_0 CC LL x01 x02 x1 = some R) : LL f_s_l11All 0 lc_s_l11All_0 [PSh.arr (Md.mk true true 0) false 1] k_s_l11All_0 (((), x01, x02, ()), x1, ()) = some R := loopW (Eq.trans (b := nl_s_l11All_0 CC LL x01 x02 x1) (by kernel_rfl) h)
noncomputable def nl_i_clashes_8 (C : CallT) (L : LoopT) (x00 : CVal) (x03 : List CVal) (x05 : Int) (x06 : List CVal) (x07 : Int) (x08 : Int) (x09 : List CVal) (x010 : Int) (x011 : Int) (x2 : List CVal) (x30 : Int) (x31 : Int) (x32 : Int) (x33 : Int) (x34 : Int) (x35 : List CVal) (x36 : Int) : Option (LO k_i_clashes_8.T) :=
 br (decide (x011 < x010))
 (br (decide (0 ≤ x011) && true)
 (x09[x011.toNat]?.bind fun y =>
 br (CVal.fits false 1 y)
 ((y.cell 0).bind fun c =>
 (C f_i_clashes_1 [AVal.v (CVal.int i64 x05), AVal.v c, AVal.lptr 0 0]
 [PB.box [AVal.lref 1 0], PB.arr (Md.mk true false 0) true 1 x2]).bind
 fun r =>
 r.2[0]?.bind fun y =>
 r.2[1]?.bind fun y_1 =>
 y[0]?.bind fun y =>
 y.asSl.bind fun xs =>
 L f_i_clashes 8 lc_i_clashes_8 [] k_i_clashes_8
 ((x00, (), (), x03, (), x05, x06, x07, x08, x09, x010,
 i64.wrap (x011 + 1), ()),
 ((), ()), xs, (x30, x31, x32, x33, x34, x35, x36, ()), ()))
 none)
 none)
 (some
 (LO.out 8
 ((x00, (), (), x03, (), x05, x06, x07, x08, x09, x010, x011, ()),
 ((), ()), x2, (x30, x31, x32, x33, x34, x35, x36, ()), ())))
theorem gl_i_clashes_8 (x00 : CVal) (x03 : List CVal) (x05 : Int) (x06 : List CVal) (x07 : Int) (x08 : Int) (x09 : List CVal) (x010 : Int) (x011 : Int) (x2 : List CVal) (x30 : Int) (x31 : Int) (x32 : Int) (x33 : Int) (x34 : Int) (x35 : List CVal) (x36 : Int) (R : LO k_i_clashes_8.T) (h : nl_i_clashes_8 CC LL x00 x03 x05 x06 x07 x08 x09 x010 x011 x2 x30 x31 x32 x33 x34 x35 x36 = some R) : LL f_i_clashes 8 lc_i_clashes_8 [] k_i_clashes_8 ((x00, (), (), x03, (), x05, x06, x07, x08, x09, x010, x011, ()), ((), ()), x2, (x30, x31, x32, x33, x34, x35, x36, ()),
 ()) = some R := loopW (Eq.trans (b := nl_i_clashes_8 CC LL x00 x03 x05 x06 x07 x08 x09 x010 x011 x2 x30 x31 x32 x33 x34 x35 x36) (by kernel_rfl) h)
noncomputable def nl_i_clashes_0 (C : CallT) (L : LoopT) (x00 : CVal) (x02 : Int) (x03 : Int) (x2 : List CVal) : Option (LO k_i_clashes_0.T) :=
 br (decide (x03 < x02))
 (x00.asFp.bind fun y =>
 (y.1.cell (y.2 + 2)).bind fun c =>
 c.asIdx.bind fun y =>
 c.asIdx.bind fun y_1 =>
 br (decide (0 ≤ y) && decide (y = y_1) && decide (y ≤ 1048576))
 (br (decide (x2.length + 1 ≤ 4294967296) && true && true)
 (L f_i_clashes 0 lc_i_clashes_0 [] k_i_clashes_0
 ((x00, (), x02, i64.wrap (x03 + 1), ()), ((), ()),
 x2 ++ [CVal.sl (List.replicate y.toNat (CVal.bool false))], ()))
 none)
 none)
 (some (LO.out 0 ((x00, (), x02, x03, ()), ((), ()), x2, ())))
theorem gl_i_clashes_0 (x00 : CVal) (x02 : Int) (x03 : Int) (x2 : List CVal) (R : LO k_i_clashes_0.T) (h : nl_i_clashes_0 CC LL x00 x02 x03 x2 = some R) : LL f_i_clashes 0 lc_i_clashes_0 [] k_i_clashes_0 ((x00, (), x02, x03, ()), ((), ()), x2, ()) = some R := loopW (Eq.trans (b := nl_i_clashes_0 CC LL x00 x02 x03 x2) (by kernel_rfl) h)
noncomputable def nl_s_l10Node_0 (C : CallT) (L : LoopT) (x01 : Int) (x02 : List CVal) (x03 : Int) (x10 : Int) (x11 : Int) (x12 : Int) (x13 : List CVal) (x15 : Bool) (x3 : List CVal) : Option (LO k_s_l10Node_0.T) :=
 br (decide (x03 < (↑x02.length : Int)))
 (br (decide (0 ≤ x03) && true)
 (x02[x03.toNat]?.bind fun y =>
 br (CVal.fits false 1 y)
 ((y.cell 0).bind fun c =>
 (C f_s_l10Set [AVal.lptr 0 0, AVal.v (CVal.int i64 x01), AVal.v c]
 [PB.box
 [AVal.v (CVal.int i64 x10), AVal.v (CVal.int i64 x11),
 AVal.v (CVal.int i64 x12), AVal.v (CVal.sl x13), AVal.lref 1 0,
 AVal.v (CVal.bool x15)],
 PB.arr (Md.mk true false 0) true 1 x3]).bind
 fun r =>
 r.2[0]?.bind fun y =>
 r.2[1]?.bind fun y_1 =>
 y[0]?.bind fun y_2 =>
 y[1]?.bind fun y_3 =>
 y[2]?.bind fun y_4 =>
 y[3]?.bind fun y_5 =>
 y[4]?.bind fun y_6 =>
 y[5]?.bind fun y =>
 y_6.asSl.bind fun xs =>
 (CVal.asInt i64 y_2).bind fun n =>
 (CVal.asInt i64 y_3).bind fun n_1 =>
 (CVal.asInt i64 y_4).bind fun n_2 =>
 y_5.asSl.bind fun xs_1 =>
 y.asBool.bind fun b =>
 L f_s_l10Node 0 lc_s_l10Node_0
 [PSh.box [none, none, none, none, some 1, none],
 PSh.arr (Md.mk true false 0) true 1]
 k_s_l10Node_0
 (((), x01, x02, i64.wrap (x03 + 1), ()),
 (n, n_1, n_2, xs_1, (), b, ()), (), xs, ()))
 none)
 none)
 (some
 (LO.out 0
 (((), x01, x02, x03, ()), (x10, x11, x12, x13, (), x15, ()), (), x3,
 ())))
theorem gl_s_l10Node_0 (x01 : Int) (x02 : List CVal) (x03 : Int) (x10 : Int) (x11 : Int) (x12 : Int) (x13 : List CVal) (x15 : Bool) (x3 : List CVal) (R : LO k_s_l10Node_0.T) (h : nl_s_l10Node_0 CC LL x01 x02 x03 x10 x11 x12 x13 x15 x3 = some R) : LL f_s_l10Node 0 lc_s_l10Node_0 [PSh.box [none, none, none, none, some 1, none], PSh.arr (Md.mk true false 0) true 1] k_s_l10Node_0 (((), x01, x02, x03, ()), (x10, x11, x12, x13, (), x15, ()), (), x3, ()) = some R := loopW (Eq.trans (b := nl_s_l10Node_0 CC LL x01 x02 x03 x10 x11 x12 x13 x15 x3) (by kernel_rfl) h)
noncomputable def nl_i_liveSets_2 (C : CallT) (L : LoopT) (x00 : CVal) (x02 : Bool) (x1 : List CVal) : Option (LO k_i_liveSets_2.T) :=
 br x02
 (x00.asFp.bind fun y =>
 (y.1.cell (y.2 + 3)).bind fun c =>
 c.asSl.bind fun xs =>
 (L f_i_liveSets 4 lc_i_liveSets_4 [] k_i_liveSets_4
 ((x00, (), false, i64.wrap ((↑xs.length : Int) - 1), ()), x1,
 ())).bind
 fun r =>
 loK r (fun r => some (LO.ret r)) fun j p =>
 br (j == 4)
 (L f_i_liveSets 2 lc_i_liveSets_2 [] k_i_liveSets_2
 ((p.fst.1, (), p.fst.snd.snd.1, ()), p.snd.1, ()))
 (br (j == 3)
 (L f_i_liveSets 2 lc_i_liveSets_2 [] k_i_liveSets_2
 ((p.fst.1, (), p.fst.snd.snd.1, ()), p.snd.1, ()))
 (some (LO.out j ((p.fst.1, (), p.fst.snd.snd.1, ()), p.snd.1, ())))))
 (some (LO.out 2 ((x00, (), x02, ()), x1, ())))
theorem gl_i_liveSets_2 (x00 : CVal) (x02 : Bool) (x1 : List CVal) (R : LO k_i_liveSets_2.T) (h : nl_i_liveSets_2 CC LL x00 x02 x1 = some R) : LL f_i_liveSets 2 lc_i_liveSets_2 [] k_i_liveSets_2 ((x00, (), x02, ()), x1, ()) = some R := loopW (Eq.trans (b := nl_i_liveSets_2 CC LL x00 x02 x1) (by kernel_rfl) h)
noncomputable def nl_i_behind_0 (C : CallT) (L : LoopT) (x00 : List CVal) (x02 : List CVal) (x03 : Int) (x04 : Int) (x1 : List CVal) : Option (LO k_i_behind_0.T) :=
 br (decide (x04 < x03))
 (br (decide (0 ≤ x04) && true)
 (x02[x04.toNat]?.bind fun y =>
 br (CVal.fits false 1 y)
 ((y.cell 0).bind fun c =>
 c.asIdx.bind fun y =>
 br (decide (0 ≤ y) && true)
 (x00[y.toNat]?.bind fun y =>
 br (CVal.fits false 1 y)
 ((y.cell 0).bind fun c =>
 c.asSl.bind fun xs =>
 c.asSl.bind fun xs_1 =>
 (L f_i_behind 2 lc_i_behind_2 [] k_i_behind_2
 ((x00, (), x02, x03, x04, xs_1, (↑xs.length : Int), 0, ()), x1,
 ())).bind
 fun r =>
 loK r (fun r => some (LO.ret r)) fun j p =>
 br (j == 2)
 (L f_i_behind 0 lc_i_behind_0 [] k_i_behind_0
 ((p.fst.1, (), p.fst.snd.snd.1, p.fst.snd.snd.snd.1,
 i64.wrap (p.fst.snd.snd.snd.snd.1 + 1), ()),
 p.snd.1, ()))
 (br (j == 1)
 (L f_i_behind 0 lc_i_behind_0 [] k_i_behind_0
 ((p.fst.1, (), p.fst.snd.snd.1, p.fst.snd.snd.snd.1,
 i64.wrap (p.fst.snd.snd.snd.snd.1 + 1), ()),
 p.snd.1, ()))
 (some
 (LO.out j
 ((p.fst.1, (), p.fst.snd.snd.1, p.fst.snd.snd.snd.1,
 p.fst.snd.snd.snd.snd.1, ()),
 p.snd.1, ())))))
 none)
 none)
 none)
 none)
 (some (LO.out 0 ((x00, (), x02, x03, x04, ()), x1, ())))
theorem gl_i_behind_0 (x00 : List CVal) (x02 : List CVal) (x03 : Int) (x04 : Int) (x1 : List CVal) (R : LO k_i_behind_0.T) (h : nl_i_behind_0 CC LL x00 x02 x03 x04 x1 = some R) : LL f_i_behind 0 lc_i_behind_0 [] k_i_behind_0 ((x00, (), x02, x03, x04, ()), x1, ()) = some R := loopW (Eq.trans (b := nl_i_behind_0 CC LL x00 x02 x03 x04 x1) (by kernel_rfl) h)
noncomputable def nl_i_wanted_2 (C : CallT) (L : LoopT) (x01 : List CVal) (x02 : Int) (x03 : Int) (x2 : List CVal) : Option (LO k_i_wanted_2.T) :=
 br (decide (x03 < x02))
 (br (decide (0 ≤ x03) && true)
 (x01[x03.toNat]?.bind fun y =>
 br (CVal.fits false 1 y)
 ((y.cell 0).bind fun c =>
 c.asIdx.bind fun y =>
 br (decide (0 ≤ y) && true)
 (br (decide (y.toNat < x2.length) && true)
 (x2[y.toNat]?.bind fun y_1 =>
 br (CVal.fits false 1 y_1)
 (L f_i_wanted 2 lc_i_wanted_2 [] k_i_wanted_2
 (((), x01, x02, i64.wrap (x03 + 1), ()), ((), ()),
 x2.set y.toNat (CVal.bool true), ()))
 (br (y_1.isAgg && decide (1 ≤ y_1.cells.length))
 (L f_i_wanted 2 lc_i_wanted_2 [] k_i_wanted_2
 (((), x01, x02, i64.wrap (x03 + 1), ()),
 ((), ()),
 x2.set y.toNat (CVal.agg (CVal.bool true :: List.drop 1 y_1.cells)), ()))
 none))
 none)
 none)
 none)
 none)
 (some (LO.out 2 (((), x01, x02, x03, ()), ((), ()), x2, ())))
theorem gl_i_wanted_2 (x01 : List CVal) (x02 : Int) (x03 : Int) (x2 : List CVal) (R : LO k_i_wanted_2.T) (h : nl_i_wanted_2 CC LL x01 x02 x03 x2 = some R) : LL f_i_wanted 2 lc_i_wanted_2 [] k_i_wanted_2 (((), x01, x02, x03, ()), ((), ()), x2, ()) = some R := loopW (Eq.trans (b := nl_i_wanted_2 CC LL x01 x02 x03 x2) (by kernel_rfl) h)
noncomputable def nl_slices_IndexFunc_int_0 (C : CallT) (L : LoopT) (x00 : List CVal) (x01 : CVal) (x02 : Int) (x03 : Int) : Option (LO k_slices_IndexFunc_int_0.T) :=
 br (decide (x03 < x02))
 (br (decide (0 ≤ x03) && true)
 (x00[x03.toNat]?.bind fun y =>
 br (CVal.fits false 1 y)
 ((y.cell 0).bind fun c =>
 (C apId [AVal.v x01, AVal.v c] []).bind fun r =>
 r.1.asBool.bind fun b =>
 br b (some (LO.ret (CVal.int i64 x03, [])))
 (L f_slices_IndexFunc_int 0 lc_slices_IndexFunc_int_0 [] k_slices_IndexFunc_int_0
 ((x00, x01, x02, i64.wrap (x03 + 1), ()), ())))
 none)
 none)
 (some (LO.out 0 ((x00, x01, x02, x03, ()), ())))
theorem gl_slices_IndexFunc_int_0 (x00 : List CVal) (x01 : CVal) (x02 : Int) (x03 : Int) (R : LO k_slices_IndexFunc_int_0.T) (h : nl_slices_IndexFunc_int_0 CC LL x00 x01 x02 x03 = some R) : LL f_slices_IndexFunc_int 0 lc_slices_IndexFunc_int_0 [] k_slices_IndexFunc_int_0 ((x00, x01, x02, x03, ()), ()) = some R := loopW (Eq.trans (b := nl_slices_IndexFunc_int_0 CC LL x00 x01 x02 x03) (by kernel_rfl) h)
end Go.Proofs.Ytmjjaoffeajcbaa.Abs
