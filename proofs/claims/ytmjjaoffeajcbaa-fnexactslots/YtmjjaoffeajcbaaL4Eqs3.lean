/- What the functions come to in the abstract machine. -/
import Derived.Test.YtmjjaoffeajcbaaL4Ann
import Derived.KernelRfl
set_option linter.unusedVariables false
set_option maxRecDepth 100000
namespace Go.Proofs.Ytmjjaoffeajcbaa.Abs
open Go Go.Proofs Go.IntKind
noncomputable def nf_s_Slots (C : CallT) (L : LoopT) (a0 : Int) (a1 : Int) (a2 : Int) (a3 : List CVal) : Option Ret :=
 (C f_s_l9Piece
 [AVal.v (CVal.agg [CVal.int i64 a0, CVal.int i64 a1, CVal.int i64 a2, CVal.sl a3])]
 []).bind
 fun r =>
 r.1.asBool.bind fun b =>
 br (!b) (some (CVal.sl [], []))
 ((C f_s_l11Slots
 [AVal.v (CVal.agg [CVal.int i64 a0, CVal.int i64 a1, CVal.int i64 a2, CVal.sl a3])]
 []).bind
 fun r => some (r.1, []))
theorem go_s_Slots (a0 : Int) (a1 : Int) (a2 : Int) (a3 : List CVal) (R : Ret) (h : nf_s_Slots CC LL a0 a1 a2 a3 = some R) : CC f_s_Slots [AVal.v (CVal.agg [CVal.int i64 a0, CVal.int i64 a1, CVal.int i64 a2, CVal.sl a3])] [] = some R := fnW (by decide) rfl (Eq.trans (b := nf_s_Slots CC LL a0 a1 a2 a3) (by kernel_rfl) h)
noncomputable def nf_l_markPiece (C : CallT) (L : LoopT) (a0 : Int) (a1 : Int) (a2 : Int) (a3 : List CVal) (b : Int) : Option Ret :=
 (C f_l_markInsS [AVal.lref 0 0, AVal.v (CVal.int i64 b)]
 [PB.arr (Md.mk true true 0) false 7 a3]).bind
 fun r => r.2[0]?.bind fun y => some (r.1, [y])
theorem go_l_markPiece (a0 : Int) (a1 : Int) (a2 : Int) (a3 : List CVal) (b : Int) (R : Ret) (h : nf_l_markPiece CC LL a0 a1 a2 a3 b = some R) : CC f_l_markPiece [AVal.agg
 [AVal.v (CVal.int i64 a0), AVal.v (CVal.int i64 a1), AVal.v (CVal.int i64 a2),
 AVal.lref 0 0],
 AVal.v (CVal.int i64 b)] [PB.arr (Md.mk true true 0) false 7 a3] = some R := fnW (by decide) rfl (Eq.trans (b := nf_l_markPiece CC LL a0 a1 a2 a3 b) (by kernel_rfl) h)
noncomputable def nf_l_toInsS (C : CallT) (L : LoopT) (a : List CVal) : Option Ret :=
 br (decide ((↑a.length : Int) = (↑a.length : Int)) && decide ((↑a.length : Int) ≤ 1048576))
 ((L f_l_toInsS 0 lc_l_toInsS_0 [] k_l_toInsS_0
 ((a, (), 0, ()),
 List.replicate (↑a.length : Int).toNat
 (CVal.agg
 [CVal.int i64 0, CVal.int i64 0, CVal.int i64 0,
 CVal.int i64 0, CVal.int i64 0, CVal.sl [],
 CVal.int i64 0]),
 ())).bind
 fun r => loK r (fun r => some r) fun j p => br (j == 0) (some (CVal.sl p.snd.1, [])) none)
 none
theorem go_l_toInsS (a : List CVal) (R : Ret) (h : nf_l_toInsS CC LL a = some R) : CC f_l_toInsS [AVal.v (CVal.sl a)] [] = some R := fnW (by decide) rfl (Eq.trans (b := nf_l_toInsS CC LL a) (by kernel_rfl) h)
noncomputable def nf_i_clashes (C : CallT) (L : LoopT) (a0 : Int) (a1 : Int) (a2 : Int) (a3 : List CVal) : Option Ret :=
 (L f_i_clashes 0 lc_i_clashes_0 [] k_i_clashes_0
 (((CVal.agg [CVal.int i64 a0, CVal.int i64 a1, CVal.int i64 a2, CVal.sl a3]).fp 0,
 (), a2, 0, ()),
 ((), ()), [], ())).bind
 fun r =>
 loK r (fun r => some r) fun j p =>
 br (j == 0)
 ((CVal.asFp p.fst.1).bind fun y =>
 (y.1.sub y.2 4).bind fun y =>
 (C f_i_liveSets [AVal.v y] []).bind fun r =>
 (CVal.asFp p.fst.1).bind fun y =>
 (y.1.cell (y.2 + 3)).bind fun c =>
 c.asSl.bind fun xs =>
 r.1.asSl.bind fun xs_1 =>
 c.asSl.bind fun xs_2 =>
 (L f_i_clashes 2 lc_i_clashes_2 [] k_i_clashes_2
 ((p.fst.1, (), (), xs_1, xs_2, (↑xs.length : Int), 0, ()),
 ((), ()), p.snd.snd.1, ())).bind
 fun r =>
 loK r (fun r => some r) fun j p =>
 br (j == 2)
 ((CVal.asFp p.fst.1).bind fun y =>
 (y.1.cell (y.2 + 1)).bind fun c =>
 (CVal.asInt i64 c).bind fun n =>
 (L f_i_clashes 12 lc_i_clashes_12 [] k_i_clashes_12
 ((p.fst.1, (), (), n, 0, ()),
 ((), ()), p.snd.snd.1, ())).bind
 fun r =>
 loK r (fun r => some r) fun j p =>
 br (j == 12) (some (CVal.sl p.snd.snd.1, [])) none)
 none)
 none
theorem go_i_clashes (a0 : Int) (a1 : Int) (a2 : Int) (a3 : List CVal) (R : Ret) (h : nf_i_clashes CC LL a0 a1 a2 a3 = some R) : CC f_i_clashes [AVal.v (CVal.agg [CVal.int i64 a0, CVal.int i64 a1, CVal.int i64 a2, CVal.sl a3])] [] = some R := fnW (by decide) rfl (Eq.trans (b := nf_i_clashes CC LL a0 a1 a2 a3) (by kernel_rfl) h)
noncomputable def nf_l_szIns (C : CallT) (L : LoopT) (a0 : Int) (a1 : Int) (a2 : Int) (a3 : Int) (a4 : Int) (a5 : List CVal) (a6 : Int) (b : Int) : Option Ret :=
 (C f_l_szIntS [AVal.v (CVal.sl a5), AVal.v (CVal.int i64 b)] []).bind fun r =>
 (CVal.asInt i64 r.1).bind fun n =>
 br (decide (n < 0)) (some (CVal.int i64 (-1 : Int), [])) (some (r.1, []))
theorem go_l_szIns (a0 : Int) (a1 : Int) (a2 : Int) (a3 : Int) (a4 : Int) (a5 : List CVal) (a6 : Int) (b : Int) (R : Ret) (h : nf_l_szIns CC LL a0 a1 a2 a3 a4 a5 a6 b = some R) : CC f_l_szIns [AVal.v
 (CVal.agg
 [CVal.int i64 a0, CVal.int i64 a1, CVal.int i64 a2, CVal.int i64 a3,
 CVal.int i64 a4, CVal.sl a5, CVal.int i64 a6]),
 AVal.v (CVal.int i64 b)] [] = some R := fnW (by decide) rfl (Eq.trans (b := nf_l_szIns CC LL a0 a1 a2 a3 a4 a5 a6 b) (by kernel_rfl) h)
noncomputable def nf_s_l11Table (C : CallT) (L : LoopT) (a0 : Int) (a1 : Int) (a2 : Int) (a3 : List CVal) : Option Ret :=
 (C f_s_l10Solve
 [AVal.v (CVal.agg [CVal.int i64 a0, CVal.int i64 a1, CVal.int i64 a2, CVal.sl a3])]
 []).bind
 fun r =>
 r.1.asFp.bind fun y =>
 (y.1.cell (y.2 + 4)).bind fun c =>
 c.asSl.bind fun xs =>
 (L f_s_l11Table 0 lc_s_l11Table_0 [] k_s_l11Table_0
 (((CVal.agg [CVal.int i64 a0, CVal.int i64 a1, CVal.int i64 a2, CVal.sl a3]).fp
 0,
 xs, (), 0, ()),
 [], ())).bind
 fun r =>
 loK r (fun r => some r) fun j p =>
 br (j == 0)
 ((L f_s_l11Table 2 lc_s_l11Table_2 [] k_s_l11Table_2
 ((p.fst.1, p.fst.snd.1, (), 0, ()), p.snd.1, ())).bind
 fun r =>
 loK r (fun r => some r) fun j p =>
 br (j == 2)
 ((L f_s_l11Table 6 lc_s_l11Table_6 [] k_s_l11Table_6
 ((p.fst.1, p.fst.snd.1, (), 0, ()), p.snd.1, ())).bind
 fun r => loK r (fun r => some r) fun j p => br (j == 6) (some (CVal.sl p.snd.1, [])) none)
 none)
 none
theorem go_s_l11Table (a0 : Int) (a1 : Int) (a2 : Int) (a3 : List CVal) (R : Ret) (h : nf_s_l11Table CC LL a0 a1 a2 a3 = some R) : CC f_s_l11Table [AVal.v (CVal.agg [CVal.int i64 a0, CVal.int i64 a1, CVal.int i64 a2, CVal.sl a3])] [] = some R := fnW (by decide) rfl (Eq.trans (b := nf_s_l11Table CC LL a0 a1 a2 a3) (by kernel_rfl) h)
noncomputable def nf_i_pieceOk_1 (C : CallT) (L : LoopT) (a0 : Int) (a1 : Int) (a2 : Int) (a3 : Int) (a4 : Int) (a5 : List CVal) (a6 : Int) (b0 : Int) (b1 : Int) (b2 : Int) (b3 : List CVal) : Option Ret :=
 (C f_i_insOk
 [AVal.v (CVal.agg [CVal.int i64 b0, CVal.int i64 b1, CVal.int i64 b2, CVal.sl b3]),
 AVal.v
 (CVal.agg
 [CVal.int i64 a0, CVal.int i64 a1, CVal.int i64 a2, CVal.int i64 a3,
 CVal.int i64 a4, CVal.sl a5, CVal.int i64 a6])]
 []).bind
 fun r => r.1.asBool.bind fun b => some (CVal.bool !b, [])
theorem go_i_pieceOk_1 (a0 : Int) (a1 : Int) (a2 : Int) (a3 : Int) (a4 : Int) (a5 : List CVal) (a6 : Int) (b0 : Int) (b1 : Int) (b2 : Int) (b3 : List CVal) (R : Ret) (h : nf_i_pieceOk_1 CC LL a0 a1 a2 a3 a4 a5 a6 b0 b1 b2 b3 = some R) : CC f_i_pieceOk_1 [AVal.v
 (CVal.agg
 [CVal.int i64 a0, CVal.int i64 a1, CVal.int i64 a2, CVal.int i64 a3,
 CVal.int i64 a4, CVal.sl a5, CVal.int i64 a6]),
 AVal.v
 ((CVal.agg [CVal.int i64 b0, CVal.int i64 b1, CVal.int i64 b2, CVal.sl b3]).fp 0)] [] = some R := fnW (by decide) rfl (Eq.trans (b := nf_i_pieceOk_1 CC LL a0 a1 a2 a3 a4 a5 a6 b0 b1 b2 b3) (by kernel_rfl) h)
noncomputable def nf_i_behind (C : CallT) (L : LoopT) (a0 : Int) (a1 : Int) (a2 : Int) (a3 : List CVal) (b : Int) (c : List CVal) : Option Ret :=
 br (decide (0 ≤ a2) && decide (a2 = a2) && decide (a2 ≤ 1048576))
 ((C f_i_ways
 [AVal.v (CVal.agg [CVal.int i64 a0, CVal.int i64 a1, CVal.int i64 a2, CVal.sl a3]),
 AVal.v (CVal.int i64 b)]
 []).bind
 fun r =>
 r.1.asSl.bind fun xs =>
 r.1.asSl.bind fun xs_1 =>
 (L f_i_behind 0 lc_i_behind_0 [] k_i_behind_0
 ((c, (), xs_1, (↑xs.length : Int), 0, ()),
 List.replicate a2.toNat (CVal.bool false), ())).bind
 fun r =>
 loK r (fun r => some r) fun j p =>
 br (j == 0)
 ((C f_i_things [AVal.v (CVal.sl p.snd.1)] []).bind fun r =>
 br (!r.1.plain) none (br r.1.isFlat (r.1.asSl.bind fun xs => some (CVal.sl xs, [])) none))
 none)
 none
theorem go_i_behind (a0 : Int) (a1 : Int) (a2 : Int) (a3 : List CVal) (b : Int) (c : List CVal) (R : Ret) (h : nf_i_behind CC LL a0 a1 a2 a3 b c = some R) : CC f_i_behind [AVal.v (CVal.agg [CVal.int i64 a0, CVal.int i64 a1, CVal.int i64 a2, CVal.sl a3]),
 AVal.v (CVal.int i64 b), AVal.v (CVal.sl c)] [] = some R := fnW (by decide) rfl (Eq.trans (b := nf_i_behind CC LL a0 a1 a2 a3 b c) (by kernel_rfl) h)
noncomputable def nf_l_szIntS (C : CallT) (L : LoopT) (a : List CVal) (b : Int) : Option Ret :=
 br (decide (i64.wrap (b - (↑a.length : Int)) < 0)) (some (CVal.int i64 (-1 : Int), []))
 (some (CVal.int i64 (i64.wrap (b - (↑a.length : Int))), []))
theorem go_l_szIntS (a : List CVal) (b : Int) (R : Ret) (h : nf_l_szIntS CC LL a b = some R) : CC f_l_szIntS [AVal.v (CVal.sl a), AVal.v (CVal.int i64 b)] [] = some R := fnW (by decide) rfl (Eq.trans (b := nf_l_szIntS CC LL a b) (by kernel_rfl) h)
noncomputable def nf_s_l10Solve (C : CallT) (L : LoopT) (a0 : Int) (a1 : Int) (a2 : Int) (a3 : List CVal) : Option Ret :=
 (C f_s_l10New
 [AVal.v (CVal.agg [CVal.int i64 a0, CVal.int i64 a1, CVal.int i64 a2, CVal.sl a3])]
 []).bind
 fun r =>
 r.1.asFp.bind fun y =>
 br (decide (y.2 = 0) && CVal.isAggN 6 y.1)
 ((y.1.cell 0).bind fun c =>
 (y.1.cell 1).bind fun c_1 =>
 (y.1.cell 2).bind fun c_2 =>
 (y.1.cell 3).bind fun c_3 =>
 (y.1.cell 4).bind fun c_4 =>
 (y.1.cell 5).bind fun c_5 =>
 c_4.asSl.bind fun xs =>
 (CVal.asInt i64 c).bind fun n =>
 (CVal.asInt i64 c_1).bind fun n_1 =>
 (CVal.asInt i64 c_2).bind fun n_2 =>
 c_3.asSl.bind fun xs_1 =>
 (L f_s_l10Solve 0 lc_s_l10Solve_0 [] k_s_l10Solve_0
 (((CVal.agg
 [CVal.int i64 a0, CVal.int i64 a1, CVal.int i64 a2,
 CVal.sl a3]).fp
 0,
 (), ()),
 (n, n_1, n_2, xs_1, (), true, ()), xs, ())).bind
 fun r =>
 loK r (fun r => some r) fun j p =>
 br (j == 0)
 (some
 ((CVal.agg
 [CVal.int i64 p.snd.fst.1, CVal.int i64 p.snd.fst.snd.1,
 CVal.int i64 p.snd.fst.snd.snd.1, CVal.sl p.snd.fst.snd.snd.snd.1,
 CVal.sl p.snd.snd.1, CVal.bool p.snd.fst.snd.snd.snd.snd.snd.1]).fp
 0,
 []))
 none)
 none
theorem go_s_l10Solve (a0 : Int) (a1 : Int) (a2 : Int) (a3 : List CVal) (R : Ret) (h : nf_s_l10Solve CC LL a0 a1 a2 a3 = some R) : CC f_s_l10Solve [AVal.v (CVal.agg [CVal.int i64 a0, CVal.int i64 a1, CVal.int i64 a2, CVal.sl a3])] [] = some R := fnW (by decide) rfl (Eq.trans (b := nf_s_l10Solve CC LL a0 a1 a2 a3) (by kernel_rfl) h)
noncomputable def nf_s_l10Normal (C : CallT) (L : LoopT) (a0 : Int) (a1 : Int) (a2 : Int) (a3 : List CVal) (b : Int) : Option Ret :=
 br (decide (0 ≤ b) && true)
 (a3[b.toNat]?.bind fun y =>
 br (CVal.fits true 7 y)
 ((y.sub 0 7).bind fun y =>
 br (CVal.isAggN 7 y)
 ((y.cell 0).bind fun c =>
 (y.cell 1).bind fun c_1 =>
 (y.cell 2).bind fun c_2 =>
 (y.cell 3).bind fun c_3 =>
 (y.cell 4).bind fun c_4 =>
 (y.cell 5).bind fun c_5 =>
 (y.cell 6).bind fun c_6 =>
 (CVal.asInt i64 c).bind fun n =>
 br (decide (n = 15)) (some (CVal.sl [], []))
 ((CVal.asInt i64 c).bind fun n =>
 br (decide (n = 16)) (some (CVal.sl [], []))
 ((CVal.asInt i64 c).bind fun n =>
 br (decide (n = 13))
 (br (c_6.isFlat && true)
 ((CVal.asInt i64 c_6).bind fun n =>
 some (CVal.sl [CVal.int i64 n], []))
 none)
 ((CVal.asInt i64 c).bind fun n =>
 br (decide (n = 11))
 ((CVal.asInt i64 c_6).bind fun n =>
 br (decide (n < i64.wrap (b + 1)))
 (br (c_6.isFlat && true)
 ((CVal.asInt i64 c_6).bind fun n =>
 some
 (CVal.sl
 [CVal.int i64 n,
 CVal.int i64 (i64.wrap (b + 1))],
 []))
 none)
 ((CVal.asInt i64 c_6).bind fun n =>
 br (decide (i64.wrap (b + 1) < n))
 (br (c_6.isFlat && true)
 ((CVal.asInt i64 c_6).bind fun n =>
 some
 (CVal.sl
 [CVal.int i64 (i64.wrap (b + 1)),
 CVal.int i64 n],
 []))
 none)
 (some
 (CVal.sl [CVal.int i64 (i64.wrap (b + 1))],
 []))))
 ((CVal.asInt i64 c).bind fun n =>
 br (decide (n = 12))
 ((CVal.asInt i64 c_6).bind fun n =>
 br (decide (n < i64.wrap (b + 1)))
 (br (c_6.isFlat && true)
 ((CVal.asInt i64 c_6).bind fun n =>
 some
 (CVal.sl
 [CVal.int i64 n,
 CVal.int i64 (i64.wrap (b + 1))],
 []))
 none)
 ((CVal.asInt i64 c_6).bind fun n =>
 br (decide (i64.wrap (b + 1) < n))
 (br (c_6.isFlat && true)
 ((CVal.asInt i64 c_6).bind fun n =>
 some
 (CVal.sl
 [CVal.int i64 (i64.wrap (b + 1)),
 CVal.int i64 n],
 []))
 none)
 (some
 (CVal.sl
 [CVal.int i64 (i64.wrap (b + 1))],
 []))))
 (some
 (CVal.sl [CVal.int i64 (i64.wrap (b + 1))],
 [])))))))
 none)
 none)
 none
theorem go_s_l10Normal (a0 : Int) (a1 : Int) (a2 : Int) (a3 : List CVal) (b : Int) (R : Ret) (h : nf_s_l10Normal CC LL a0 a1 a2 a3 b = some R) : CC f_s_l10Normal [AVal.v (CVal.agg [CVal.int i64 a0, CVal.int i64 a1, CVal.int i64 a2, CVal.sl a3]),
 AVal.v (CVal.int i64 b)] [] = some R := fnW (by decide) rfl (Eq.trans (b := nf_s_l10Normal CC LL a0 a1 a2 a3 b) (by kernel_rfl) h)
noncomputable def nf_slices_Equal_bool (C : CallT) (L : LoopT) (a : List CVal) (b : List CVal) : Option Ret :=
 br (!decide ((↑a.length : Int) = (↑b.length : Int))) (some (CVal.bool false, []))
 ((L f_slices_Equal_bool 0 lc_slices_Equal_bool_0 [] k_slices_Equal_bool_0
 ((a, b, (↑a.length : Int), 0, ()), ())).bind
 fun r => loK r (fun r => some r) fun j p => br (j == 0) (some (CVal.bool true, [])) none)
theorem go_slices_Equal_bool (a : List CVal) (b : List CVal) (R : Ret) (h : nf_slices_Equal_bool CC LL a b = some R) : CC f_slices_Equal_bool [AVal.v (CVal.sl a), AVal.v (CVal.sl b)] [] = some R := fnW (by decide) rfl (Eq.trans (b := nf_slices_Equal_bool CC LL a b) (by kernel_rfl) h)
noncomputable def nf_s_l10Node (C : CallT) (L : LoopT) (a00 : Int) (a01 : Int) (a02 : Int) (a03 : List CVal) (a1 : List CVal) (a2 : Bool) (b : Int) : Option Ret :=
 br (decide (0 ≤ b) && true)
 (a03[b.toNat]?.bind fun y =>
 br (CVal.fits true 7 y)
 ((y.sub 0 7).bind fun y =>
 (C f_s_Reads [AVal.v y] []).bind fun r =>
 r.1.asSl.bind fun xs =>
 (L f_s_l10Node 0 lc_s_l10Node_0
 [PSh.box [none, none, none, none, some 1, none],
 PSh.arr (Md.mk true false 0) true 1]
 k_s_l10Node_0
 (((), b, xs, 0, ()), (a00, a01, a02, a03, (), a2, ()),
 (), a1, ())).bind
 fun r =>
 loK r (fun r => some r) fun j p =>
 br (j == 0)
 (br (decide (0 ≤ p.fst.snd.1) && true)
 (p.snd.fst.snd.snd.snd.1[Int.toNat p.fst.snd.1]?.bind fun y =>
 br (CVal.fits true 7 y)
 ((y.sub 0 7).bind fun y =>
 (C f_s_Writes [AVal.v y] []).bind fun r =>
 (C f_s_l10Normal
 [AVal.v
 (CVal.agg
 [CVal.int i64 p.snd.fst.1, CVal.int i64 p.snd.fst.snd.1,
 CVal.int i64 p.snd.fst.snd.snd.1, CVal.sl p.snd.fst.snd.snd.snd.1]),
 AVal.v (CVal.int i64 p.fst.snd.1)]
 []).bind
 fun r_1 =>
 (CVal.asInt i64 r.1).bind fun n =>
 r_1.1.asSl.bind fun xs =>
 (L f_s_l10Node 2 lc_s_l10Node_2
 [PSh.box [none, none, none, none, some 1, none],
 PSh.arr (Md.mk true false 0) true 1]
 k_s_l10Node_2
 (((), p.fst.snd.1, n, xs, 0, ()),
 (p.snd.fst.1, p.snd.fst.snd.1, p.snd.fst.snd.snd.1, p.snd.fst.snd.snd.snd.1,
 (), p.snd.fst.snd.snd.snd.snd.snd.1, ()),
 (), p.snd.snd.snd.1, ())).bind
 fun r =>
 loK r (fun r => some r) fun j p =>
 br (j == 2)
 ((C f_s_l10Guard
 [AVal.v
 (CVal.agg
 [CVal.int i64 p.snd.fst.1,
 CVal.int i64 p.snd.fst.snd.1,
 CVal.int i64 p.snd.fst.snd.snd.1,
 CVal.sl p.snd.fst.snd.snd.snd.1]),
 AVal.v (CVal.int i64 p.fst.snd.1)]
 []).bind
 fun r =>
 ((CVal.asInt i64 r.1).bind fun n =>
 br (decide (0 ≤ n))
 (br (decide (0 ≤ p.fst.snd.1) && true)
 (p.snd.fst.snd.snd.snd.1[Int.toNat p.fst.snd.1]?.bind fun y =>
 br (CVal.fits true 7 y)
 ((y.cell 0).bind fun c =>
 (C f_s_l10May [AVal.v c] []).bind fun r =>
 (bif true then r.1 else CVal.bool false).asBool.bind
 fun b => some (b, ()))
 none)
 none)
 (some (false, ()))).bind
 fun y =>
 br y.1
 (r.1.asIdx.bind fun y =>
 br (decide (0 ≤ y) && true)
 (p.snd.fst.snd.snd.snd.1[y.toNat]?.bind fun y =>
 br (CVal.fits true 7 y)
 ((y.cell 6).bind fun c =>
 r.1.asIdx.bind fun y =>
 br (decide (0 ≤ y) && true)
 (p.snd.fst.snd.snd.snd.1[y.toNat]?.bind fun y =>
 br (CVal.fits true 7 y)
 ((y.cell 1).bind fun c_1 =>
 (C f_s_l10From
 [AVal.lptr 0 0,
 AVal.v (CVal.int i64 p.fst.snd.1),
 AVal.v c, AVal.v c_1]
 [PB.box
 [AVal.v (CVal.int i64 p.snd.fst.1),
 AVal.v
 (CVal.int i64 p.snd.fst.snd.1),
 AVal.v
 (CVal.int i64
 p.snd.fst.snd.snd.1),
 AVal.v (CVal.sl p.snd.fst.snd.snd.snd.1),
 AVal.lref 1 0,
 AVal.v
 (CVal.bool
 p.snd.fst.snd.snd.snd.snd.snd.1)],
 PB.arr (Md.mk true false 0) true
 1 p.snd.snd.snd.1]).bind
 fun r =>
 r.2[0]?.bind fun y =>
 r.2[1]?.bind fun y_1 =>
 y[0]?.bind fun y_2 =>
 y[1]?.bind fun y_3 =>
 y[2]?.bind fun y_4 =>
 y[3]?.bind fun y_5 =>
 y[4]?.bind fun y_6 =>
 y[5]?.bind fun y =>
 y_6.asSl.bind fun xs =>
 some
 (CVal.tup [],
 [[y_2, y_3, y_4, y_5,
 CVal.sl xs, y],
 []]))
 none)
 none)
 none)
 none)
 (some
 (CVal.tup [],
 [[CVal.int i64 p.snd.fst.1,
 CVal.int i64 p.snd.fst.snd.1,
 CVal.int i64 p.snd.fst.snd.snd.1,
 CVal.sl p.snd.fst.snd.snd.snd.1, CVal.sl p.snd.snd.snd.1,
 CVal.bool p.snd.fst.snd.snd.snd.snd.snd.1],
 []])))
 none)
 none)
 none)
 none)
 none)
 none
theorem go_s_l10Node (a00 : Int) (a01 : Int) (a02 : Int) (a03 : List CVal) (a1 : List CVal) (a2 : Bool) (b : Int) (R : Ret) (h : nf_s_l10Node CC LL a00 a01 a02 a03 a1 a2 b = some R) : CC f_s_l10Node [AVal.lptr 0 0, AVal.v (CVal.int i64 b)] [PB.box
 [AVal.v (CVal.int i64 a00), AVal.v (CVal.int i64 a01), AVal.v (CVal.int i64 a02),
 AVal.v (CVal.sl a03), AVal.lref 1 0, AVal.v (CVal.bool a2)],
 PB.arr (Md.mk true false 0) true 1 a1] = some R := fnW (by decide) rfl (Eq.trans (b := nf_s_l10Node CC LL a00 a01 a02 a03 a1 a2 b) (by kernel_rfl) h)
noncomputable def nf_slices_ContainsFunc_int (C : CallT) (L : LoopT) (a : List CVal) (b : CVal) : Option Ret :=
 (C f_slices_IndexFunc_int [AVal.v (CVal.sl a), AVal.v b] []).bind fun r =>
 (CVal.asInt i64 r.1).bind fun n => some (CVal.bool (decide (0 ≤ n)), [])
theorem go_slices_ContainsFunc_int (a : List CVal) (b : CVal) (R : Ret) (h : nf_slices_ContainsFunc_int CC LL a b = some R) : CC f_slices_ContainsFunc_int [AVal.v (CVal.sl a), AVal.v b] [] = some R := fnW (by decide) rfl (Eq.trans (b := nf_slices_ContainsFunc_int CC LL a b) (by kernel_rfl) h)
noncomputable def nf_i_Reads (C : CallT) (L : LoopT) (a0 : Int) (a1 : Int) (a2 : Int) (a3 : Int) (a4 : Int) (a5 : List CVal) (a6 : Int) : Option Ret :=
 (C f_i_hasPart [AVal.v (CVal.int i64 a0), AVal.v (CVal.int IntKind.u8 88)] []).bind fun r =>
 r.1.asBool.bind fun b =>
 br b
 ((C f_i_hasPart [AVal.v (CVal.int i64 a0), AVal.v (CVal.int IntKind.u8 89)] []).bind fun r =>
 r.1.asBool.bind fun b =>
 br b
 (br (decide (a0 = 8))
 (br (a5.all (CVal.fitsF false [CK.int i64]))
 (br (decide (2 + a5.length ≤ 4294967296) && true && true)
 ((C f_slices_Sort_int [AVal.lref 0 0]
 [PB.arr (Md.mk true true 0) false 1
 (CVal.int i64 a2 :: CVal.int i64 a3 :: a5)]).bind
 fun r =>
 r.2[0]?.bind fun y =>
 (C f_slices_Compact_int [AVal.lref 0 0]
 [PB.arr (Md.mk true false 0) false 1 y]).bind
 fun r => r.2[0]?.bind fun y => some (CVal.sl y, []))
 none)
 none)
 ((C f_slices_Sort_int [AVal.lref 0 0]
 [PB.arr (Md.mk true true 0) false 1
 [CVal.int i64 a2, CVal.int i64 a3]]).bind
 fun r =>
 r.2[0]?.bind fun y =>
 (C f_slices_Compact_int [AVal.lref 0 0]
 [PB.arr (Md.mk true false 0) false 1 y]).bind
 fun r => r.2[0]?.bind fun y => some (CVal.sl y, [])))
 (br (decide (a0 = 8))
 (br (a5.all (CVal.fitsF false [CK.int i64]))
 (br (decide (1 + a5.length ≤ 4294967296) && true && true)
 ((C f_slices_Sort_int [AVal.lref 0 0]
 [PB.arr (Md.mk true true 0) false 1 (CVal.int i64 a2 :: a5)]).bind
 fun r =>
 r.2[0]?.bind fun y =>
 (C f_slices_Compact_int [AVal.lref 0 0]
 [PB.arr (Md.mk true false 0) false 1 y]).bind
 fun r => r.2[0]?.bind fun y => some (CVal.sl y, []))
 none)
 none)
 ((C f_slices_Sort_int [AVal.lref 0 0]
 [PB.arr (Md.mk true true 0) false 1 [CVal.int i64 a2]]).bind
 fun r =>
 r.2[0]?.bind fun y =>
 (C f_slices_Compact_int [AVal.lref 0 0]
 [PB.arr (Md.mk true false 0) false 1 y]).bind
 fun r => r.2[0]?.bind fun y => some (CVal.sl y, []))))
 ((C f_i_hasPart [AVal.v (CVal.int i64 a0), AVal.v (CVal.int IntKind.u8 89)] []).bind fun r =>
 r.1.asBool.bind fun b =>
 br b
 (br (decide (a0 = 8))
 (br (a5.all (CVal.fitsF false [CK.int i64]))
 (br (decide (1 + a5.length ≤ 4294967296) && true && true)
 ((C f_slices_Sort_int [AVal.lref 0 0]
 [PB.arr (Md.mk true true 0) false 1 (CVal.int i64 a3 :: a5)]).bind
 fun r =>
 r.2[0]?.bind fun y =>
 (C f_slices_Compact_int [AVal.lref 0 0]
 [PB.arr (Md.mk true false 0) false 1 y]).bind
 fun r => r.2[0]?.bind fun y => some (CVal.sl y, []))
 none)
 none)
 ((C f_slices_Sort_int [AVal.lref 0 0]
 [PB.arr (Md.mk true true 0) false 1 [CVal.int i64 a3]]).bind
 fun r =>
 r.2[0]?.bind fun y =>
 (C f_slices_Compact_int [AVal.lref 0 0]
 [PB.arr (Md.mk true false 0) false 1 y]).bind
 fun r => r.2[0]?.bind fun y => some (CVal.sl y, [])))
 (br (decide (a0 = 8))
 (br (a5.all (CVal.fitsF false [CK.int i64]))
 (br (decide (a5.length ≤ 4294967296))
 ((C f_slices_Sort_int [AVal.lref 0 0]
 [PB.arr (Md.mk true true 0) false 1 a5]).bind
 fun r =>
 r.2[0]?.bind fun y =>
 (C f_slices_Compact_int [AVal.lref 0 0]
 [PB.arr (Md.mk true false 0) false 1 y]).bind
 fun r => r.2[0]?.bind fun y => some (CVal.sl y, []))
 none)
 none)
 ((C f_slices_Sort_int [AVal.lref 0 0]
 [PB.arr (Md.mk true true 0) false 1 []]).bind
 fun r =>
 r.2[0]?.bind fun y =>
 (C f_slices_Compact_int [AVal.lref 0 0]
 [PB.arr (Md.mk true false 0) false 1 []]).bind
 fun r => r.2[0]?.bind fun y => some (CVal.sl y, []))))
theorem go_i_Reads (a0 : Int) (a1 : Int) (a2 : Int) (a3 : Int) (a4 : Int) (a5 : List CVal) (a6 : Int) (R : Ret) (h : nf_i_Reads CC LL a0 a1 a2 a3 a4 a5 a6 = some R) : CC f_i_Reads [AVal.v
 (CVal.agg
 [CVal.int i64 a0, CVal.int i64 a1, CVal.int i64 a2, CVal.int i64 a3,
 CVal.int i64 a4, CVal.sl a5, CVal.int i64 a6])] [] = some R := fnW (by decide) rfl (Eq.trans (b := nf_i_Reads CC LL a0 a1 a2 a3 a4 a5 a6) (by kernel_rfl) h)
noncomputable def nf_s_l10Set (C : CallT) (L : LoopT) (a00 : Int) (a01 : Int) (a02 : Int) (a03 : List CVal) (a1 : List CVal) (a2 : Bool) (b : Int) (c : Int) : Option Ret :=
 br (decide (0 ≤ b) && true)
 (br (decide (b.toNat < a1.length) && true)
 (a1[b.toNat]?.bind fun y =>
 (y.cell 0).bind fun c_1 =>
 c_1.asSl.bind fun xs =>
 br (decide (0 ≤ c) && true)
 ((a1[b.toNat]?.bind fun y => (y.cell 0).bind fun c => c.asSl).bind fun y =>
 br (decide (c.toNat < y.length))
 ((a1[b.toNat]?.bind fun y => (y.cell 0).bind fun c => c.asSl).bind fun y =>
 y[c.toNat]?.bind fun y =>
 y.asBool.bind fun b_1 =>
 br (!b_1)
 (br (decide (0 ≤ b) && true)
 (br (decide (b.toNat < a1.length) && true)
 (a1[b.toNat]?.bind fun y =>
 (y.cell 0).bind fun c_2 =>
 c_2.asSl.bind fun xs =>
 br (decide (0 ≤ c) && true)
 ((a1[b.toNat]?.bind fun y => (y.cell 0).bind fun c => c.asSl).bind fun y =>
 br (decide (c.toNat < y.length))
 (a1[b.toNat]?.bind fun y =>
 (y.cell 0).bind fun c_3 =>
 c_3.asSl.bind fun xs =>
 xs[c.toNat]?.bind fun y_1 =>
 br (CVal.fitsF false [CK.bool] y_1)
 (some
 (CVal.tup [],
 [[CVal.int i64 a00, CVal.int i64 a01,
 CVal.int i64 a02, CVal.sl a03,
 CVal.sl
 (a1.set b.toNat
 (y.putCell 0
 (CVal.sl (xs.set c.toNat (CVal.bool true))))),
 CVal.bool true],
 []]))
 none)
 none)
 none)
 none)
 none)
 (some
 (CVal.tup [],
 [[CVal.int i64 a00, CVal.int i64 a01, CVal.int i64 a02, CVal.sl a03,
 CVal.sl a1, CVal.bool a2],
 []])))
 none)
 none)
 none)
 none
theorem go_s_l10Set (a00 : Int) (a01 : Int) (a02 : Int) (a03 : List CVal) (a1 : List CVal) (a2 : Bool) (b : Int) (c : Int) (R : Ret) (h : nf_s_l10Set CC LL a00 a01 a02 a03 a1 a2 b c = some R) : CC f_s_l10Set [AVal.lptr 0 0, AVal.v (CVal.int i64 b), AVal.v (CVal.int i64 c)] [PB.box
 [AVal.v (CVal.int i64 a00), AVal.v (CVal.int i64 a01), AVal.v (CVal.int i64 a02),
 AVal.v (CVal.sl a03), AVal.lref 1 0, AVal.v (CVal.bool a2)],
 PB.arr (Md.mk true false 0) true 1 a1] = some R := fnW (by decide) rfl (Eq.trans (b := nf_s_l10Set CC LL a00 a01 a02 a03 a1 a2 b c) (by kernel_rfl) h)
noncomputable def nf_slices_IndexFunc_int (C : CallT) (L : LoopT) (a : List CVal) (b : CVal) : Option Ret :=
 (L f_slices_IndexFunc_int 0 lc_slices_IndexFunc_int_0 [] k_slices_IndexFunc_int_0
 ((a, b, (↑a.length : Int), 0, ()), ())).bind
 fun r => loK r (fun r => some r) fun j p => br (j == 0) (some (CVal.int i64 (-1 : Int), [])) none
theorem go_slices_IndexFunc_int (a : List CVal) (b : CVal) (R : Ret) (h : nf_slices_IndexFunc_int CC LL a b = some R) : CC f_slices_IndexFunc_int [AVal.v (CVal.sl a), AVal.v b] [] = some R := fnW (by decide) rfl (Eq.trans (b := nf_slices_IndexFunc_int CC LL a b) (by kernel_rfl) h)
noncomputable def nl_i_Slots_2 (C : CallT) (L : LoopT) (x01 : List CVal) (x03 : List CVal) (x04 : Int) (x05 : Int) (x06 : Int) (x07 : Int) (x1 : List CVal) (x2 : List CVal) : Option (LO k_i_Slots_2.T) :=
 br (decide (x07 < x06))
 (br (decide (0 ≤ x07) && true)
 (x01[x07.toNat]?.bind fun y =>
 br (CVal.fits false 1 y)
 ((y.cell 0).bind fun c =>
 c.asBool.bind fun b =>
 br b
 (br (decide (0 ≤ x07) && true)
 (br (decide (x07.toNat < x1.length) && true)
 (x1[x07.toNat]?.bind fun y =>
 (y.cell 0).bind fun c =>
 (CVal.asInt i64 c).bind fun n =>
 br (decide (x2.length + 1 ≤ 4294967296) && true && true)
 (L f_i_Slots 2 lc_i_Slots_2 [] k_i_Slots_2
 (((), x01, (), x03, x04, x05, x06, i64.wrap (x07 + 1),
 ()),
 x1, x2 ++ [CVal.int i64 n], ()))
 none)
 none)
 none)
 (L f_i_Slots 2 lc_i_Slots_2 [] k_i_Slots_2
 (((), x01, (), x03, x04, x05, x06, i64.wrap (x07 + 1), ()), x1,
 x2, ())))
 none)
 none)
 (some (LO.out 2 (((), x01, (), x03, x04, x05, x06, x07, ()), x1, x2, ())))
theorem gl_i_Slots_2 (x01 : List CVal) (x03 : List CVal) (x04 : Int) (x05 : Int) (x06 : Int) (x07 : Int) (x1 : List CVal) (x2 : List CVal) (R : LO k_i_Slots_2.T) (h : nl_i_Slots_2 CC LL x01 x03 x04 x05 x06 x07 x1 x2 = some R) : LL f_i_Slots 2 lc_i_Slots_2 [] k_i_Slots_2 (((), x01, (), x03, x04, x05, x06, x07, ()), x1, x2, ()) = some R := loopW (Eq.trans (b := nl_i_Slots_2 CC LL x01 x03 x04 x05 x06 x07 x1 x2) (by kernel_rfl) h)
noncomputable def nl_l_heldIntS_0 (C : CallT) (L : LoopT) (x00 : List CVal) (x01 : Int) (x02 : Int) : Option (LO k_l_heldIntS_0.T) :=
 br (decide (x02 < (↑x00.length : Int)))
 (br (decide (0 ≤ x02) && true)
 (x00[x02.toNat]?.bind fun y =>
 br (CVal.fits false 1 y)
 ((y.cell 0).bind fun c =>
 (CVal.asInt i64 c).bind fun n =>
 br (!decide (n = x01)) (some (LO.ret (CVal.int i64 (-1 : Int), [])))
 (L f_l_heldIntS 0 lc_l_heldIntS_0 [] k_l_heldIntS_0
 ((x00, i64.wrap (x01 + 1), i64.wrap (x02 + 1), ()),
 ())))
 none)
 none)
 (some (LO.out 0 ((x00, x01, x02, ()), ())))
theorem gl_l_heldIntS_0 (x00 : List CVal) (x01 : Int) (x02 : Int) (R : LO k_l_heldIntS_0.T) (h : nl_l_heldIntS_0 CC LL x00 x01 x02 = some R) : LL f_l_heldIntS 0 lc_l_heldIntS_0 [] k_l_heldIntS_0 ((x00, x01, x02, ()), ()) = some R := loopW (Eq.trans (b := nl_l_heldIntS_0 CC LL x00 x01 x02) (by kernel_rfl) h)
noncomputable def nl_s_l11Slots_4 (C : CallT) (L : LoopT) (x00 : CVal) (x01 : List CVal) (x03 : Int) (x04 : Int) (x05 : Bool) (x06 : Int) (x1 : List CVal) : Option (LO k_s_l11Slots_4.T) :=
 br (decide (x06 < x03))
 ((br (decide (0 ≤ x03) && true)
 (x01[x03.toNat]?.bind fun y =>
 br (CVal.fits false 1 y)
 ((y.cell 0).bind fun c =>
 br (decide (0 ≤ x06) && true)
 (c.asSl.bind fun xs =>
 xs[x06.toNat]?.bind fun y =>
 br (CVal.fits false 1 y)
 ((y.cell 0).bind fun c =>
 c.asBool.bind fun b =>
 br b
 (br (decide (0 ≤ x06) && true)
 (br (decide (x06.toNat < x1.length) && true)
 (x1[x06.toNat]?.bind fun y =>
 (y.cell 0).bind fun c =>
 (CVal.asInt i64 c).bind fun n => some (decide (n = x04), ()))
 none)
 none)
 (some (false, ())))
 none)
 none)
 none)
 none).bind
 fun y =>
 br y.1
 (L f_s_l11Slots 4 lc_s_l11Slots_4 [] k_s_l11Slots_4
 ((x00, x01, (), x03, i64.wrap (x04 + 1), true, i64.wrap (x06 + 1),
 ()),
 x1, ()))
 (L f_s_l11Slots 4 lc_s_l11Slots_4 [] k_s_l11Slots_4
 ((x00, x01, (), x03, x04, x05, i64.wrap (x06 + 1), ()), x1, ())))
 (some (LO.out 4 ((x00, x01, (), x03, x04, x05, x06, ()), x1, ())))
theorem gl_s_l11Slots_4 (x00 : CVal) (x01 : List CVal) (x03 : Int) (x04 : Int) (x05 : Bool) (x06 : Int) (x1 : List CVal) (R : LO k_s_l11Slots_4.T) (h : nl_s_l11Slots_4 CC LL x00 x01 x03 x04 x05 x06 x1 = some R) : LL f_s_l11Slots 4 lc_s_l11Slots_4 [] k_s_l11Slots_4 ((x00, x01, (), x03, x04, x05, x06, ()), x1, ()) = some R := loopW (Eq.trans (b := nl_s_l11Slots_4 CC LL x00 x01 x03 x04 x05 x06 x1) (by kernel_rfl) h)
noncomputable def nl_i_clashes_12 (C : CallT) (L : LoopT) (x00 : CVal) (x03 : Int) (x04 : Int) (x2 : List CVal) : Option (LO k_i_clashes_12.T) :=
 br (decide (x04 < x03))
 (x00.asFp.bind fun y =>
 (y.1.cell (y.2 + 1)).bind fun c =>
 (CVal.asInt i64 c).bind fun n =>
 (L f_i_clashes 14 lc_i_clashes_14 [] k_i_clashes_14
 ((x00, (), (), x04, x03, x04, n, 0, ()), ((), ()), x2,
 ())).bind
 fun r =>
 loK r (fun r => some (LO.ret r)) fun j p =>
 br (j == 14)
 (L f_i_clashes 12 lc_i_clashes_12 [] k_i_clashes_12
 ((p.fst.1, (), (), p.fst.snd.snd.snd.snd.1,
 i64.wrap (p.fst.snd.snd.snd.snd.snd.1 + 1), ()),
 ((), ()), p.snd.snd.1, ()))
 (br (j == 13)
 (L f_i_clashes 12 lc_i_clashes_12 [] k_i_clashes_12
 ((p.fst.1, (), (), p.fst.snd.snd.snd.snd.1,
 i64.wrap (p.fst.snd.snd.snd.snd.snd.1 + 1), ()),
 ((), ()), p.snd.snd.1, ()))
 (some
 (LO.out j
 ((p.fst.1, (), (), p.fst.snd.snd.snd.snd.1, p.fst.snd.snd.snd.snd.snd.1,
 ()),
 ((), ()), p.snd.snd.1, ())))))
 (some
 (LO.out 12 ((x00, (), (), x03, x04, ()), ((), ()), x2, ())))
theorem gl_i_clashes_12 (x00 : CVal) (x03 : Int) (x04 : Int) (x2 : List CVal) (R : LO k_i_clashes_12.T) (h : nl_i_clashes_12 CC LL x00 x03 x04 x2 = some R) : LL f_i_clashes 12 lc_i_clashes_12 [] k_i_clashes_12 ((x00, (), (), x03, x04, ()), ((), ()), x2, ()) = some R := loopW (Eq.trans (b := nl_i_clashes_12 CC LL x00 x03 x04 x2) (by kernel_rfl) h)
noncomputable def nl_i_clashes_4 (C : CallT) (L : LoopT) (x00 : CVal) (x03 : List CVal) (x04 : Int) (x06 : List CVal) (x07 : List CVal) (x08 : Int) (x09 : Int) (x010 : List CVal) (x011 : Int) (x012 : Int) (x2 : List CVal) (x30 : Int) (x31 : Int) (x32 : Int) (x33 : Int) (x34 : Int) (x35 : List CVal) (x36 : Int) : Option (LO k_i_clashes_4.T) :=
 br (decide (x012 < x011))
 (br (decide (0 ≤ x012) && true)
 (x010[x012.toNat]?.bind fun y =>
 br (CVal.fits false 1 y)
 ((y.cell 0).bind fun c =>
 (CVal.asInt i64 c).bind fun n =>
 (L f_i_clashes 6 lc_i_clashes_6 [] k_i_clashes_6
 ((x00, (), (), x03, x04, (), x06, n, x07, x08, x09, x010, x011, x012, x06,
 (↑x06.length : Int), 0, ()),
 ((), ()), x2, (x30, x31, x32, x33, x34, x35, x36, ()), ())).bind
 fun r =>
 loK r (fun r => some (LO.ret r)) fun j p =>
 br (j == 6)
 (L f_i_clashes 4 lc_i_clashes_4 [] k_i_clashes_4
 ((p.fst.1, (), (), p.fst.snd.snd.snd.1, p.fst.snd.snd.snd.snd.1, (),
 p.fst.snd.snd.snd.snd.snd.snd.1, p.fst.snd.snd.snd.snd.snd.snd.snd.snd.1,
 p.fst.snd.snd.snd.snd.snd.snd.snd.snd.snd.1, p.fst.snd.snd.snd.snd.snd.snd.snd.snd.snd.snd.1,
 p.fst.snd.snd.snd.snd.snd.snd.snd.snd.snd.snd.snd.1,
 p.fst.snd.snd.snd.snd.snd.snd.snd.snd.snd.snd.snd.snd.1,
 i64.wrap (p.fst.snd.snd.snd.snd.snd.snd.snd.snd.snd.snd.snd.snd.snd.1 + 1),
 ()),
 ((), ()), p.snd.snd.1,
 (p.snd.snd.snd.fst.1, p.snd.snd.snd.fst.snd.1, p.snd.snd.snd.fst.snd.snd.1,
 p.snd.snd.snd.fst.snd.snd.snd.1, p.snd.snd.snd.fst.snd.snd.snd.snd.1,
 p.snd.snd.snd.fst.snd.snd.snd.snd.snd.1, p.snd.snd.snd.fst.snd.snd.snd.snd.snd.snd.1,
 ()),
 ()))
 (br (j == 5)
 (L f_i_clashes 4 lc_i_clashes_4 [] k_i_clashes_4
 ((p.fst.1, (), (), p.fst.snd.snd.snd.1, p.fst.snd.snd.snd.snd.1, (),
 p.fst.snd.snd.snd.snd.snd.snd.1, p.fst.snd.snd.snd.snd.snd.snd.snd.snd.1,
 p.fst.snd.snd.snd.snd.snd.snd.snd.snd.snd.1, p.fst.snd.snd.snd.snd.snd.snd.snd.snd.snd.snd.1,
 p.fst.snd.snd.snd.snd.snd.snd.snd.snd.snd.snd.snd.1,
 p.fst.snd.snd.snd.snd.snd.snd.snd.snd.snd.snd.snd.snd.1,
 i64.wrap (p.fst.snd.snd.snd.snd.snd.snd.snd.snd.snd.snd.snd.snd.snd.1 + 1),
 ()),
 ((), ()), p.snd.snd.1,
 (p.snd.snd.snd.fst.1, p.snd.snd.snd.fst.snd.1, p.snd.snd.snd.fst.snd.snd.1,
 p.snd.snd.snd.fst.snd.snd.snd.1, p.snd.snd.snd.fst.snd.snd.snd.snd.1,
 p.snd.snd.snd.fst.snd.snd.snd.snd.snd.1, p.snd.snd.snd.fst.snd.snd.snd.snd.snd.snd.1,
 ()),
 ()))
 (some
 (LO.out j
 ((p.fst.1, (), (), p.fst.snd.snd.snd.1, p.fst.snd.snd.snd.snd.1, (),
 p.fst.snd.snd.snd.snd.snd.snd.1, p.fst.snd.snd.snd.snd.snd.snd.snd.snd.1,
 p.fst.snd.snd.snd.snd.snd.snd.snd.snd.snd.1,
 p.fst.snd.snd.snd.snd.snd.snd.snd.snd.snd.snd.1,
 p.fst.snd.snd.snd.snd.snd.snd.snd.snd.snd.snd.snd.1,
 p.fst.snd.snd.snd.snd.snd.snd.snd.snd.snd.snd.snd.snd.1,
 p.fst.snd.snd.snd.snd.snd.snd.snd.snd.snd.snd.snd.snd.snd.1, ()),
 ((), ()), p.snd.snd.1,
 (p.snd.snd.snd.fst.1, p.snd.snd.snd.fst.snd.1, p.snd.snd.snd.fst.snd.snd.1,
 p.snd.snd.snd.fst.snd.snd.snd.1, p.snd.snd.snd.fst.snd.snd.snd.snd.1,
 p.snd.snd.snd.fst.snd.snd.snd.snd.snd.1, p.snd.snd.snd.fst.snd.snd.snd.snd.snd.snd.1,
 ()),
 ())))))
 none)
 none)
 (some
 (LO.out 4
 ((x00, (), (), x03, x04, (), x06, x07, x08, x09, x010, x011, x012, ()),
 ((), ()), x2, (x30, x31, x32, x33, x34, x35, x36, ()), ())))
theorem gl_i_clashes_4 (x00 : CVal) (x03 : List CVal) (x04 : Int) (x06 : List CVal) (x07 : List CVal) (x08 : Int) (x09 : Int) (x010 : List CVal) (x011 : Int) (x012 : Int) (x2 : List CVal) (x30 : Int) (x31 : Int) (x32 : Int) (x33 : Int) (x34 : Int) (x35 : List CVal) (x36 : Int) (R : LO k_i_clashes_4.T) (h : nl_i_clashes_4 CC LL x00 x03 x04 x06 x07 x08 x09 x010 x011 x012 x2 x30 x31 x32 x33 x34 x35 x36 = some R) : LL f_i_clashes 4 lc_i_clashes_4 [] k_i_clashes_4 ((x00, (), (), x03, x04, (), x06, x07, x08, x09, x010, x011, x012, ()), ((), ()), x2,
 (x30, x31, x32, x33, x34, x35, x36, ()), ()) = some R := loopW (Eq.trans (b := nl_i_clashes_4 CC LL x00 x03 x04 x06 x07 x08 x09 x010 x011 x012 x2 x30 x31 x32 x33 x34 x35 x36) (by kernel_rfl) h)
noncomputable def nl_l_markInsS_0 (C : CallT) (L : LoopT) (x01 : Int) (x02 : Int) (x1 : List CVal) : Option (LO k_l_markInsS_0.T) :=
 br (decide (x02 < (↑x1.length : Int)))
 (br (decide (0 ≤ x02) && true)
 (br (decide (x02.toNat < x1.length) && true)
 (x1[x02.toNat]?.bind fun y =>
 br (CVal.fits false 1 y)
 (br (decide (0 ≤ x02) && true)
 (br (decide (x02.toNat < (x1.set x02.toNat (CVal.int i64 x01)).length) && true)
 ((x1.set x02.toNat (CVal.int i64 x01))[x02.toNat]?.bind fun y =>
 br (y.isAgg && decide (2 ≤ y.cells.length))
 (br (decide (0 ≤ x02) && true)
 (br
 (decide
 (x02.toNat <
 ((x1.set x02.toNat (CVal.int i64 x01)).set x02.toNat
 (CVal.agg
 (splice y.cells 1
 [CVal.int i64 (i64.wrap (x01 + 1))]))).length) &&
 true)
 (((x1.set x02.toNat (CVal.int i64 x01)).set x02.toNat
 (CVal.agg
 (splice y.cells 1
 [CVal.int i64 (i64.wrap (x01 + 1))])))[x02.toNat]?.bind
 fun y_1 =>
 br (y_1.isAgg && decide (3 ≤ y_1.cells.length))
 (br (decide (0 ≤ x02) && true)
 (br
 (decide
 (x02.toNat <
 (((x1.set x02.toNat (CVal.int i64 x01)).set x02.toNat
 (CVal.agg
 (splice y.cells 1
 [CVal.int i64 (i64.wrap (x01 + 1))]))).set
 x02.toNat
 (CVal.agg
 (splice y_1.cells 2
 [CVal.int i64
 (i64.wrap
 (i64.wrap (x01 + 1) + 1))]))).length) &&
 true)
 ((((x1.set x02.toNat (CVal.int i64 x01)).set x02.toNat
 (CVal.agg
 (splice y.cells 1
 [CVal.int i64 (i64.wrap (x01 + 1))]))).set
 x02.toNat
 (CVal.agg
 (splice y_1.cells 2
 [CVal.int i64
 (i64.wrap
 (i64.wrap (x01 + 1) + 1))])))[x02.toNat]?.bind
 fun y_2 =>
 br (y_2.isAgg && decide (4 ≤ y_2.cells.length))
 (br (decide (0 ≤ x02) && true)
 (br
 (decide
 (x02.toNat <
 ((((x1.set x02.toNat (CVal.int i64 x01)).set x02.toNat
 (CVal.agg
 (splice y.cells 1
 [CVal.int i64
 (i64.wrap (x01 + 1))]))).set
 x02.toNat
 (CVal.agg
 (splice y_1.cells 2
 [CVal.int i64
 (i64.wrap
 (i64.wrap (x01 + 1) + 1))]))).set
 x02.toNat
 (CVal.agg
 (splice y_2.cells 3
 [CVal.int i64
 (i64.wrap
 (i64.wrap
 (i64.wrap (x01 + 1) + 1) +
 1))]))).length) &&
 true)
 (((((x1.set x02.toNat (CVal.int i64 x01)).set x02.toNat
 (CVal.agg
 (splice y.cells 1
 [CVal.int i64
 (i64.wrap (x01 + 1))]))).set
 x02.toNat
 (CVal.agg
 (splice y_1.cells 2
 [CVal.int i64
 (i64.wrap
 (i64.wrap (x01 + 1) + 1))]))).set
 x02.toNat
 (CVal.agg
 (splice y_2.cells 3
 [CVal.int i64
 (i64.wrap
 (i64.wrap
 (i64.wrap (x01 + 1) + 1) +
 1))])))[x02.toNat]?.bind
 fun y_3 =>
 br (y_3.isAgg && decide (5 ≤ y_3.cells.length))
 (br (decide (0 ≤ x02) && true)
 (br
 (decide
 (x02.toNat <
 (((((x1.set x02.toNat (CVal.int i64 x01)).set x02.toNat
 (CVal.agg
 (splice y.cells 1
 [CVal.int i64
 (i64.wrap (x01 + 1))]))).set
 x02.toNat
 (CVal.agg
 (splice y_1.cells 2
 [CVal.int i64
 (i64.wrap
 (i64.wrap (x01 + 1) +
 1))]))).set
 x02.toNat
 (CVal.agg
 (splice y_2.cells 3
 [CVal.int i64
 (i64.wrap
 (i64.wrap
 (i64.wrap (x01 + 1) +
 1) +
 1))]))).set
 x02.toNat
 (CVal.agg
 (splice y_3.cells 4
 [CVal.int i64
 (i64.wrap
 (i64.wrap
 (i64.wrap
 (i64.wrap (x01 + 1) +
 1) +
 1) +
 1))]))).length) &&
 true)
 ((((((x1.set x02.toNat (CVal.int i64 x01)).set x02.toNat
 (CVal.agg
 (splice y.cells 1
 [CVal.int i64
 (i64.wrap (x01 + 1))]))).set
 x02.toNat
 (CVal.agg
 (splice y_1.cells 2
 [CVal.int i64
 (i64.wrap
 (i64.wrap (x01 + 1) +
 1))]))).set
 x02.toNat
 (CVal.agg
 (splice y_2.cells 3
 [CVal.int i64
 (i64.wrap
 (i64.wrap
 (i64.wrap (x01 + 1) +
 1) +
 1))]))).set
 x02.toNat
 (CVal.agg
 (splice y_3.cells 4
 [CVal.int i64
 (i64.wrap
 (i64.wrap
 (i64.wrap
 (i64.wrap (x01 + 1) +
 1) +
 1) +
 1))])))[x02.toNat]?.bind
 fun y_4 =>
 (y_4.cell 5).bind fun c =>
 c.asSl.bind fun xs =>
 (((((x1.set x02.toNat (CVal.int i64 x01)).set x02.toNat
 (CVal.agg
 (splice y.cells 1
 [CVal.int i64
 (i64.wrap
 (x01 + 1))]))).set
 x02.toNat
 (CVal.agg
 (splice y_1.cells 2
 [CVal.int i64
 (i64.wrap
 (i64.wrap (x01 + 1) +
 1))]))).set
 x02.toNat
 (CVal.agg
 (splice y_2.cells 3
 [CVal.int i64
 (i64.wrap
 (i64.wrap
 (i64.wrap (x01 + 1) +
 1) +
 1))]))).set
 x02.toNat
 (CVal.agg
 (splice y_3.cells 4
 [CVal.int i64
 (i64.wrap
 (i64.wrap
 (i64.wrap
 (i64.wrap (x01 + 1) +
 1) +
 1) +
 1))])))[x02.toNat]?.bind
 fun y_5 =>
 (y_5.cell 5).bind fun c =>
 c.asSl.bind fun xs =>
 br (xs.all (CVal.fits false 1))
 ((C f_l_markIntS
 [AVal.lref 0 0,
 AVal.v
 (CVal.int i64
 (i64.wrap
 (i64.wrap
 (i64.wrap
 (i64.wrap
 (i64.wrap
 (x01 + 1) +
 1) +
 1) +
 1) +
 1)))]
 [PB.arr (Md.mk true true 0) false 1
 xs]).bind
 fun r =>
 r.2[0]?.bind fun y_6 =>
 br (decide (0 ≤ x02) && true)
 (br
 (decide
 (x02.toNat <
 ((((((x1.set x02.toNat
 (CVal.int i64
 x01)).set
 x02.toNat
 (CVal.agg
 (splice y.cells
 1
 [CVal.int i64
 (i64.wrap
 (x01 +
 (1 :
 Int)))]))).set
 x02.toNat
 (CVal.agg
 (splice y_1.cells 2
 [CVal.int i64
 (i64.wrap
 (i64.wrap
 (x01 +
 1) +
 (1 :
 Int)))]))).set
 x02.toNat
 (CVal.agg
 (splice y_2.cells 3
 [CVal.int i64
 (i64.wrap
 (i64.wrap
 (i64.wrap
 (x01 +
 1) +
 1) +
 1))]))).set
 x02.toNat
 (CVal.agg
 (splice y_3.cells 4
 [CVal.int i64
 (i64.wrap
 (i64.wrap
 (i64.wrap
 (i64.wrap
 (x01 +
 1) +
 1) +
 1) +
 1))]))).set
 x02.toNat
 (y_5.putCell 5
 (CVal.sl y_6))).length) &&
 true)
 (br (r.1.isFlat && true)
 ((CVal.asInt i64 r.1).bind fun n =>
 ((((((x1.set x02.toNat
 (CVal.int
 i64
 x01)).set
 x02.toNat
 (CVal.agg
 (splice y.cells
 1
 [CVal.int
 i64
 (i64.wrap
 (x01 +
 (1 :
 Int)))]))).set
 x02.toNat
 (CVal.agg
 (splice y_1.cells
 2
 [CVal.int i64
 (i64.wrap
 (i64.wrap
 (x01 +
 1) +
 (1 :
 Int)))]))).set
 x02.toNat
 (CVal.agg
 (splice y_2.cells 3
 [CVal.int i64
 (i64.wrap
 (i64.wrap
 (i64.wrap
 (x01 +
 1) +
 1) +
 1))]))).set
 x02.toNat
 (CVal.agg
 (splice y_3.cells 4
 [CVal.int i64
 (i64.wrap
 (i64.wrap
 (i64.wrap
 (i64.wrap
 (x01 +
 1) +
 1) +
 1) +
 1))]))).set
 x02.toNat
 (y_5.putCell 5
 (CVal.sl y_6)))[x02.toNat]?.bind
 fun y_7 =>
 br
 (y_7.isAgg &&
 decide (7 ≤ y_7.cells.length))
 ((CVal.asInt i64 r.1).bind
 fun n_1 =>
 L f_l_markInsS 0 lc_l_markInsS_0
 [PSh.arr (Md.mk true true 0)
 false 7]
 k_l_markInsS_0
 (((),
 i64.wrap (n_1 + 1),
 i64.wrap (x02 + 1),
 ()),
 ((((((x1.set x02.toNat
 (CVal.int
 i64
 x01)).set
 x02.toNat
 (CVal.agg
 (splice
 y.cells
 1
 [CVal.int
 i64
 (i64.wrap
 (x01 +
 (1 :
 Int)))]))).set
 x02.toNat
 (CVal.agg
 (splice y_1.cells
 2
 [CVal.int
 i64
 (i64.wrap
 (i64.wrap
 (x01 +
 (1 :
 Int)) +
 (1 :
 Int)))]))).set
 x02.toNat
 (CVal.agg
 (splice y_2.cells
 3
 [CVal.int
 i64
 (i64.wrap
 (i64.wrap
 (i64.wrap
 (x01 +
 (1 :
 Int)) +
 (1 :
 Int)) +
 (1 :
 Int)))]))).set
 x02.toNat
 (CVal.agg
 (splice y_3.cells
 4
 [CVal.int i64
 (i64.wrap
 (i64.wrap
 (i64.wrap
 (i64.wrap
 (x01 +
 (1 :
 Int)) +
 (1 :
 Int)) +
 1) +
 (1 :
 Int)))]))).set
 x02.toNat
 (y_5.putCell 5
 (CVal.sl y_6))).set
 x02.toNat
 (CVal.agg
 (splice y_7.cells 6
 [CVal.int i64 n])),
 ()))
 none)
 none)
 none)
 none)
 none)
 none)
 none)
 none)
 none)
 none)
 none)
 none)
 none)
 none)
 none)
 none)
 none)
 none)
 none)
 (br (y.isAgg && decide (1 ≤ y.cells.length))
 (br (decide (0 ≤ x02) && true)
 (br
 (decide
 (x02.toNat <
 (x1.set x02.toNat (CVal.agg (CVal.int i64 x01 :: List.drop 1 y.cells))).length) &&
 true)
 ((x1.set x02.toNat
 (CVal.agg (CVal.int i64 x01 :: List.drop 1 y.cells)))[x02.toNat]?.bind
 fun y_1 =>
 br (y_1.isAgg && decide (2 ≤ y_1.cells.length))
 (br (decide (0 ≤ x02) && true)
 (br
 (decide
 (x02.toNat <
 ((x1.set x02.toNat
 (CVal.agg (CVal.int i64 x01 :: List.drop 1 y.cells))).set
 x02.toNat
 (CVal.agg
 (splice y_1.cells 1
 [CVal.int i64 (i64.wrap (x01 + 1))]))).length) &&
 true)
 (((x1.set x02.toNat (CVal.agg (CVal.int i64 x01 :: List.drop 1 y.cells))).set
 x02.toNat
 (CVal.agg
 (splice y_1.cells 1
 [CVal.int i64 (i64.wrap (x01 + 1))])))[x02.toNat]?.bind
 fun y_2 =>
 br (y_2.isAgg && decide (3 ≤ y_2.cells.length))
 (br (decide (0 ≤ x02) && true)
 (br
 (decide
 (x02.toNat <
 (((x1.set x02.toNat
 (CVal.agg
 (CVal.int i64 x01 :: List.drop 1 y.cells))).set
 x02.toNat
 (CVal.agg
 (splice y_1.cells 1
 [CVal.int i64 (i64.wrap (x01 + 1))]))).set
 x02.toNat
 (CVal.agg
 (splice y_2.cells 2
 [CVal.int i64
 (i64.wrap
 (i64.wrap (x01 + 1) + 1))]))).length) &&
 true)
 ((((x1.set x02.toNat
 (CVal.agg
 (CVal.int i64 x01 :: List.drop 1 y.cells))).set
 x02.toNat
 (CVal.agg
 (splice y_1.cells 1
 [CVal.int i64 (i64.wrap (x01 + 1))]))).set
 x02.toNat
 (CVal.agg
 (splice y_2.cells 2
 [CVal.int i64
 (i64.wrap
 (i64.wrap (x01 + 1) + 1))])))[x02.toNat]?.bind
 fun y_3 =>
 br (y_3.isAgg && decide (4 ≤ y_3.cells.length))
 (br (decide (0 ≤ x02) && true)
 (br
 (decide
 (x02.toNat <
 ((((x1.set x02.toNat
 (CVal.agg
 (CVal.int i64 x01 ::
 List.drop 1 y.cells))).set
 x02.toNat
 (CVal.agg
 (splice y_1.cells 1
 [CVal.int i64
 (i64.wrap (x01 + 1))]))).set
 x02.toNat
 (CVal.agg
 (splice y_2.cells 2
 [CVal.int i64
 (i64.wrap
 (i64.wrap (x01 + 1) +
 1))]))).set
 x02.toNat
 (CVal.agg
 (splice y_3.cells 3
 [CVal.int i64
 (i64.wrap
 (i64.wrap
 (i64.wrap (x01 + 1) + 1) +
 1))]))).length) &&
 true)
 (((((x1.set x02.toNat
 (CVal.agg
 (CVal.int i64 x01 ::
 List.drop 1 y.cells))).set
 x02.toNat
 (CVal.agg
 (splice y_1.cells 1
 [CVal.int i64
 (i64.wrap (x01 + 1))]))).set
 x02.toNat
 (CVal.agg
 (splice y_2.cells 2
 [CVal.int i64
 (i64.wrap
 (i64.wrap (x01 + 1) + 1))]))).set
 x02.toNat
 (CVal.agg
 (splice y_3.cells 3
 [CVal.int i64
 (i64.wrap
 (i64.wrap
 (i64.wrap (x01 + 1) + 1) +
 1))])))[x02.toNat]?.bind
 fun y_4 =>
 br (y_4.isAgg && decide (5 ≤ y_4.cells.length))
 (br (decide (0 ≤ x02) && true)
 (br
 (decide
 (x02.toNat <
 (((((x1.set x02.toNat
 (CVal.agg
 (CVal.int i64 x01 ::
 List.drop 1 y.cells))).set
 x02.toNat
 (CVal.agg
 (splice y_1.cells 1
 [CVal.int i64
 (i64.wrap
 (x01 + 1))]))).set
 x02.toNat
 (CVal.agg
 (splice y_2.cells 2
 [CVal.int i64
 (i64.wrap
 (i64.wrap (x01 + 1) +
 1))]))).set
 x02.toNat
 (CVal.agg
 (splice y_3.cells 3
 [CVal.int i64
 (i64.wrap
 (i64.wrap
 (i64.wrap (x01 + 1) +
 1) +
 1))]))).set
 x02.toNat
 (CVal.agg
 (splice y_4.cells 4
 [CVal.int i64
 (i64.wrap
 (i64.wrap
 (i64.wrap
 (i64.wrap (x01 + 1) +
 1) +
 1) +
 1))]))).length) &&
 true)
 ((((((x1.set x02.toNat
 (CVal.agg
 (CVal.int i64 x01 ::
 List.drop 1 y.cells))).set
 x02.toNat
 (CVal.agg
 (splice y_1.cells 1
 [CVal.int i64
 (i64.wrap (x01 + 1))]))).set
 x02.toNat
 (CVal.agg
 (splice y_2.cells 2
 [CVal.int i64
 (i64.wrap
 (i64.wrap (x01 + 1) +
 1))]))).set
 x02.toNat
 (CVal.agg
 (splice y_3.cells 3
 [CVal.int i64
 (i64.wrap
 (i64.wrap
 (i64.wrap (x01 + 1) +
 1) +
 1))]))).set
 x02.toNat
 (CVal.agg
 (splice y_4.cells 4
 [CVal.int i64
 (i64.wrap
 (i64.wrap
 (i64.wrap
 (i64.wrap (x01 + 1) +
 1) +
 1) +
 1))])))[x02.toNat]?.bind
 fun y_5 =>
 (y_5.cell 5).bind fun c =>
 c.asSl.bind fun xs =>
 (((((x1.set x02.toNat
 (CVal.agg
 (CVal.int i64 x01 ::
 List.drop 1 y.cells))).set
 x02.toNat
 (CVal.agg
 (splice y_1.cells 1
 [CVal.int i64
 (i64.wrap
 (x01 + 1))]))).set
 x02.toNat
 (CVal.agg
 (splice y_2.cells 2
 [CVal.int i64
 (i64.wrap
 (i64.wrap (x01 + 1) +
 1))]))).set
 x02.toNat
 (CVal.agg
 (splice y_3.cells 3
 [CVal.int i64
 (i64.wrap
 (i64.wrap
 (i64.wrap (x01 + 1) +
 1) +
 1))]))).set
 x02.toNat
 (CVal.agg
 (splice y_4.cells 4
 [CVal.int i64
 (i64.wrap
 (i64.wrap
 (i64.wrap
 (i64.wrap (x01 + 1) +
 1) +
 1) +
 1))])))[x02.toNat]?.bind
 fun y_6 =>
 (y_6.cell 5).bind fun c =>
 c.asSl.bind fun xs =>
 br (xs.all (CVal.fits false 1))
 ((C f_l_markIntS
 [AVal.lref 0 0,
 AVal.v
 (CVal.int i64
 (i64.wrap
 (i64.wrap
 (i64.wrap
 (i64.wrap
 (i64.wrap
 (x01 + 1) +
 1) +
 1) +
 1) +
 1)))]
 [PB.arr (Md.mk true true 0) false 1
 xs]).bind
 fun r =>
 r.2[0]?.bind fun y_7 =>
 br (decide (0 ≤ x02) && true)
 (br
 (decide
 (x02.toNat <
 ((((((x1.set x02.toNat
 (CVal.agg
 (CVal.int
 i64
 x01 ::
 List.drop
 1
 y.cells))).set
 x02.toNat
 (CVal.agg
 (splice y_1.cells
 1
 [CVal.int
 i64
 (i64.wrap
 (x01 +
 (1 :
 Int)))]))).set
 x02.toNat
 (CVal.agg
 (splice y_2.cells
 2
 [CVal.int i64
 (i64.wrap
 (i64.wrap
 (x01 +
 1) +
 (1 :
 Int)))]))).set
 x02.toNat
 (CVal.agg
 (splice y_3.cells 3
 [CVal.int i64
 (i64.wrap
 (i64.wrap
 (i64.wrap
 (x01 +
 1) +
 1) +
 1))]))).set
 x02.toNat
 (CVal.agg
 (splice y_4.cells 4
 [CVal.int i64
 (i64.wrap
 (i64.wrap
 (i64.wrap
 (i64.wrap
 (x01 +
 1) +
 1) +
 1) +
 1))]))).set
 x02.toNat
 (y_6.putCell 5
 (CVal.sl y_7))).length) &&
 true)
 (br (r.1.isFlat && true)
 ((CVal.asInt i64 r.1).bind fun n =>
 ((((((x1.set x02.toNat
 (CVal.agg
 (CVal.int
 i64
 x01 ::
 List.drop
 1
 y.cells))).set
 x02.toNat
 (CVal.agg
 (splice y_1.cells
 1
 [CVal.int
 i64
 (i64.wrap
 (x01 +
 (1 :
 Int)))]))).set
 x02.toNat
 (CVal.agg
 (splice y_2.cells
 2
 [CVal.int i64
 (i64.wrap
 (i64.wrap
 (x01 +
 (1 :
 Int)) +
 (1 :
 Int)))]))).set
 x02.toNat
 (CVal.agg
 (splice y_3.cells 3
 [CVal.int i64
 (i64.wrap
 (i64.wrap
 (i64.wrap
 (x01 +
 (1 :
 Int)) +
 1) +
 (1 :
 Int)))]))).set
 x02.toNat
 (CVal.agg
 (splice y_4.cells 4
 [CVal.int i64
 (i64.wrap
 (i64.wrap
 (i64.wrap
 (i64.wrap
 (x01 +
 (1 :
 Int)) +
 1) +
 1) +
 1))]))).set
 x02.toNat
 (y_6.putCell 5
 (CVal.sl y_7)))[x02.toNat]?.bind
 fun y_8 =>
 br
 (y_8.isAgg &&
 decide (7 ≤ y_8.cells.length))
 ((CVal.asInt i64 r.1).bind
 fun n_1 =>
 L f_l_markInsS 0 lc_l_markInsS_0
 [PSh.arr (Md.mk true true 0)
 false 7]
 k_l_markInsS_0
 (((),
 i64.wrap
 (n_1 + 1),
 i64.wrap
 (x02 + 1),
 ()),
 ((((((x1.set x02.toNat
 (CVal.agg
 (CVal.int
 i64
 x01 ::
 List.drop
 (1 :
 Nat)
 y.cells))).set
 x02.toNat
 (CVal.agg
 (splice
 y_1.cells
 1
 [CVal.int
 i64
 (i64.wrap
 (x01 +
 (1 :
 Int)))]))).set
 x02.toNat
 (CVal.agg
 (splice
 y_2.cells
 2
 [CVal.int
 i64
 (i64.wrap
 (i64.wrap
 (x01 +
 (1 :
 Int)) +
 (1 :
 Int)))]))).set
 x02.toNat
 (CVal.agg
 (splice y_3.cells
 3
 [CVal.int
 i64
 (i64.wrap
 (i64.wrap
 (i64.wrap
 (x01 +
 (1 :
 Int)) +
 (1 :
 Int)) +
 (1 :
 Int)))]))).set
 x02.toNat
 (CVal.agg
 (splice y_4.cells
 4
 [CVal.int i64
 (i64.wrap
 (i64.wrap
 (i64.wrap
 (i64.wrap
 (x01 +
 (1 :
 Int)) +
 (1 :
 Int)) +
 (1 :
 Int)) +
 (1 :
 Int)))]))).set
 x02.toNat
 (y_6.putCell 5
 (CVal.sl y_7))).set
 x02.toNat
 (CVal.agg
 (splice y_8.cells 6
 [CVal.int i64 n])),
 ()))
 none)
 none)
 none)
 none)
 none)
 none)
 none)
 none)
 none)
 none)
 none)
 none)
 none)
 none)
 none)
 none)
 none)
 none)
 none)
 none))
 none)
 none)
 (some (LO.out 0 (((), x01, x02, ()), x1, ())))
theorem gl_l_markInsS_0 (x01 : Int) (x02 : Int) (x1 : List CVal) (R : LO k_l_markInsS_0.T) (h : nl_l_markInsS_0 CC LL x01 x02 x1 = some R) : LL f_l_markInsS 0 lc_l_markInsS_0 [PSh.arr (Md.mk true true 0) false 7] k_l_markInsS_0 (((), x01, x02, ()), x1, ()) = some R := loopW (Eq.trans (b := nl_l_markInsS_0 CC LL x01 x02 x1) (by kernel_rfl) h)
noncomputable def nl_s_l11Table_8 (C : CallT) (L : LoopT) (x00 : CVal) (x01 : List CVal) (x03 : Int) (x04 : Int) (x06 : Int) (x1 : List CVal) (x2 : List CVal) : Option (LO k_s_l11Table_8.T) :=
 (br (decide (x06 < (↑x2.length : Int))) (some (decide (0 ≤ x04), ())) (some (false, ()))).bind
 fun y =>
 br y.1
 ((L f_s_l11Table 10 lc_s_l11Table_10 [] k_s_l11Table_10
 ((x00, x01, (), x03, x04, (), x06, 0, ()), x1, x2, ())).bind
 fun r =>
 loK r (fun r => some (LO.ret r)) fun j p =>
 br (j == 10)
 (L f_s_l11Table 8 lc_s_l11Table_8 [] k_s_l11Table_8
 ((p.fst.1, p.fst.snd.1, (), p.fst.snd.snd.snd.1, p.fst.snd.snd.snd.snd.1, (),
 i64.wrap (p.fst.snd.snd.snd.snd.snd.snd.1 + 1), ()),
 p.snd.1, p.snd.snd.1, ()))
 (br (j == 9)
 (L f_s_l11Table 8 lc_s_l11Table_8 [] k_s_l11Table_8
 ((p.fst.1, p.fst.snd.1, (), p.fst.snd.snd.snd.1, p.fst.snd.snd.snd.snd.1, (),
 i64.wrap (p.fst.snd.snd.snd.snd.snd.snd.1 + 1), ()),
 p.snd.1, p.snd.snd.1, ()))
 (some
 (LO.out j
 ((p.fst.1, p.fst.snd.1, (), p.fst.snd.snd.snd.1, p.fst.snd.snd.snd.snd.1, (),
 p.fst.snd.snd.snd.snd.snd.snd.1, ()),
 p.snd.1, p.snd.snd.1, ())))))
 (some (LO.out 8 ((x00, x01, (), x03, x04, (), x06, ()), x1, x2, ())))
theorem gl_s_l11Table_8 (x00 : CVal) (x01 : List CVal) (x03 : Int) (x04 : Int) (x06 : Int) (x1 : List CVal) (x2 : List CVal) (R : LO k_s_l11Table_8.T) (h : nl_s_l11Table_8 CC LL x00 x01 x03 x04 x06 x1 x2 = some R) : LL f_s_l11Table 8 lc_s_l11Table_8 [] k_s_l11Table_8 ((x00, x01, (), x03, x04, (), x06, ()), x1, x2, ()) = some R := loopW (Eq.trans (b := nl_s_l11Table_8 CC LL x00 x01 x03 x04 x06 x1 x2) (by kernel_rfl) h)
noncomputable def nl_s_l11Table_0 (C : CallT) (L : LoopT) (x00 : CVal) (x01 : List CVal) (x03 : Int) (x1 : List CVal) : Option (LO k_s_l11Table_0.T) :=
 x00.asFp.bind fun y =>
 (y.1.cell (y.2 + 2)).bind fun c =>
 (CVal.asInt i64 c).bind fun n =>
 br (decide (x03 < n))
 (x00.asFp.bind fun y =>
 (y.1.cell (y.2 + 2)).bind fun c =>
 c.asIdx.bind fun y =>
 c.asIdx.bind fun y_1 =>
 br (decide (0 ≤ y) && decide (y = y_1) && decide (y ≤ 1048576))
 (br (decide (x1.length + 1 ≤ 4294967296) && true && true)
 (L f_s_l11Table 0 lc_s_l11Table_0 [] k_s_l11Table_0
 ((x00, x01, (), i64.wrap (x03 + 1), ()),
 x1 ++ [CVal.sl (List.replicate y.toNat (CVal.bool false))], ()))
 none)
 none)
 (some (LO.out 0 ((x00, x01, (), x03, ()), x1, ())))
theorem gl_s_l11Table_0 (x00 : CVal) (x01 : List CVal) (x03 : Int) (x1 : List CVal) (R : LO k_s_l11Table_0.T) (h : nl_s_l11Table_0 CC LL x00 x01 x03 x1 = some R) : LL f_s_l11Table 0 lc_s_l11Table_0 [] k_s_l11Table_0 ((x00, x01, (), x03, ()), x1, ()) = some R := loopW (Eq.trans (b := nl_s_l11Table_0 CC LL x00 x01 x03 x1) (by kernel_rfl) h)
noncomputable def nl_i_things_0 (C : CallT) (L : LoopT) (x01 : List CVal) (x02 : Int) (x03 : Int) (x1 : List CVal) : Option (LO k_i_things_0.T) :=
 br (decide (x03 < x02))
 (br (decide (0 ≤ x03) && true)
 (x01[x03.toNat]?.bind fun y =>
 br (CVal.fits false 1 y)
 ((y.cell 0).bind fun c =>
 c.asBool.bind fun b =>
 br b
 (br (decide (x1.length + 1 ≤ 4294967296) && true && true)
 (L f_i_things 0 lc_i_things_0 [] k_i_things_0
 (((), x01, x02, i64.wrap (x03 + 1), ()),
 x1 ++ [CVal.int i64 x03], ()))
 none)
 (L f_i_things 0 lc_i_things_0 [] k_i_things_0
 (((), x01, x02, i64.wrap (x03 + 1), ()), x1, ())))
 none)
 none)
 (some (LO.out 0 (((), x01, x02, x03, ()), x1, ())))
theorem gl_i_things_0 (x01 : List CVal) (x02 : Int) (x03 : Int) (x1 : List CVal) (R : LO k_i_things_0.T) (h : nl_i_things_0 CC LL x01 x02 x03 x1 = some R) : LL f_i_things 0 lc_i_things_0 [] k_i_things_0 (((), x01, x02, x03, ()), x1, ()) = some R := loopW (Eq.trans (b := nl_i_things_0 CC LL x01 x02 x03 x1) (by kernel_rfl) h)
noncomputable def nl_l_toIntS_0 (C : CallT) (L : LoopT) (x00 : List CVal) (x02 : Int) (x1 : List CVal) : Option (LO k_l_toIntS_0.T) :=
 br (decide (x02 < (↑x00.length : Int)))
 (br (decide (0 ≤ x02) && true)
 (x00[x02.toNat]?.bind fun y =>
 br (CVal.fits false 1 y)
 ((y.cell 0).bind fun c =>
 br (decide (0 ≤ x02) && true)
 (br (decide (x02.toNat < x1.length) && true)
 (br (c.isFlat && true)
 ((CVal.asInt i64 c).bind fun n =>
 x1[x02.toNat]?.bind fun y =>
 br (CVal.fits false 1 y)
 (L f_l_toIntS 0 lc_l_toIntS_0 [] k_l_toIntS_0
 ((x00, (), i64.wrap (x02 + 1), ()),
 x1.set x02.toNat (CVal.int i64 n), ()))
 (br (y.isAgg && decide (1 ≤ y.cells.length))
 (L f_l_toIntS 0 lc_l_toIntS_0 [] k_l_toIntS_0
 ((x00, (), i64.wrap (x02 + 1), ()),
 x1.set x02.toNat (CVal.agg (CVal.int i64 n :: List.drop 1 y.cells)),
 ()))
 none))
 none)
 none)
 none)
 none)
 none)
 (some (LO.out 0 ((x00, (), x02, ()), x1, ())))
theorem gl_l_toIntS_0 (x00 : List CVal) (x02 : Int) (x1 : List CVal) (R : LO k_l_toIntS_0.T) (h : nl_l_toIntS_0 CC LL x00 x02 x1 = some R) : LL f_l_toIntS 0 lc_l_toIntS_0 [] k_l_toIntS_0 ((x00, (), x02, ()), x1, ()) = some R := loopW (Eq.trans (b := nl_l_toIntS_0 CC LL x00 x02 x1) (by kernel_rfl) h)
noncomputable def nl_s_l11All_0 (C : CallT) (L : LoopT) (x01 : List CVal) (x02 : Int) (x1 : List CVal) : Option (LO k_s_l11All_0.T) :=
 br (decide (x02 < (↑x01.length : Int)))
 ((L f_s_l11All 2 lc_s_l11All_2 [PSh.arr (Md.mk true true 0) false 1] k_s_l11All_2
 (((), x01, x02, 0, ()), x1, ())).bind
 fun r =>
 loK r (fun r => some (LO.ret r)) fun j p =>
 br (j == 2)
 (L f_s_l11All 0 lc_s_l11All_0 [PSh.arr (Md.mk true true 0) false 1] k_s_l11All_0
 (((), p.fst.snd.1, i64.wrap (p.fst.snd.snd.1 + 1), ()), p.snd.1, ()))
 (br (j == 1)
 (L f_s_l11All 0 lc_s_l11All_0 [PSh.arr (Md.mk true true 0) false 1] k_s_l11All_0
 (((), p.fst.snd.1, i64.wrap (p.fst.snd.snd.1 + 1), ()), p.snd.1,
 ()))
 (some (LO.out j (((), p.fst.snd.1, p.fst.snd.snd.1, ()), p.snd.1, ())))))
 (some (LO.out 0 (((), x01, x02, ()), x1, ())))
theorem gl_s_l11All_0 (x01 : List CVal) (x02 : Int) (x1 : List CVal) (R : LO k_s_l11All_0.T) (h : nl_s_l11All_0 CC LL x01 x02 x1 = some R) : LL f_s_l11All 0 lc_s_l11All_0 [PSh.arr (Md.mk true true 0) false 1] k_s_l11All_0 (((), x01, x02, ()), x1, ()) = some R := loopW (Eq.trans (b := nl_s_l11All_0 CC LL x01 x02 x1) (by kernel_rfl) h)
noncomputable def nl_i_wanted_0 (C : CallT) (L : LoopT) (x00 : Int) (x040 : CVal) (x05 : List CVal) (x06 : Int) (x07 : Int) (x10 : Int) (x11 : Int) (x12 : Int) (x13 : List CVal) (x3 : List CVal) (x40 : Int) (x41 : Int) (x42 : Int) (x43 : Int) (x44 : Int) (x45 : List CVal) (x46 : Int) : Option (LO k_i_wanted_0.T) :=
 br (decide (x07 < x06))
 (br (decide (0 ≤ x07) && true)
 (x05[x07.toNat]?.bind fun y =>
 br (CVal.fits false 1 y)
 ((y.cell 0).bind fun c =>
 (C f_i_Writes
 [AVal.v
 (CVal.agg
 [CVal.int i64 x40, CVal.int i64 x41, CVal.int i64 x42,
 CVal.int i64 x43, CVal.int i64 x44, CVal.sl x45, CVal.int i64 x46])]
 []).bind
 fun r =>
 (C f_i_wanted_1 [AVal.v c, AVal.v r.1, AVal.v x040, AVal.lptr 0 0]
 [PB.box [AVal.lref 1 0], PB.arr (Md.mk true false 0) true 1 x3]).bind
 fun r =>
 r.2[0]?.bind fun y =>
 r.2[1]?.bind fun y_1 =>
 y[0]?.bind fun y =>
 y.asSl.bind fun xs =>
 L f_i_wanted 0 lc_i_wanted_0 [] k_i_wanted_0
 ((x00, (), (), (), (x040, ()), x05, x06,
 i64.wrap (x07 + 1), ()),
 (x10, x11, x12, x13, ()), ((), ()), xs,
 (x40, x41, x42, x43, x44, x45, x46, ()), ()))
 none)
 none)
 (some
 (LO.out 0
 ((x00, (), (), (), (x040, ()), x05, x06, x07, ()),
 (x10, x11, x12, x13, ()), ((), ()), x3, (x40, x41, x42, x43, x44, x45, x46, ()),
 ())))
theorem gl_i_wanted_0 (x00 : Int) (x040 : CVal) (x05 : List CVal) (x06 : Int) (x07 : Int) (x10 : Int) (x11 : Int) (x12 : Int) (x13 : List CVal) (x3 : List CVal) (x40 : Int) (x41 : Int) (x42 : Int) (x43 : Int) (x44 : Int) (x45 : List CVal) (x46 : Int) (R : LO k_i_wanted_0.T) (h : nl_i_wanted_0 CC LL x00 x040 x05 x06 x07 x10 x11 x12 x13 x3 x40 x41 x42 x43 x44 x45 x46 = some R) : LL f_i_wanted 0 lc_i_wanted_0 [] k_i_wanted_0 ((x00, (), (), (), (x040, ()), x05, x06, x07, ()), (x10, x11, x12, x13, ()), ((), ()), x3,
 (x40, x41, x42, x43, x44, x45, x46, ()), ()) = some R := loopW (Eq.trans (b := nl_i_wanted_0 CC LL x00 x040 x05 x06 x07 x10 x11 x12 x13 x3 x40 x41 x42 x43 x44 x45 x46) (by kernel_rfl) h)
noncomputable def nl_s_l10Node_0 (C : CallT) (L : LoopT) (x01 : Int) (x02 : List CVal) (x03 : Int) (x10 : Int) (x11 : Int) (x12 : Int) (x13 : List CVal) (x15 : Bool) (x3 : List CVal) : Option (LO k_s_l10Node_0.T) :=
 br (decide (x03 < (↑x02.length : Int)))
 (br (decide (0 ≤ x03) && true)
 (x02[x03.toNat]?.bind fun y =>
 br (CVal.fits false 1 y)
 ((y.cell 0).bind fun c =>
 (C f_s_l10Set [AVal.lptr 0 0, AVal.v (CVal.int i64 x01), AVal.v c]
 [PB.box
 [AVal.v (CVal.int i64 x10), AVal.v (CVal.int i64 x11),
 AVal.v (CVal.int i64 x12), AVal.v (CVal.sl x13), AVal.lref 1 0,
 AVal.v (CVal.bool x15)],
 PB.arr (Md.mk true false 0) true 1 x3]).bind
 fun r =>
 r.2[0]?.bind fun y =>
 r.2[1]?.bind fun y_1 =>
 y[0]?.bind fun y_2 =>
 y[1]?.bind fun y_3 =>
 y[2]?.bind fun y_4 =>
 y[3]?.bind fun y_5 =>
 y[4]?.bind fun y_6 =>
 y[5]?.bind fun y =>
 y_6.asSl.bind fun xs =>
 (CVal.asInt i64 y_2).bind fun n =>
 (CVal.asInt i64 y_3).bind fun n_1 =>
 (CVal.asInt i64 y_4).bind fun n_2 =>
 y_5.asSl.bind fun xs_1 =>
 y.asBool.bind fun b =>
 L f_s_l10Node 0 lc_s_l10Node_0
 [PSh.box [none, none, none, none, some 1, none],
 PSh.arr (Md.mk true false 0) true 1]
 k_s_l10Node_0
 (((), x01, x02, i64.wrap (x03 + 1), ()),
 (n, n_1, n_2, xs_1, (), b, ()), (), xs, ()))
 none)
 none)
 (some
 (LO.out 0
 (((), x01, x02, x03, ()), (x10, x11, x12, x13, (), x15, ()), (), x3,
 ())))
theorem gl_s_l10Node_0 (x01 : Int) (x02 : List CVal) (x03 : Int) (x10 : Int) (x11 : Int) (x12 : Int) (x13 : List CVal) (x15 : Bool) (x3 : List CVal) (R : LO k_s_l10Node_0.T) (h : nl_s_l10Node_0 CC LL x01 x02 x03 x10 x11 x12 x13 x15 x3 = some R) : LL f_s_l10Node 0 lc_s_l10Node_0 [PSh.box [none, none, none, none, some 1, none], PSh.arr (Md.mk true false 0) true 1] k_s_l10Node_0 (((), x01, x02, x03, ()), (x10, x11, x12, x13, (), x15, ()), (), x3, ()) = some R := loopW (Eq.trans (b := nl_s_l10Node_0 CC LL x01 x02 x03 x10 x11 x12 x13 x15 x3) (by kernel_rfl) h)
noncomputable def nl_s_l10From_0 (C : CallT) (L : LoopT) (x01 : Int) (x02 : Int) (x03 : Int) (x04 : Int) (x10 : Int) (x11 : Int) (x12 : Int) (x13 : List CVal) (x15 : Bool) (x3 : List CVal) : Option (LO k_s_l10From_0.T) :=
 br (decide (x04 < x12))
 ((br (decide (0 ≤ x02) && true)
 (br (decide (x02.toNat < x3.length) && true)
 (x3[x02.toNat]?.bind fun y =>
 (y.cell 0).bind fun c =>
 c.asSl.bind fun xs =>
 br (decide (0 ≤ x04) && true)
 ((x3[x02.toNat]?.bind fun y => (y.cell 0).bind fun c => c.asSl).bind fun y =>
 br (decide (x04.toNat < y.length))
 ((x3[x02.toNat]?.bind fun y => (y.cell 0).bind fun c => c.asSl).bind fun y =>
 y[x04.toNat]?.bind fun y =>
 y.asBool.bind fun b =>
 br b (some (!decide (x04 = x03), ())) (some (false, ())))
 none)
 none)
 none)
 none).bind
 fun y =>
 br y.1
 ((C f_s_l10Set
 [AVal.lptr 0 0, AVal.v (CVal.int i64 x01), AVal.v (CVal.int i64 x04)]
 [PB.box
 [AVal.v (CVal.int i64 x10), AVal.v (CVal.int i64 x11),
 AVal.v (CVal.int i64 x12), AVal.v (CVal.sl x13), AVal.lref 1 0,
 AVal.v (CVal.bool x15)],
 PB.arr (Md.mk true false 0) true 1 x3]).bind
 fun r =>
 r.2[0]?.bind fun y =>
 r.2[1]?.bind fun y_1 =>
 y[0]?.bind fun y_2 =>
 y[1]?.bind fun y_3 =>
 y[2]?.bind fun y_4 =>
 y[3]?.bind fun y_5 =>
 y[4]?.bind fun y_6 =>
 y[5]?.bind fun y =>
 y_6.asSl.bind fun xs =>
 (CVal.asInt i64 y_2).bind fun n =>
 (CVal.asInt i64 y_3).bind fun n_1 =>
 (CVal.asInt i64 y_4).bind fun n_2 =>
 y_5.asSl.bind fun xs_1 =>
 y.asBool.bind fun b =>
 L f_s_l10From 0 lc_s_l10From_0
 [PSh.box [none, none, none, none, some 1, none],
 PSh.arr (Md.mk true false 0) true 1]
 k_s_l10From_0
 (((), x01, x02, x03, i64.wrap (x04 + 1), ()),
 (n, n_1, n_2, xs_1, (), b, ()), (), xs, ()))
 (L f_s_l10From 0 lc_s_l10From_0
 [PSh.box [none, none, none, none, some 1, none], PSh.arr (Md.mk true false 0) true 1]
 k_s_l10From_0
 (((), x01, x02, x03, i64.wrap (x04 + 1), ()),
 (x10, x11, x12, x13, (), x15, ()), (), x3, ())))
 (some
 (LO.out 0
 (((), x01, x02, x03, x04, ()), (x10, x11, x12, x13, (), x15, ()), (), x3,
 ())))
theorem gl_s_l10From_0 (x01 : Int) (x02 : Int) (x03 : Int) (x04 : Int) (x10 : Int) (x11 : Int) (x12 : Int) (x13 : List CVal) (x15 : Bool) (x3 : List CVal) (R : LO k_s_l10From_0.T) (h : nl_s_l10From_0 CC LL x01 x02 x03 x04 x10 x11 x12 x13 x15 x3 = some R) : LL f_s_l10From 0 lc_s_l10From_0 [PSh.box [none, none, none, none, some 1, none], PSh.arr (Md.mk true false 0) true 1] k_s_l10From_0 (((), x01, x02, x03, x04, ()), (x10, x11, x12, x13, (), x15, ()), (), x3, ()) = some R := loopW (Eq.trans (b := nl_s_l10From_0 CC LL x01 x02 x03 x04 x10 x11 x12 x13 x15 x3) (by kernel_rfl) h)
noncomputable def nl_s_l10Add_0 (C : CallT) (L : LoopT) (x00 : List CVal) (x01 : Int) (x03 : Bool) (x04 : Int) (x1 : List CVal) : Option (LO k_s_l10Add_0.T) :=
 br (decide (x04 < (↑x00.length : Int)))
 ((br (!x03)
 (br (decide (0 ≤ x04) && true)
 (x00[x04.toNat]?.bind fun y =>
 br (CVal.fits false 1 y)
 ((y.cell 0).bind fun c =>
 (CVal.asInt i64 c).bind fun n => some (decide (x01 ≤ n), ()))
 none)
 none)
 (some (false, ()))).bind
 fun y =>
 br y.1
 (br (decide (x1.length + 1 ≤ 4294967296) && true && true)
 (br (decide (0 ≤ x04) && true)
 (x00[x04.toNat]?.bind fun y =>
 br (CVal.fits false 1 y)
 ((y.cell 0).bind fun c =>
 (CVal.asInt i64 c).bind fun n =>
 br (!decide (n = x01))
 (br (decide (0 ≤ x04) && true)
 (x00[x04.toNat]?.bind fun y =>
 br (CVal.fits false 1 y)
 ((y.cell 0).bind fun c =>
 br (c.isFlat && true)
 ((CVal.asInt i64 c).bind fun n =>
 br
 (decide
 ((x1 ++ [CVal.int i64 x01]).length + 1 ≤ 4294967296) &&
 true &&
 true)
 (L f_s_l10Add 0 lc_s_l10Add_0 [] k_s_l10Add_0
 ((x00, x01, (), true, i64.wrap (x04 + 1), ()),
 x1 ++ [CVal.int i64 x01] ++ [CVal.int i64 n], ()))
 none)
 none)
 none)
 none)
 (L f_s_l10Add 0 lc_s_l10Add_0 [] k_s_l10Add_0
 ((x00, x01, (), true, i64.wrap (x04 + 1), ()),
 x1 ++ [CVal.int i64 x01], ())))
 none)
 none)
 none)
 (br (decide (0 ≤ x04) && true)
 (x00[x04.toNat]?.bind fun y =>
 br (CVal.fits false 1 y)
 ((y.cell 0).bind fun c =>
 (CVal.asInt i64 c).bind fun n =>
 br (!decide (n = x01))
 (br (decide (0 ≤ x04) && true)
 (x00[x04.toNat]?.bind fun y =>
 br (CVal.fits false 1 y)
 ((y.cell 0).bind fun c =>
 br (c.isFlat && true)
 ((CVal.asInt i64 c).bind fun n =>
 br (decide (x1.length + 1 ≤ 4294967296) && true && true)
 (L f_s_l10Add 0 lc_s_l10Add_0 [] k_s_l10Add_0
 ((x00, x01, (), x03, i64.wrap (x04 + 1), ()),
 x1 ++ [CVal.int i64 n], ()))
 none)
 none)
 none)
 none)
 (L f_s_l10Add 0 lc_s_l10Add_0 [] k_s_l10Add_0
 ((x00, x01, (), x03, i64.wrap (x04 + 1), ()), x1, ())))
 none)
 none))
 (some (LO.out 0 ((x00, x01, (), x03, x04, ()), x1, ())))
theorem gl_s_l10Add_0 (x00 : List CVal) (x01 : Int) (x03 : Bool) (x04 : Int) (x1 : List CVal) (R : LO k_s_l10Add_0.T) (h : nl_s_l10Add_0 CC LL x00 x01 x03 x04 x1 = some R) : LL f_s_l10Add 0 lc_s_l10Add_0 [] k_s_l10Add_0 ((x00, x01, (), x03, x04, ()), x1, ()) = some R := loopW (Eq.trans (b := nl_s_l10Add_0 CC LL x00 x01 x03 x04 x1) (by kernel_rfl) h)
end Go.Proofs.Ytmjjaoffeajcbaa.Abs
