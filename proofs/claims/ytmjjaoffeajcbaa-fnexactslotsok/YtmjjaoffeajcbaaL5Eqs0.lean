/- What the functions come to in the abstract machine. -/
import Derived.Test.YtmjjaoffeajcbaaL5Ann
import Derived.KernelRfl
set_option linter.unusedVariables false
set_option maxRecDepth 100000
namespace Go.Proofs.Ytmjjaoffeajcbaa.Abs
open Go Go.Proofs Go.IntKind
noncomputable def nf_l_FnExactSlotsOk (C : CallT) (L : LoopT) (a0 : Int) (a1 : Int) (a2 : Int) (a3 : List CVal) (b : List CVal) : Option Ret :=
 br (decide (1048576 < (↑b.length : Int))) (some (CVal.bool true, []))
 ((C f_l_szPiece
 [AVal.v (CVal.agg [CVal.int i64 a0, CVal.int i64 a1, CVal.int i64 a2, CVal.sl a3]),
 AVal.v (CVal.int i64 1048576)]
 []).bind
 fun r =>
 (CVal.asInt i64 r.1).bind fun n =>
 br (decide (n < 0)) (some (CVal.bool true, []))
 ((C f_l_toPiece
 [AVal.v
 (CVal.agg [CVal.int i64 a0, CVal.int i64 a1, CVal.int i64 a2, CVal.sl a3])]
 []).bind
 fun r =>
 (C f_l_toIntS [AVal.v (CVal.sl b)] []).bind fun r_1 =>
 br r_1.1.isFlat
 (r_1.1.asSl.bind fun xs =>
 (C f_s_SlotsOk [AVal.v r.1, AVal.v (CVal.sl xs)] []).bind fun r =>
 br (!scalar r.1) none
 ((C f_l_toPiece
 [AVal.v
 (CVal.agg
 [CVal.int i64 a0, CVal.int i64 a1, CVal.int i64 a2,
 CVal.sl a3])]
 []).bind
 fun r_2 =>
 br (CVal.isAggN 4 r_2.1)
 ((r_2.1.cell 0).bind fun c =>
 (r_2.1.cell 1).bind fun c_1 =>
 (r_2.1.cell 2).bind fun c_2 =>
 (r_2.1.cell 3).bind fun c_3 =>
 c_3.asSl.bind fun xs =>
 (C f_l_toIntS [AVal.v (CVal.sl b)] []).bind fun r_3 =>
 br r_3.1.isFlat
 (r_3.1.asSl.bind fun xs_1 =>
 (C f_i_SlotsOk
 [AVal.v (CVal.agg [c, c_1, c_2, CVal.sl xs]), AVal.v (CVal.sl xs_1)]
 []).bind
 fun r_4 =>
 br (!scalar r_4.1) none
 (r_4.1.asBool.bind fun b_1 =>
 r.1.asBool.bind fun b_2 =>
 br (!b_1 == b_2) (some (CVal.bool false, []))
 ((C f_l_toPiece
 [AVal.v
 (CVal.agg
 [CVal.int i64 a0, CVal.int i64 a1,
 CVal.int i64 a2, CVal.sl a3])]
 []).bind
 fun r =>
 (C f_l_eqPiece
 [AVal.v (CVal.agg [c, c_1, c_2, CVal.sl xs]), AVal.v r.1]
 []).bind
 fun r =>
 br (!scalar r.1) none
 (r.1.asBool.bind fun b_3 =>
 br (!b_3) (some (CVal.bool false, []))
 ((C f_l_toIntS [AVal.v (CVal.sl b)] []).bind fun r =>
 br r.1.isFlat
 (r.1.asSl.bind fun xs =>
 (C f_l_eqIntS
 [AVal.v (CVal.sl xs_1), AVal.v (CVal.sl xs)]
 []).bind
 fun r =>
 br (!scalar r.1) none
 (r.1.asBool.bind fun b =>
 br (!b) (some (CVal.bool false, []))
 (some (CVal.bool true, []))))
 none)))))
 none)
 none))
 none))
theorem go_l_FnExactSlotsOk (a0 : Int) (a1 : Int) (a2 : Int) (a3 : List CVal) (b : List CVal) (R : Ret) (h : nf_l_FnExactSlotsOk CC LL a0 a1 a2 a3 b = some R) : CC f_l_FnExactSlotsOk [AVal.v (CVal.agg [CVal.int i64 a0, CVal.int i64 a1, CVal.int i64 a2, CVal.sl a3]),
 AVal.v (CVal.sl b)] [] = some R := fnW (by decide) rfl (Eq.trans (b := nf_l_FnExactSlotsOk CC LL a0 a1 a2 a3 b) (by kernel_rfl) h)
noncomputable def nf_s_SlotsOk (C : CallT) (L : LoopT) (a0 : Int) (a1 : Int) (a2 : Int) (a3 : List CVal) (b : List CVal) : Option Ret :=
 ((C f_s_l9Piece
 [AVal.v (CVal.agg [CVal.int i64 a0, CVal.int i64 a1, CVal.int i64 a2, CVal.sl a3])]
 []).bind
 fun r =>
 r.1.asBool.bind fun b_1 =>
 br (!b_1) (some (true, ())) (some (!decide ((↑b.length : Int) = a2), ()))).bind
 fun y =>
 br y.1 (some (CVal.bool false, []))
 ((C f_s_l11Table
 [AVal.v (CVal.agg [CVal.int i64 a0, CVal.int i64 a1, CVal.int i64 a2, CVal.sl a3])]
 []).bind
 fun r =>
 r.1.asSl.bind fun xs =>
 (L f_s_SlotsOk 0 lc_s_SlotsOk_0 [] k_s_SlotsOk_0
 ((b, (), xs, 0, ()), (a0, a1, a2, a3, ()), ())).bind
 fun r => loK r (fun r => some r) fun j p => br (j == 0) (some (CVal.bool true, [])) none)
theorem go_s_SlotsOk (a0 : Int) (a1 : Int) (a2 : Int) (a3 : List CVal) (b : List CVal) (R : Ret) (h : nf_s_SlotsOk CC LL a0 a1 a2 a3 b = some R) : CC f_s_SlotsOk [AVal.v (CVal.agg [CVal.int i64 a0, CVal.int i64 a1, CVal.int i64 a2, CVal.sl a3]),
 AVal.v (CVal.sl b)] [] = some R := fnW (by decide) rfl (Eq.trans (b := nf_s_SlotsOk CC LL a0 a1 a2 a3 b) (by kernel_rfl) h)
noncomputable def nf_l_szInsS (C : CallT) (L : LoopT) (a : List CVal) (b : Int) : Option Ret :=
 br (decide (i64.wrap (b - (↑a.length : Int)) < 0)) (some (CVal.int i64 (-1 : Int), []))
 ((L f_l_szInsS 0 lc_l_szInsS_0 [] k_l_szInsS_0
 ((a, i64.wrap (b - (↑a.length : Int)), 0, ()), ())).bind
 fun r => loK r (fun r => some r) fun j p => br (j == 0) (some (CVal.int i64 p.fst.snd.1, [])) none)
theorem go_l_szInsS (a : List CVal) (b : Int) (R : Ret) (h : nf_l_szInsS CC LL a b = some R) : CC f_l_szInsS [AVal.v (CVal.sl a), AVal.v (CVal.int i64 b)] [] = some R := fnW (by decide) rfl (Eq.trans (b := nf_l_szInsS CC LL a b) (by kernel_rfl) h)
noncomputable def nf_i_pieceOk (C : CallT) (L : LoopT) (a0 : Int) (a1 : Int) (a2 : Int) (a3 : List CVal) : Option Ret :=
 ((C f_i_in
 [AVal.v (CVal.int i64 (↑a3.length : Int)), AVal.v (CVal.int i64 1),
 AVal.v (CVal.int i64 600)]
 []).bind
 fun r =>
 r.1.asBool.bind fun b =>
 br (!b) (some (true, ()))
 ((C f_i_lamOk
 [AVal.v
 (CVal.agg [CVal.int i64 a0, CVal.int i64 a1, CVal.int i64 a2, CVal.sl a3])]
 []).bind
 fun r =>
 r.1.asBool.bind fun b =>
 br (!b) (some (true, ()))
 ((C f_i_in
 [AVal.v (CVal.int i64 a2), AVal.v (CVal.int i64 a1),
 AVal.v (CVal.int i64 400)]
 []).bind
 fun r =>
 r.1.asBool.bind fun b =>
 br (!b) (some (true, ()))
 ((C f_slices_ContainsFunc_Ins
 [AVal.v (CVal.sl a3),
 AVal.v
 (CVal.func f_i_pieceOk_1
 [(CVal.agg
 [CVal.int i64 a0, CVal.int i64 a1, CVal.int i64 a2,
 CVal.sl a3]).fp
 0])]
 []).bind
 fun r =>
 (bif false then CVal.bool true else r.1).asBool.bind fun b => some (b, ()))))).bind
 fun y =>
 br y.1 (some (CVal.bool false, []))
 ((br (decide (0 ≤ i64.wrap ((↑a3.length : Int) - 1)) && true)
 (a3[(i64.wrap ((↑a3.length : Int) - 1)).toNat]?.bind fun y =>
 br (CVal.fits true 7 y)
 ((y.cell 0).bind fun c =>
 (CVal.asInt i64 c).bind fun n =>
 br (decide (n = 15)) (some (true, ()))
 (br (decide (0 ≤ i64.wrap ((↑a3.length : Int) - 1)) && true)
 (a3[(i64.wrap ((↑a3.length : Int) - 1)).toNat]?.bind fun y =>
 br (CVal.fits true 7 y)
 ((y.cell 0).bind fun c =>
 (CVal.asInt i64 c).bind fun n => some (decide (n = 13), ()))
 none)
 none))
 none)
 none).bind
 fun y => some (CVal.bool y.1, []))
theorem go_i_pieceOk (a0 : Int) (a1 : Int) (a2 : Int) (a3 : List CVal) (R : Ret) (h : nf_i_pieceOk CC LL a0 a1 a2 a3 = some R) : CC f_i_pieceOk [AVal.v (CVal.agg [CVal.int i64 a0, CVal.int i64 a1, CVal.int i64 a2, CVal.sl a3])] [] = some R := fnW (by decide) rfl (Eq.trans (b := nf_i_pieceOk CC LL a0 a1 a2 a3) (by kernel_rfl) h)
noncomputable def nf_l_eqInsS (C : CallT) (L : LoopT) (a : List CVal) (b : List CVal) : Option Ret :=
 br (!decide ((↑a.length : Int) = (↑b.length : Int))) (some (CVal.bool false, []))
 ((L f_l_eqInsS 0 lc_l_eqInsS_0 [] k_l_eqInsS_0 ((a, b, 0, ()), ())).bind fun r =>
 loK r (fun r => some r) fun j p => br (j == 0) (some (CVal.bool true, [])) none)
theorem go_l_eqInsS (a : List CVal) (b : List CVal) (R : Ret) (h : nf_l_eqInsS CC LL a b = some R) : CC f_l_eqInsS [AVal.v (CVal.sl a), AVal.v (CVal.sl b)] [] = some R := fnW (by decide) rfl (Eq.trans (b := nf_l_eqInsS CC LL a b) (by kernel_rfl) h)
noncomputable def nf_s_l9Ins (C : CallT) (L : LoopT) (a0 : Int) (a1 : Int) (a2 : Int) (a3 : List CVal) (b0 : Int) (b1 : Int) (b2 : Int) (b3 : Int) (b4 : Int) (b5 : List CVal) (b6 : Int) : Option Ret :=
 (C f_s_l9Uses [AVal.v (CVal.int i64 b0)] []).bind fun r =>
 br (CVal.isAggN 4 r.1)
 ((r.1.cell 0).bind fun c =>
 (r.1.cell 1).bind fun c_1 =>
 (r.1.cell 2).bind fun c_2 =>
 (r.1.cell 3).bind fun c_3 =>
 ((C f_s_l1In
 [AVal.v (CVal.int i64 b0), AVal.v (CVal.int i64 1),
 AVal.v (CVal.int i64 18)]
 []).bind
 fun r =>
 r.1.asBool.bind fun b =>
 br (!b) (some (true, ()))
 ((C f_s_l9Reg [AVal.v c, AVal.v (CVal.int i64 b1), AVal.v (CVal.int i64 a2)]
 []).bind
 fun r =>
 r.1.asBool.bind fun b =>
 br (!b) (some (true, ()))
 ((C f_s_l9Reg
 [AVal.v c_1, AVal.v (CVal.int i64 b2), AVal.v (CVal.int i64 a2)]
 []).bind
 fun r =>
 r.1.asBool.bind fun b =>
 br (!b) (some (true, ()))
 ((C f_s_l9Reg
 [AVal.v c_2, AVal.v (CVal.int i64 b3), AVal.v (CVal.int i64 a2)]
 []).bind
 fun r =>
 r.1.asBool.bind fun b =>
 br (!b) (some (true, ()))
 (c_3.asBool.bind fun b =>
 br b
 ((C f_s_l1In
 [AVal.v (CVal.int i64 b6),
 AVal.v (CVal.int i64 0),
 AVal.v
 (CVal.int i64
 (i64.wrap ((↑a3.length : Int) - 1)))]
 []).bind
 fun r =>
 r.1.asBool.bind fun b =>
 br (!b) (some (true, ()))
 (c_3.asBool.bind fun b =>
 br (!b) (some (!decide (b6 = 0), ()))
 (some (false, ()))))
 (c_3.asBool.bind fun b =>
 br (!b) (some (!decide (b6 = 0), ()))
 (some (false, ())))))))).bind
 fun y =>
 br y.1 (some (CVal.bool false, []))
 ((br (!decide (b0 = 8))
 (br (!decide (b0 = 14)) (some (decide (0 < (↑b5.length : Int)), ()))
 (some (false, ())))
 (some (false, ()))).bind
 fun y =>
 br y.1 (some (CVal.bool false, []))
 (br (decide (b0 = 1))
 ((C f_s_l1In
 [AVal.v (CVal.int i64 b4), AVal.v (CVal.int i64 (-1000000 : Int)),
 AVal.v (CVal.int i64 1000000)]
 []).bind
 fun r => some (r.1, []))
 (br (decide (b0 = 2))
 ((C f_s_l1In
 [AVal.v (CVal.int i64 b4), AVal.v (CVal.int i64 0),
 AVal.v (CVal.int i64 1)]
 []).bind
 fun r => some (r.1, []))
 (br (decide (b0 = 5))
 ((C f_s_l1In
 [AVal.v (CVal.int i64 b4), AVal.v (CVal.int i64 1),
 AVal.v (CVal.int i64 5)]
 []).bind
 fun r => some (r.1, []))
 (br (decide (b0 = 8))
 ((L f_s_l9Ins 1 lc_s_l9Ins_1 [] k_s_l9Ins_1
 (((), (), 0, ()), (a0, a1, a2, a3, ()),
 (b0, b1, b2, b3, b4, b5, b6, ()), ())).bind
 fun r =>
 loK r (fun r => some r) fun j p =>
 br (j == 1)
 (((C f_s_l1In
 [AVal.v (CVal.int i64 p.snd.snd.fst.snd.snd.snd.snd.1),
 AVal.v (CVal.int i64 0),
 AVal.v (CVal.int i64 149)]
 []).bind
 fun r =>
 r.1.asBool.bind fun b =>
 br b
 (some
 (decide
 ((↑(List.length p.snd.snd.fst.snd.snd.snd.snd.snd.1) : Int) <
 100),
 ()))
 (some (false, ()))).bind
 fun y => some (CVal.bool y.1, []))
 (br (j == 0)
 (some (CVal.bool (decide (p.snd.snd.fst.snd.snd.snd.snd.1 = 0)), [])) none))
 (br (decide (b0 = 14))
 ((L f_s_l9Ins 3 lc_s_l9Ins_3 [] k_s_l9Ins_3
 (((), 1, ()), (b0, b1, b2, b3, b4, b5, b6, ()),
 ())).bind
 fun r =>
 loK r (fun r => some r) fun j p =>
 br (j == 3)
 ((br (decide (p.snd.fst.snd.snd.snd.snd.1 = 0))
 (some
 (decide
 ((↑(List.length p.snd.fst.snd.snd.snd.snd.snd.1) : Int) ≤ 200),
 ()))
 (some (false, ()))).bind
 fun y => some (CVal.bool y.1, []))
 (br (j == 0)
 (some (CVal.bool (decide (p.snd.fst.snd.snd.snd.snd.1 = 0)), [])) none))
 (some (CVal.bool (decide (b4 = 0)), [])))))))))
 none
theorem go_s_l9Ins (a0 : Int) (a1 : Int) (a2 : Int) (a3 : List CVal) (b0 : Int) (b1 : Int) (b2 : Int) (b3 : Int) (b4 : Int) (b5 : List CVal) (b6 : Int) (R : Ret) (h : nf_s_l9Ins CC LL a0 a1 a2 a3 b0 b1 b2 b3 b4 b5 b6 = some R) : CC f_s_l9Ins [AVal.v (CVal.agg [CVal.int i64 a0, CVal.int i64 a1, CVal.int i64 a2, CVal.sl a3]),
 AVal.v
 (CVal.agg
 [CVal.int i64 b0, CVal.int i64 b1, CVal.int i64 b2, CVal.int i64 b3,
 CVal.int i64 b4, CVal.sl b5, CVal.int i64 b6])] [] = some R := fnW (by decide) rfl (Eq.trans (b := nf_s_l9Ins CC LL a0 a1 a2 a3 b0 b1 b2 b3 b4 b5 b6) (by kernel_rfl) h)
noncomputable def nf_s_Writes (C : CallT) (L : LoopT) (a0 : Int) (a1 : Int) (a2 : Int) (a3 : Int) (a4 : Int) (a5 : List CVal) (a6 : Int) : Option Ret :=
 (br (decide (a0 = 17)) (some (true, ()))
 ((C f_s_l9Uses [AVal.v (CVal.int i64 a0)] []).bind fun r =>
 br r.1.isAgg ((r.1.cell 0).bind fun c => c.asBool.bind fun b => some (!b, ())) none)).bind
 fun y => br y.1 (some (CVal.int i64 (-1 : Int), [])) (some (CVal.int i64 a1, []))
theorem go_s_Writes (a0 : Int) (a1 : Int) (a2 : Int) (a3 : Int) (a4 : Int) (a5 : List CVal) (a6 : Int) (R : Ret) (h : nf_s_Writes CC LL a0 a1 a2 a3 a4 a5 a6 = some R) : CC f_s_Writes [AVal.v
 (CVal.agg
 [CVal.int i64 a0, CVal.int i64 a1, CVal.int i64 a2, CVal.int i64 a3,
 CVal.int i64 a4, CVal.sl a5, CVal.int i64 a6])] [] = some R := fnW (by decide) rfl (Eq.trans (b := nf_s_Writes CC LL a0 a1 a2 a3 a4 a5 a6) (by kernel_rfl) h)
noncomputable def nf_slices_ContainsFunc_Ins (C : CallT) (L : LoopT) (a : List CVal) (b : CVal) : Option Ret :=
 (C f_slices_IndexFunc_Ins [AVal.v (CVal.sl a), AVal.v b] []).bind fun r =>
 (CVal.asInt i64 r.1).bind fun n => some (CVal.bool (decide (0 ≤ n)), [])
theorem go_slices_ContainsFunc_Ins (a : List CVal) (b : CVal) (R : Ret) (h : nf_slices_ContainsFunc_Ins CC LL a b = some R) : CC f_slices_ContainsFunc_Ins [AVal.v (CVal.sl a), AVal.v b] [] = some R := fnW (by decide) rfl (Eq.trans (b := nf_slices_ContainsFunc_Ins CC LL a b) (by kernel_rfl) h)
noncomputable def nf_l_eqIns (C : CallT) (L : LoopT) (a0 : Int) (a1 : Int) (a2 : Int) (a3 : Int) (a4 : Int) (a5 : List CVal) (a6 : Int) (b0 : Int) (b1 : Int) (b2 : Int) (b3 : Int) (b4 : Int) (b5 : List CVal) (b6 : Int) : Option Ret :=
 br (!decide (a0 = b0)) (some (CVal.bool false, []))
 (br (!decide (a1 = b1)) (some (CVal.bool false, []))
 (br (!decide (a2 = b2)) (some (CVal.bool false, []))
 (br (!decide (a3 = b3)) (some (CVal.bool false, []))
 (br (!decide (a4 = b4)) (some (CVal.bool false, []))
 ((C f_l_eqIntS [AVal.v (CVal.sl a5), AVal.v (CVal.sl b5)] []).bind fun r =>
 r.1.asBool.bind fun b =>
 br (!b) (some (CVal.bool false, []))
 (br (!decide (a6 = b6)) (some (CVal.bool false, [])) (some (CVal.bool true, []))))))))
theorem go_l_eqIns (a0 : Int) (a1 : Int) (a2 : Int) (a3 : Int) (a4 : Int) (a5 : List CVal) (a6 : Int) (b0 : Int) (b1 : Int) (b2 : Int) (b3 : Int) (b4 : Int) (b5 : List CVal) (b6 : Int) (R : Ret) (h : nf_l_eqIns CC LL a0 a1 a2 a3 a4 a5 a6 b0 b1 b2 b3 b4 b5 b6 = some R) : CC f_l_eqIns [AVal.v
 (CVal.agg
 [CVal.int i64 a0, CVal.int i64 a1, CVal.int i64 a2, CVal.int i64 a3,
 CVal.int i64 a4, CVal.sl a5, CVal.int i64 a6]),
 AVal.v
 (CVal.agg
 [CVal.int i64 b0, CVal.int i64 b1, CVal.int i64 b2, CVal.int i64 b3,
 CVal.int i64 b4, CVal.sl b5, CVal.int i64 b6])] [] = some R := fnW (by decide) rfl (Eq.trans (b := nf_l_eqIns CC LL a0 a1 a2 a3 a4 a5 a6 b0 b1 b2 b3 b4 b5 b6) (by kernel_rfl) h)
noncomputable def nf_s_l10New (C : CallT) (L : LoopT) (a0 : Int) (a1 : Int) (a2 : Int) (a3 : List CVal) : Option Ret :=
 (L f_s_l10New 0 lc_s_l10New_0 [] k_s_l10New_0
 (((CVal.agg [CVal.int i64 a0, CVal.int i64 a1, CVal.int i64 a2, CVal.sl a3]).fp 0,
 (), 0, ()),
 (a0, a1, a2, a3, (), false, ()), [], ())).bind
 fun r =>
 loK r (fun r => some r) fun j p =>
 br (j == 0)
 (some
 ((CVal.agg
 [CVal.int i64 p.snd.fst.1, CVal.int i64 p.snd.fst.snd.1,
 CVal.int i64 p.snd.fst.snd.snd.1, CVal.sl p.snd.fst.snd.snd.snd.1, CVal.sl p.snd.snd.1,
 CVal.bool p.snd.fst.snd.snd.snd.snd.snd.1]).fp
 0,
 []))
 none
theorem go_s_l10New (a0 : Int) (a1 : Int) (a2 : Int) (a3 : List CVal) (R : Ret) (h : nf_s_l10New CC LL a0 a1 a2 a3 = some R) : CC f_s_l10New [AVal.v (CVal.agg [CVal.int i64 a0, CVal.int i64 a1, CVal.int i64 a2, CVal.sl a3])] [] = some R := fnW (by decide) rfl (Eq.trans (b := nf_s_l10New CC LL a0 a1 a2 a3) (by kernel_rfl) h)
noncomputable def nf_i_liveSets (C : CallT) (L : LoopT) (a0 : Int) (a1 : Int) (a2 : Int) (a3 : List CVal) : Option Ret :=
 (L f_i_liveSets 0 lc_i_liveSets_0 [] k_i_liveSets_0
 (((CVal.agg [CVal.int i64 a0, CVal.int i64 a1, CVal.int i64 a2, CVal.sl a3]).fp 0,
 (), (↑a3.length : Int), 0, ()),
 [], ())).bind
 fun r =>
 loK r (fun r => some r) fun j p =>
 br (j == 0)
 ((L f_i_liveSets 2 lc_i_liveSets_2 [] k_i_liveSets_2
 ((p.fst.1, (), true, ()), p.snd.1, ())).bind
 fun r => loK r (fun r => some r) fun j p => br (j == 2) (some (CVal.sl p.snd.1, [])) none)
 none
theorem go_i_liveSets (a0 : Int) (a1 : Int) (a2 : Int) (a3 : List CVal) (R : Ret) (h : nf_i_liveSets CC LL a0 a1 a2 a3 = some R) : CC f_i_liveSets [AVal.v (CVal.agg [CVal.int i64 a0, CVal.int i64 a1, CVal.int i64 a2, CVal.sl a3])] [] = some R := fnW (by decide) rfl (Eq.trans (b := nf_i_liveSets CC LL a0 a1 a2 a3) (by kernel_rfl) h)
noncomputable def nf_i_clashes_1 (C : CallT) (L : LoopT) (a : Int) (b : Int) (c : List CVal) : Option Ret :=
 br (!decide (a = b))
 (br (decide (0 ≤ a) && true)
 (br (decide (a.toNat < c.length) && true)
 (c[a.toNat]?.bind fun y =>
 (y.cell 0).bind fun c_1 =>
 c_1.asSl.bind fun xs =>
 br (decide (0 ≤ b) && true)
 (br (decide (b.toNat < c.length) && true)
 (c[b.toNat]?.bind fun y =>
 (y.cell 0).bind fun c_2 =>
 c_2.asSl.bind fun xs =>
 br (decide (0 ≤ b) && true)
 ((c[a.toNat]?.bind fun y => (y.cell 0).bind fun c => c.asSl).bind fun y =>
 br (decide (b.toNat < y.length))
 (c[a.toNat]?.bind fun y =>
 (y.cell 0).bind fun c_3 =>
 c_3.asSl.bind fun xs =>
 xs[b.toNat]?.bind fun y_1 =>
 br (CVal.fitsF false [CK.bool] y_1)
 (br (decide (0 ≤ a) && true)
 (((c.set a.toNat
 (y.putCell 0
 (CVal.sl (xs.set b.toNat (CVal.bool true)))))[b.toNat]?.bind
 fun y => (y.cell 0).bind fun c => c.asSl).bind
 fun y_2 =>
 br (decide (a.toNat < y_2.length))
 ((c.set a.toNat
 (y.putCell 0
 (CVal.sl (xs.set b.toNat (CVal.bool true)))))[b.toNat]?.bind
 fun y_3 =>
 (y_3.cell 0).bind fun c_4 =>
 c_4.asSl.bind fun xs_1 =>
 xs_1[a.toNat]?.bind fun y_4 =>
 br (CVal.fitsF false [CK.bool] y_4)
 (some
 (CVal.tup [],
 [[CVal.sl
 ((c.set a.toNat
 (y.putCell 0
 (CVal.sl
 (xs.set b.toNat (CVal.bool true))))).set
 b.toNat
 (y_3.putCell 0
 (CVal.sl (xs_1.set a.toNat (CVal.bool true)))))],
 []]))
 none)
 none)
 none)
 none)
 none)
 none)
 none)
 none)
 none)
 none)
 (some (CVal.tup [], [[CVal.sl c], []]))
theorem go_i_clashes_1 (a : Int) (b : Int) (c : List CVal) (R : Ret) (h : nf_i_clashes_1 CC LL a b c = some R) : CC f_i_clashes_1 [AVal.v (CVal.int i64 a), AVal.v (CVal.int i64 b), AVal.lptr 0 0] [PB.box [AVal.lref 1 0], PB.arr (Md.mk true false 0) true 1 c] = some R := fnW (by decide) rfl (Eq.trans (b := nf_i_clashes_1 CC LL a b c) (by kernel_rfl) h)
noncomputable def nf_s_l10Guard (C : CallT) (L : LoopT) (a0 : Int) (a1 : Int) (a2 : Int) (a3 : List CVal) (b : Int) : Option Ret :=
 (L f_s_l10Guard 0 lc_s_l10Guard_0 [] k_s_l10Guard_0
 ((b, (), (), 0, ()), (a0, a1, a2, a3, ()), [], ())).bind
 fun r =>
 loK r (fun r => some r) fun j p =>
 br (j == 0)
 ((br (decide ((↑(List.length p.snd.snd.1) : Int) = 0)) (some (true, ()))
 ((C f_s_l1In
 [AVal.v (CVal.int i64 p.fst.1), AVal.v (CVal.int i64 0),
 AVal.v
 (CVal.int i64
 (i64.wrap ((↑(List.length p.snd.fst.snd.snd.snd.1) : Int) - 1)))]
 []).bind
 fun r => r.1.asBool.bind fun b => some (!b, ()))).bind
 fun y =>
 br y.1 (some (CVal.int i64 (-1 : Int), []))
 (br (decide (0 ≤ i64.wrap ((↑(List.length p.snd.snd.1) : Int) - 1)) && true)
 (br
 (decide
 ((i64.wrap ((↑(List.length p.snd.snd.1) : Int) - 1)).toNat <
 List.length p.snd.snd.1) &&
 true)
 (p.snd.snd.1[(i64.wrap ((↑(List.length p.snd.snd.1) : Int) - 1)).toNat]?.bind fun y =>
 (y.cell 0).bind fun c =>
 (CVal.asInt i64 c).bind fun n => some (CVal.int i64 n, []))
 none)
 none))
 none
theorem go_s_l10Guard (a0 : Int) (a1 : Int) (a2 : Int) (a3 : List CVal) (b : Int) (R : Ret) (h : nf_s_l10Guard CC LL a0 a1 a2 a3 b = some R) : CC f_s_l10Guard [AVal.v (CVal.agg [CVal.int i64 a0, CVal.int i64 a1, CVal.int i64 a2, CVal.sl a3]),
 AVal.v (CVal.int i64 b)] [] = some R := fnW (by decide) rfl (Eq.trans (b := nf_s_l10Guard CC LL a0 a1 a2 a3 b) (by kernel_rfl) h)
noncomputable def nf_i_hasPart (C : CallT) (L : LoopT) (a : Int) (b : Int) : Option Ret :=
 (C f_i_insForm [AVal.v (CVal.int i64 a)] []).bind fun r =>
 r.1.asTup.bind fun y =>
 y[0]?.bind fun y =>
 r.1.asTup.bind fun y_1 =>
 y_1[1]?.bind fun y_2 =>
 y.asStr.bind fun s =>
 br (decide (s.length ≤ 4294967296))
 ((C f_slices_Contains_byte [AVal.v (CVal.sl (bytesC s)), AVal.v (CVal.int IntKind.u8 b)] []).bind fun r =>
 some (r.1, []))
 none
theorem go_i_hasPart (a : Int) (b : Int) (R : Ret) (h : nf_i_hasPart CC LL a b = some R) : CC f_i_hasPart [AVal.v (CVal.int i64 a), AVal.v (CVal.int IntKind.u8 b)] [] = some R := fnW (by decide) rfl (Eq.trans (b := nf_i_hasPart CC LL a b) (by kernel_rfl) h)
noncomputable def nf_i_wanted (C : CallT) (L : LoopT) (a0 : Int) (a1 : Int) (a2 : Int) (a3 : List CVal) (b : Int) (c : List CVal) : Option Ret :=
 br (decide (0 ≤ a2) && decide (a2 = a2) && decide (a2 ≤ 1048576))
 (br (decide (0 ≤ b) && true)
 (a3[b.toNat]?.bind fun y =>
 br (CVal.fits true 7 y)
 ((y.sub 0 7).bind fun y =>
 br (CVal.isAggN 7 y)
 ((y.cell 0).bind fun c_1 =>
 (y.cell 1).bind fun c_2 =>
 (y.cell 2).bind fun c_3 =>
 (y.cell 3).bind fun c_4 =>
 (y.cell 4).bind fun c_5 =>
 (y.cell 5).bind fun c_6 =>
 (y.cell 6).bind fun c_7 =>
 (C f_i_ways
 [AVal.v
 (CVal.agg
 [CVal.int i64 a0, CVal.int i64 a1, CVal.int i64 a2,
 CVal.sl a3]),
 AVal.v (CVal.int i64 b)]
 []).bind
 fun r =>
 r.1.asSl.bind fun xs =>
 r.1.asSl.bind fun xs_1 =>
 (CVal.asInt i64 c_1).bind fun n =>
 (CVal.asInt i64 c_2).bind fun n_1 =>
 (CVal.asInt i64 c_3).bind fun n_2 =>
 (CVal.asInt i64 c_4).bind fun n_3 =>
 (CVal.asInt i64 c_5).bind fun n_4 =>
 c_6.asSl.bind fun xs_2 =>
 (CVal.asInt i64 c_7).bind fun n_5 =>
 (L f_i_wanted 0 lc_i_wanted_0 [] k_i_wanted_0
 ((b, (), (), (),
 ((CVal.sl c).fp 0, ()), xs_1,
 (↑xs.length : Int), 0, ()),
 (a0, a1, a2, a3, ()), ((), ()),
 List.replicate a2.toNat (CVal.bool false),
 (n, n_1, n_2, n_3, n_4, xs_2, n_5, ()), ())).bind
 fun r =>
 loK r (fun r => some r) fun j p =>
 br (j == 0)
 ((C f_i_guardOf
 [AVal.v
 (CVal.agg
 [CVal.int i64 p.snd.fst.1,
 CVal.int i64 p.snd.fst.snd.1,
 CVal.int i64 p.snd.fst.snd.snd.1,
 CVal.sl p.snd.fst.snd.snd.snd.1]),
 AVal.v (CVal.int i64 p.fst.1)]
 []).bind
 fun r =>
 ((CVal.asInt i64 r.1).bind fun n =>
 br (decide (0 ≤ n))
 ((C f_i_raises
 [AVal.v
 (CVal.int i64 p.snd.snd.snd.snd.fst.1)]
 []).bind
 fun r =>
 (bif true then r.1 else CVal.bool false).asBool.bind
 fun b => some (b, ()))
 (some (false, ()))).bind
 fun y =>
 br y.1
 (r.1.asIdx.bind fun y =>
 br (decide (0 ≤ y) && true)
 (p.snd.fst.snd.snd.snd.1[y.toNat]?.bind fun y =>
 br (CVal.fits true 7 y)
 ((y.cell 6).bind fun c =>
 r.1.asIdx.bind fun y =>
 br (decide (0 ≤ y) && true)
 (p.snd.fst.snd.snd.snd.1[y.toNat]?.bind fun y =>
 br (CVal.fits true 7 y)
 ((y.cell 1).bind fun c_8 =>
 (C f_i_wanted_1
 [AVal.v c, AVal.v c_8,
 AVal.v
 p.fst.snd.snd.snd.snd.fst.1,
 AVal.lptr 0 0]
 [PB.box
 [AVal.lref 1 0],
 PB.arr
 (Md.mk true false 0)
 true 1
 p.snd.snd.snd.1]).bind
 fun r =>
 r.2[0]?.bind fun y =>
 r.2[1]?.bind fun y_1 =>
 y[0]?.bind fun y =>
 y.asSl.bind fun xs =>
 (C f_i_Reads
 [AVal.v
 (CVal.agg
 [CVal.int
 i64
 p.snd.snd.snd.snd.fst.1,
 CVal.int
 i64
 p.snd.snd.snd.snd.fst.snd.1,
 CVal.int
 i64
 p.snd.snd.snd.snd.fst.snd.snd.1,
 CVal.int
 i64
 p.snd.snd.snd.snd.fst.snd.snd.snd.1,
 CVal.int
 i64
 p.snd.snd.snd.snd.fst.snd.snd.snd.snd.1,
 CVal.sl
 p.snd.snd.snd.snd.fst.snd.snd.snd.snd.snd.1,
 CVal.int
 i64
 p.snd.snd.snd.snd.fst.snd.snd.snd.snd.snd.snd.1])]
 []).bind
 fun r =>
 r.1.asSl.bind fun xs_3 =>
 r.1.asSl.bind fun xs_4 =>
 (L f_i_wanted 2
 lc_i_wanted_2 []
 k_i_wanted_2
 (((), xs_4,
 (↑xs_3.length :
 Int),
 0,
 ()),
 ((),
 ()),
 xs,
 ())).bind
 fun r =>
 loK r (fun r => some r)
 fun j p =>
 br (j == 2)
 (some
 (CVal.sl
 p.snd.snd.1,
 []))
 none)
 none)
 none)
 none)
 none)
 ((C f_i_Reads
 [AVal.v
 (CVal.agg
 [CVal.int i64 p.snd.snd.snd.snd.fst.1,
 CVal.int i64
 p.snd.snd.snd.snd.fst.snd.1,
 CVal.int i64
 p.snd.snd.snd.snd.fst.snd.snd.1,
 CVal.int i64
 p.snd.snd.snd.snd.fst.snd.snd.snd.1,
 CVal.int i64
 p.snd.snd.snd.snd.fst.snd.snd.snd.snd.1,
 CVal.sl
 p.snd.snd.snd.snd.fst.snd.snd.snd.snd.snd.1,
 CVal.int i64
 p.snd.snd.snd.snd.fst.snd.snd.snd.snd.snd.snd.1])]
 []).bind
 fun r =>
 r.1.asSl.bind fun xs =>
 r.1.asSl.bind fun xs_3 =>
 (L f_i_wanted 2 lc_i_wanted_2 [] k_i_wanted_2
 (((), xs_3, (↑xs.length : Int), 0,
 ()),
 ((), ()), p.snd.snd.snd.1,
 ())).bind
 fun r =>
 loK r (fun r => some r) fun j p =>
 br (j == 2) (some (CVal.sl p.snd.snd.1, []))
 none))
 none)
 none)
 none)
 none)
 none
theorem go_i_wanted (a0 : Int) (a1 : Int) (a2 : Int) (a3 : List CVal) (b : Int) (c : List CVal) (R : Ret) (h : nf_i_wanted CC LL a0 a1 a2 a3 b c = some R) : CC f_i_wanted [AVal.v (CVal.agg [CVal.int i64 a0, CVal.int i64 a1, CVal.int i64 a2, CVal.sl a3]),
 AVal.v (CVal.int i64 b), AVal.v (CVal.sl c)] [] = some R := fnW (by decide) rfl (Eq.trans (b := nf_i_wanted CC LL a0 a1 a2 a3 b c) (by kernel_rfl) h)
noncomputable def nf_slices_Contains_byte (C : CallT) (L : LoopT) (a : List CVal) (b : Int) : Option Ret :=
 (C f_slices_Index_byte [AVal.v (CVal.sl a), AVal.v (CVal.int IntKind.u8 b)] []).bind fun r =>
 (CVal.asInt i64 r.1).bind fun n => some (CVal.bool (decide (0 ≤ n)), [])
theorem go_slices_Contains_byte (a : List CVal) (b : Int) (R : Ret) (h : nf_slices_Contains_byte CC LL a b = some R) : CC f_slices_Contains_byte [AVal.v (CVal.sl a), AVal.v (CVal.int IntKind.u8 b)] [] = some R := fnW (by decide) rfl (Eq.trans (b := nf_slices_Contains_byte CC LL a b) (by kernel_rfl) h)
noncomputable def nf_i_Reads (C : CallT) (L : LoopT) (a0 : Int) (a1 : Int) (a2 : Int) (a3 : Int) (a4 : Int) (a5 : List CVal) (a6 : Int) : Option Ret :=
 (C f_i_hasPart [AVal.v (CVal.int i64 a0), AVal.v (CVal.int IntKind.u8 88)] []).bind fun r =>
 r.1.asBool.bind fun b =>
 br b
 ((C f_i_hasPart [AVal.v (CVal.int i64 a0), AVal.v (CVal.int IntKind.u8 89)] []).bind fun r =>
 r.1.asBool.bind fun b =>
 br b
 (br (decide (a0 = 8))
 (br (a5.all (CVal.fitsF false [CK.int i64]))
 (br (decide (2 + a5.length ≤ 4294967296) && true && true)
 ((C f_slices_Sort_int [AVal.lref 0 0]
 [PB.arr (Md.mk true true 0) false 1
 (CVal.int i64 a2 :: CVal.int i64 a3 :: a5)]).bind
 fun r =>
 r.2[0]?.bind fun y =>
 (C f_slices_Compact_int [AVal.lref 0 0]
 [PB.arr (Md.mk true false 0) false 1 y]).bind
 fun r => r.2[0]?.bind fun y => some (CVal.sl y, []))
 none)
 none)
 ((C f_slices_Sort_int [AVal.lref 0 0]
 [PB.arr (Md.mk true true 0) false 1
 [CVal.int i64 a2, CVal.int i64 a3]]).bind
 fun r =>
 r.2[0]?.bind fun y =>
 (C f_slices_Compact_int [AVal.lref 0 0]
 [PB.arr (Md.mk true false 0) false 1 y]).bind
 fun r => r.2[0]?.bind fun y => some (CVal.sl y, [])))
 (br (decide (a0 = 8))
 (br (a5.all (CVal.fitsF false [CK.int i64]))
 (br (decide (1 + a5.length ≤ 4294967296) && true && true)
 ((C f_slices_Sort_int [AVal.lref 0 0]
 [PB.arr (Md.mk true true 0) false 1 (CVal.int i64 a2 :: a5)]).bind
 fun r =>
 r.2[0]?.bind fun y =>
 (C f_slices_Compact_int [AVal.lref 0 0]
 [PB.arr (Md.mk true false 0) false 1 y]).bind
 fun r => r.2[0]?.bind fun y => some (CVal.sl y, []))
 none)
 none)
 ((C f_slices_Sort_int [AVal.lref 0 0]
 [PB.arr (Md.mk true true 0) false 1 [CVal.int i64 a2]]).bind
 fun r =>
 r.2[0]?.bind fun y =>
 (C f_slices_Compact_int [AVal.lref 0 0]
 [PB.arr (Md.mk true false 0) false 1 y]).bind
 fun r => r.2[0]?.bind fun y => some (CVal.sl y, []))))
 ((C f_i_hasPart [AVal.v (CVal.int i64 a0), AVal.v (CVal.int IntKind.u8 89)] []).bind fun r =>
 r.1.asBool.bind fun b =>
 br b
 (br (decide (a0 = 8))
 (br (a5.all (CVal.fitsF false [CK.int i64]))
 (br (decide (1 + a5.length ≤ 4294967296) && true && true)
 ((C f_slices_Sort_int [AVal.lref 0 0]
 [PB.arr (Md.mk true true 0) false 1 (CVal.int i64 a3 :: a5)]).bind
 fun r =>
 r.2[0]?.bind fun y =>
 (C f_slices_Compact_int [AVal.lref 0 0]
 [PB.arr (Md.mk true false 0) false 1 y]).bind
 fun r => r.2[0]?.bind fun y => some (CVal.sl y, []))
 none)
 none)
 ((C f_slices_Sort_int [AVal.lref 0 0]
 [PB.arr (Md.mk true true 0) false 1 [CVal.int i64 a3]]).bind
 fun r =>
 r.2[0]?.bind fun y =>
 (C f_slices_Compact_int [AVal.lref 0 0]
 [PB.arr (Md.mk true false 0) false 1 y]).bind
 fun r => r.2[0]?.bind fun y => some (CVal.sl y, [])))
 (br (decide (a0 = 8))
 (br (a5.all (CVal.fitsF false [CK.int i64]))
 (br (decide (a5.length ≤ 4294967296))
 ((C f_slices_Sort_int [AVal.lref 0 0]
 [PB.arr (Md.mk true true 0) false 1 a5]).bind
 fun r =>
 r.2[0]?.bind fun y =>
 (C f_slices_Compact_int [AVal.lref 0 0]
 [PB.arr (Md.mk true false 0) false 1 y]).bind
 fun r => r.2[0]?.bind fun y => some (CVal.sl y, []))
 none)
 none)
 ((C f_slices_Sort_int [AVal.lref 0 0]
 [PB.arr (Md.mk true true 0) false 1 []]).bind
 fun r =>
 r.2[0]?.bind fun y =>
 (C f_slices_Compact_int [AVal.lref 0 0]
 [PB.arr (Md.mk true false 0) false 1 []]).bind
 fun r => r.2[0]?.bind fun y => some (CVal.sl y, []))))
theorem go_i_Reads (a0 : Int) (a1 : Int) (a2 : Int) (a3 : Int) (a4 : Int) (a5 : List CVal) (a6 : Int) (R : Ret) (h : nf_i_Reads CC LL a0 a1 a2 a3 a4 a5 a6 = some R) : CC f_i_Reads [AVal.v
 (CVal.agg
 [CVal.int i64 a0, CVal.int i64 a1, CVal.int i64 a2, CVal.int i64 a3,
 CVal.int i64 a4, CVal.sl a5, CVal.int i64 a6])] [] = some R := fnW (by decide) rfl (Eq.trans (b := nf_i_Reads CC LL a0 a1 a2 a3 a4 a5 a6) (by kernel_rfl) h)
noncomputable def nl_s_SlotsOk_2 (C : CallT) (L : LoopT) (x00 : List CVal) (x02 : List CVal) (x03 : Int) (x04 : Int) (x10 : Int) (x11 : Int) (x12 : Int) (x13 : List CVal) : Option (LO k_s_SlotsOk_2.T) :=
 br (decide (x04 < x03))
 ((br (decide (0 ≤ x03) && true)
 (x02[x03.toNat]?.bind fun y =>
 br (CVal.fits false 1 y)
 ((y.cell 0).bind fun c =>
 br (decide (0 ≤ x04) && true)
 (c.asSl.bind fun xs =>
 xs[x04.toNat]?.bind fun y =>
 br (CVal.fits false 1 y)
 ((y.cell 0).bind fun c =>
 c.asBool.bind fun b =>
 br b
 (br (decide (0 ≤ x03) && true)
 (x00[x03.toNat]?.bind fun y =>
 br (CVal.fits false 1 y)
 ((y.cell 0).bind fun c =>
 br (decide (0 ≤ x04) && true)
 (x00[x04.toNat]?.bind fun y =>
 br (CVal.fits false 1 y)
 ((y.cell 0).bind fun c_1 =>
 (CVal.asInt i64 c).bind fun n =>
 (CVal.asInt i64 c_1).bind fun n_1 =>
 some (decide (n = n_1), ()))
 none)
 none)
 none)
 none)
 (some (false, ())))
 none)
 none)
 none)
 none).bind
 fun y =>
 br y.1 (some (LO.ret (CVal.bool false, [])))
 (L f_s_SlotsOk 2 lc_s_SlotsOk_2 [] k_s_SlotsOk_2
 ((x00, (), x02, x03, i64.wrap (x04 + 1), ()), (x10, x11, x12, x13, ()),
 ())))
 (some (LO.out 2 ((x00, (), x02, x03, x04, ()), (x10, x11, x12, x13, ()), ())))
theorem gl_s_SlotsOk_2 (x00 : List CVal) (x02 : List CVal) (x03 : Int) (x04 : Int) (x10 : Int) (x11 : Int) (x12 : Int) (x13 : List CVal) (R : LO k_s_SlotsOk_2.T) (h : nl_s_SlotsOk_2 CC LL x00 x02 x03 x04 x10 x11 x12 x13 = some R) : LL f_s_SlotsOk 2 lc_s_SlotsOk_2 [] k_s_SlotsOk_2 ((x00, (), x02, x03, x04, ()), (x10, x11, x12, x13, ()), ()) = some R := loopW (Eq.trans (b := nl_s_SlotsOk_2 CC LL x00 x02 x03 x04 x10 x11 x12 x13) (by kernel_rfl) h)
noncomputable def nl_l_szInsS_0 (C : CallT) (L : LoopT) (x00 : List CVal) (x01 : Int) (x02 : Int) : Option (LO k_l_szInsS_0.T) :=
 br (decide (x02 < (↑x00.length : Int)))
 (br (decide (0 ≤ x02) && true)
 (x00[x02.toNat]?.bind fun y =>
 br (CVal.fits true 7 y)
 ((y.sub 0 7).bind fun y =>
 (C f_l_szIns [AVal.v y, AVal.v (CVal.int i64 x01)] []).bind fun r =>
 (CVal.asInt i64 r.1).bind fun n =>
 br (decide (n < 0)) (some (LO.ret (CVal.int i64 (-1 : Int), [])))
 ((CVal.asInt i64 r.1).bind fun n =>
 L f_l_szInsS 0 lc_l_szInsS_0 [] k_l_szInsS_0
 ((x00, n, i64.wrap (x02 + 1), ()), ())))
 none)
 none)
 (some (LO.out 0 ((x00, x01, x02, ()), ())))
theorem gl_l_szInsS_0 (x00 : List CVal) (x01 : Int) (x02 : Int) (R : LO k_l_szInsS_0.T) (h : nl_l_szInsS_0 CC LL x00 x01 x02 = some R) : LL f_l_szInsS 0 lc_l_szInsS_0 [] k_l_szInsS_0 ((x00, x01, x02, ()), ()) = some R := loopW (Eq.trans (b := nl_l_szInsS_0 CC LL x00 x01 x02) (by kernel_rfl) h)
noncomputable def nl_s_l11Table_8 (C : CallT) (L : LoopT) (x00 : CVal) (x01 : List CVal) (x03 : Int) (x04 : Int) (x06 : Int) (x1 : List CVal) (x2 : List CVal) : Option (LO k_s_l11Table_8.T) :=
 (br (decide (x06 < (↑x2.length : Int))) (some (decide (0 ≤ x04), ())) (some (false, ()))).bind
 fun y =>
 br y.1
 ((L f_s_l11Table 10 lc_s_l11Table_10 [] k_s_l11Table_10
 ((x00, x01, (), x03, x04, (), x06, 0, ()), x1, x2, ())).bind
 fun r =>
 loK r (fun r => some (LO.ret r)) fun j p =>
 br (j == 10)
 (L f_s_l11Table 8 lc_s_l11Table_8 [] k_s_l11Table_8
 ((p.fst.1, p.fst.snd.1, (), p.fst.snd.snd.snd.1, p.fst.snd.snd.snd.snd.1, (),
 i64.wrap (p.fst.snd.snd.snd.snd.snd.snd.1 + 1), ()),
 p.snd.1, p.snd.snd.1, ()))
 (br (j == 9)
 (L f_s_l11Table 8 lc_s_l11Table_8 [] k_s_l11Table_8
 ((p.fst.1, p.fst.snd.1, (), p.fst.snd.snd.snd.1, p.fst.snd.snd.snd.snd.1, (),
 i64.wrap (p.fst.snd.snd.snd.snd.snd.snd.1 + 1), ()),
 p.snd.1, p.snd.snd.1, ()))
 (some
 (LO.out j
 ((p.fst.1, p.fst.snd.1, (), p.fst.snd.snd.snd.1, p.fst.snd.snd.snd.snd.1, (),
 p.fst.snd.snd.snd.snd.snd.snd.1, ()),
 p.snd.1, p.snd.snd.1, ())))))
 (some (LO.out 8 ((x00, x01, (), x03, x04, (), x06, ()), x1, x2, ())))
theorem gl_s_l11Table_8 (x00 : CVal) (x01 : List CVal) (x03 : Int) (x04 : Int) (x06 : Int) (x1 : List CVal) (x2 : List CVal) (R : LO k_s_l11Table_8.T) (h : nl_s_l11Table_8 CC LL x00 x01 x03 x04 x06 x1 x2 = some R) : LL f_s_l11Table 8 lc_s_l11Table_8 [] k_s_l11Table_8 ((x00, x01, (), x03, x04, (), x06, ()), x1, x2, ()) = some R := loopW (Eq.trans (b := nl_s_l11Table_8 CC LL x00 x01 x03 x04 x06 x1 x2) (by kernel_rfl) h)
noncomputable def nl_s_l11Table_0 (C : CallT) (L : LoopT) (x00 : CVal) (x01 : List CVal) (x03 : Int) (x1 : List CVal) : Option (LO k_s_l11Table_0.T) :=
 x00.asFp.bind fun y =>
 (y.1.cell (y.2 + 2)).bind fun c =>
 (CVal.asInt i64 c).bind fun n =>
 br (decide (x03 < n))
 (x00.asFp.bind fun y =>
 (y.1.cell (y.2 + 2)).bind fun c =>
 c.asIdx.bind fun y =>
 c.asIdx.bind fun y_1 =>
 br (decide (0 ≤ y) && decide (y = y_1) && decide (y ≤ 1048576))
 (br (decide (x1.length + 1 ≤ 4294967296) && true && true)
 (L f_s_l11Table 0 lc_s_l11Table_0 [] k_s_l11Table_0
 ((x00, x01, (), i64.wrap (x03 + 1), ()),
 x1 ++ [CVal.sl (List.replicate y.toNat (CVal.bool false))], ()))
 none)
 none)
 (some (LO.out 0 ((x00, x01, (), x03, ()), x1, ())))
theorem gl_s_l11Table_0 (x00 : CVal) (x01 : List CVal) (x03 : Int) (x1 : List CVal) (R : LO k_s_l11Table_0.T) (h : nl_s_l11Table_0 CC LL x00 x01 x03 x1 = some R) : LL f_s_l11Table 0 lc_s_l11Table_0 [] k_s_l11Table_0 ((x00, x01, (), x03, ()), x1, ()) = some R := loopW (Eq.trans (b := nl_s_l11Table_0 CC LL x00 x01 x03 x1) (by kernel_rfl) h)
noncomputable def nl_s_l9Ins_1 (C : CallT) (L : LoopT) (x02 : Int) (x10 : Int) (x11 : Int) (x12 : Int) (x13 : List CVal) (x20 : Int) (x21 : Int) (x22 : Int) (x23 : Int) (x24 : Int) (x25 : List CVal) (x26 : Int) : Option (LO k_s_l9Ins_1.T) :=
 br (decide (x02 < (↑x25.length : Int)))
 (br (decide (0 ≤ x02) && true)
 (x25[x02.toNat]?.bind fun y =>
 br (CVal.fits false 1 y)
 ((y.cell 0).bind fun c =>
 (C f_s_l1In
 [AVal.v c, AVal.v (CVal.int i64 0),
 AVal.v (CVal.int i64 (i64.wrap (x12 - 1)))]
 []).bind
 fun r =>
 r.1.asBool.bind fun b =>
 br (!b) (some (LO.ret (CVal.bool false, [])))
 (L f_s_l9Ins 1 lc_s_l9Ins_1 [] k_s_l9Ins_1
 (((), (), i64.wrap (x02 + 1), ()),
 (x10, x11, x12, x13, ()), (x20, x21, x22, x23, x24, x25, x26, ()), ())))
 none)
 none)
 (some
 (LO.out 1
 (((), (), x02, ()), (x10, x11, x12, x13, ()),
 (x20, x21, x22, x23, x24, x25, x26, ()), ())))
theorem gl_s_l9Ins_1 (x02 : Int) (x10 : Int) (x11 : Int) (x12 : Int) (x13 : List CVal) (x20 : Int) (x21 : Int) (x22 : Int) (x23 : Int) (x24 : Int) (x25 : List CVal) (x26 : Int) (R : LO k_s_l9Ins_1.T) (h : nl_s_l9Ins_1 CC LL x02 x10 x11 x12 x13 x20 x21 x22 x23 x24 x25 x26 = some R) : LL f_s_l9Ins 1 lc_s_l9Ins_1 [] k_s_l9Ins_1 (((), (), x02, ()), (x10, x11, x12, x13, ()), (x20, x21, x22, x23, x24, x25, x26, ()), ()) = some R := loopW (Eq.trans (b := nl_s_l9Ins_1 CC LL x02 x10 x11 x12 x13 x20 x21 x22 x23 x24 x25 x26) (by kernel_rfl) h)
noncomputable def nl_s_l11All_2 (C : CallT) (L : LoopT) (x01 : List CVal) (x02 : Int) (x03 : Int) (x1 : List CVal) : Option (LO k_s_l11All_2.T) :=
 (br (decide (x03 < x02))
 (br (decide (0 ≤ x02) && true)
 (x01[x02.toNat]?.bind fun y =>
 br (CVal.fits false 1 y)
 ((y.cell 0).bind fun c => c.asBool.bind fun b => some (b, ())) none)
 none)
 (some (false, ()))).bind
 fun y =>
 br y.1
 (br (decide (0 ≤ x03) && true)
 (x01[x03.toNat]?.bind fun y =>
 br (CVal.fits false 1 y)
 ((y.cell 0).bind fun c =>
 c.asBool.bind fun b =>
 br b
 ((C f_s_l11Pair
 [AVal.lref 0 0, AVal.v (CVal.int i64 x02),
 AVal.v (CVal.int i64 x03)]
 [PB.arr (Md.mk true true 0) false 1 x1]).bind
 fun r =>
 r.2[0]?.bind fun y =>
 L f_s_l11All 2 lc_s_l11All_2 [PSh.arr (Md.mk true true 0) false 1]
 k_s_l11All_2
 (((), x01, x02, i64.wrap (x03 + 1), ()), y, ()))
 (L f_s_l11All 2 lc_s_l11All_2 [PSh.arr (Md.mk true true 0) false 1] k_s_l11All_2
 (((), x01, x02, i64.wrap (x03 + 1), ()), x1, ())))
 none)
 none)
 (some (LO.out 2 (((), x01, x02, x03, ()), x1, ())))
theorem gl_s_l11All_2 (x01 : List CVal) (x02 : Int) (x03 : Int) (x1 : List CVal) (R : LO k_s_l11All_2.T) (h : nl_s_l11All_2 CC LL x01 x02 x03 x1 = some R) : LL f_s_l11All 2 lc_s_l11All_2 [PSh.arr (Md.mk true true 0) false 1] k_s_l11All_2 (((), x01, x02, x03, ()), x1, ()) = some R := loopW (Eq.trans (b := nl_s_l11All_2 CC LL x01 x02 x03 x1) (by kernel_rfl) h)
noncomputable def nl_i_clashes_10 (C : CallT) (L : LoopT) (x00 : CVal) (x03 : List CVal) (x05 : List CVal) (x06 : Int) (x07 : Int) (x08 : List CVal) (x09 : Int) (x010 : Int) (x2 : List CVal) (x30 : Int) (x31 : Int) (x32 : Int) (x33 : Int) (x34 : Int) (x35 : List CVal) (x36 : Int) : Option (LO k_i_clashes_10.T) :=
 br (decide (x010 < x09))
 (br (decide (0 ≤ x010) && true)
 (x08[x010.toNat]?.bind fun y =>
 br (CVal.fits false 1 y)
 ((y.cell 0).bind fun c =>
 (C f_i_clashes_1 [AVal.v (CVal.int i64 x31), AVal.v c, AVal.lptr 0 0]
 [PB.box [AVal.lref 1 0], PB.arr (Md.mk true false 0) true 1 x2]).bind
 fun r =>
 r.2[0]?.bind fun y =>
 r.2[1]?.bind fun y_1 =>
 y[0]?.bind fun y =>
 y.asSl.bind fun xs =>
 L f_i_clashes 10 lc_i_clashes_10 [] k_i_clashes_10
 ((x00, (), (), x03, (), x05, x06, x07, x08, x09,
 i64.wrap (x010 + 1), ()),
 ((), ()), xs, (x30, x31, x32, x33, x34, x35, x36, ()), ()))
 none)
 none)
 (some
 (LO.out 10
 ((x00, (), (), x03, (), x05, x06, x07, x08, x09, x010, ()),
 ((), ()), x2, (x30, x31, x32, x33, x34, x35, x36, ()), ())))
theorem gl_i_clashes_10 (x00 : CVal) (x03 : List CVal) (x05 : List CVal) (x06 : Int) (x07 : Int) (x08 : List CVal) (x09 : Int) (x010 : Int) (x2 : List CVal) (x30 : Int) (x31 : Int) (x32 : Int) (x33 : Int) (x34 : Int) (x35 : List CVal) (x36 : Int) (R : LO k_i_clashes_10.T) (h : nl_i_clashes_10 CC LL x00 x03 x05 x06 x07 x08 x09 x010 x2 x30 x31 x32 x33 x34 x35 x36 = some R) : LL f_i_clashes 10 lc_i_clashes_10 [] k_i_clashes_10 ((x00, (), (), x03, (), x05, x06, x07, x08, x09, x010, ()), ((), ()), x2, (x30, x31, x32, x33, x34, x35, x36, ()), ()) = some R := loopW (Eq.trans (b := nl_i_clashes_10 CC LL x00 x03 x05 x06 x07 x08 x09 x010 x2 x30 x31 x32 x33 x34 x35 x36) (by kernel_rfl) h)
noncomputable def nl_i_clashes_2 (C : CallT) (L : LoopT) (x00 : CVal) (x03 : List CVal) (x04 : List CVal) (x05 : Int) (x06 : Int) (x2 : List CVal) : Option (LO k_i_clashes_2.T) :=
 br (decide (x06 < x05))
 (br (decide (0 ≤ x06) && true)
 (x04[x06.toNat]?.bind fun y =>
 br (CVal.fits true 7 y)
 ((y.sub 0 7).bind fun y =>
 br (CVal.isAggN 7 y)
 ((y.cell 0).bind fun c =>
 (y.cell 1).bind fun c_1 =>
 (y.cell 2).bind fun c_2 =>
 (y.cell 3).bind fun c_3 =>
 (y.cell 4).bind fun c_4 =>
 (y.cell 5).bind fun c_5 =>
 (y.cell 6).bind fun c_6 =>
 br (decide (0 ≤ x06) && true)
 (x03[x06.toNat]?.bind fun y =>
 br (CVal.fits false 1 y)
 ((y.cell 0).bind fun c_7 =>
 (C f_i_things [AVal.v c_7] []).bind fun r =>
 r.1.asSl.bind fun xs =>
 r.1.asSl.bind fun xs_1 =>
 r.1.asSl.bind fun xs_2 =>
 (CVal.asInt i64 c).bind fun n =>
 (CVal.asInt i64 c_1).bind fun n_1 =>
 (CVal.asInt i64 c_2).bind fun n_2 =>
 (CVal.asInt i64 c_3).bind fun n_3 =>
 (CVal.asInt i64 c_4).bind fun n_4 =>
 c_5.asSl.bind fun xs_3 =>
 (CVal.asInt i64 c_6).bind fun n_5 =>
 (L f_i_clashes 4 lc_i_clashes_4 [] k_i_clashes_4
 ((x00, (), (), x03, x06, (), xs_1,
 x04, x05, x06, xs_2, (↑xs.length : Int), 0,
 ()),
 ((), ()), x2,
 (n, n_1, n_2, n_3, n_4, xs_3, n_5, ()),
 ())).bind
 fun r =>
 loK r (fun r => some (LO.ret r)) fun j p =>
 br (j == 4)
 ((C f_i_Writes
 [AVal.v
 (CVal.agg
 [CVal.int i64 p.snd.snd.snd.fst.1,
 CVal.int i64
 p.snd.snd.snd.fst.snd.1,
 CVal.int i64
 p.snd.snd.snd.fst.snd.snd.1,
 CVal.int i64
 p.snd.snd.snd.fst.snd.snd.snd.1,
 CVal.int i64
 p.snd.snd.snd.fst.snd.snd.snd.snd.1,
 CVal.sl
 p.snd.snd.snd.fst.snd.snd.snd.snd.snd.1,
 CVal.int i64
 p.snd.snd.snd.fst.snd.snd.snd.snd.snd.snd.1])]
 []).bind
 fun r =>
 (CVal.asInt i64 r.1).bind fun n =>
 br (decide (0 ≤ n))
 ((CVal.asFp p.fst.1).bind fun y =>
 (y.1.sub y.2 4).bind fun y =>
 (C f_i_behind
 [AVal.v y,
 AVal.v
 (CVal.int i64
 p.fst.snd.snd.snd.snd.1),
 AVal.v (CVal.sl p.fst.snd.snd.snd.1)]
 []).bind
 fun r_1 =>
 r_1.1.asSl.bind fun xs =>
 (CVal.asInt i64 r.1).bind fun n =>
 r_1.1.asSl.bind fun xs_4 =>
 (L f_i_clashes 8 lc_i_clashes_8
 [] k_i_clashes_8
 ((p.fst.1, (), (),
 p.fst.snd.snd.snd.1,
 (), n,
 p.fst.snd.snd.snd.snd.snd.snd.snd.1,
 p.fst.snd.snd.snd.snd.snd.snd.snd.snd.1,
 p.fst.snd.snd.snd.snd.snd.snd.snd.snd.snd.1,
 xs_4, (↑xs.length : Int),
 0, ()),
 ((), ()),
 p.snd.snd.1,
 (p.snd.snd.snd.fst.1,
 p.snd.snd.snd.fst.snd.1,
 p.snd.snd.snd.fst.snd.snd.1,
 p.snd.snd.snd.fst.snd.snd.snd.1,
 p.snd.snd.snd.fst.snd.snd.snd.snd.1,
 p.snd.snd.snd.fst.snd.snd.snd.snd.snd.1,
 p.snd.snd.snd.fst.snd.snd.snd.snd.snd.snd.1,
 ()),
 ())).bind
 fun r =>
 loK r (fun r => some (LO.ret r))
 fun j p =>
 br (j == 8)
 (br
 (decide
 (p.snd.snd.snd.fst.1 =
 17))
 (br
 (decide
 (0 ≤
 p.snd.snd.snd.fst.snd.snd.snd.snd.snd.snd.1) &&
 true)
 (p.fst.snd.snd.snd.1[Int.toNat
 p.snd.snd.snd.fst.snd.snd.snd.snd.snd.snd.1]?.bind
 fun y =>
 br
 (CVal.fits false 1
 y)
 ((y.cell 0).bind
 fun c =>
 (C f_i_things [AVal.v c]
 []).bind
 fun r =>
 r.1.asSl.bind
 fun xs =>
 r.1.asSl.bind
 fun xs_5 =>
 (L f_i_clashes
 10
 lc_i_clashes_10
 []
 k_i_clashes_10
 ((p.fst.1,
 (),
 (),
 p.fst.snd.snd.snd.1,
 (),
 p.fst.snd.snd.snd.snd.snd.snd.1,
 p.fst.snd.snd.snd.snd.snd.snd.snd.1,
 p.fst.snd.snd.snd.snd.snd.snd.snd.snd.1,
 xs_5,
 (↑xs.length :
 Int),
 (0 :
 Int),
 ()),
 ((),
 ()),
 p.snd.snd.1,
 (p.snd.snd.snd.fst.1,
 p.snd.snd.snd.fst.snd.1,
 p.snd.snd.snd.fst.snd.snd.1,
 p.snd.snd.snd.fst.snd.snd.snd.1,
 p.snd.snd.snd.fst.snd.snd.snd.snd.1,
 p.snd.snd.snd.fst.snd.snd.snd.snd.snd.1,
 p.snd.snd.snd.fst.snd.snd.snd.snd.snd.snd.1,
 ()),
 ())).bind
 fun r =>
 loK r
 (fun r =>
 some
 (LO.ret
 r))
 fun j p =>
 br
 (j ==
 (10 :
 Nat))
 (L
 f_i_clashes
 2
 lc_i_clashes_2
 []
 k_i_clashes_2
 ((p.fst.1,
 (),
 (),
 p.fst.snd.snd.snd.1,
 p.fst.snd.snd.snd.snd.snd.1,
 p.fst.snd.snd.snd.snd.snd.snd.1,
 i64.wrap
 (p.fst.snd.snd.snd.snd.snd.snd.snd.1 +
 (1 :
 Int)),
 ()),
 ((),
 ()),
 p.snd.snd.1,
 ()))
 (br
 (j ==
 (3 :
 Nat))
 (L
 f_i_clashes
 (2 :
 Nat)
 lc_i_clashes_2
 []
 k_i_clashes_2
 ((p.fst.1,
 (),
 (),
 p.fst.snd.snd.snd.1,
 p.fst.snd.snd.snd.snd.snd.1,
 p.fst.snd.snd.snd.snd.snd.snd.1,
 i64.wrap
 (p.fst.snd.snd.snd.snd.snd.snd.snd.1 +
 (1 :
 Int)),
 ()),
 ((),
 ()),
 p.snd.snd.1,
 ()))
 (some
 (LO.out
 j
 ((p.fst.1,
 (),
 (),
 p.fst.snd.snd.snd.1,
 p.fst.snd.snd.snd.snd.snd.1,
 p.fst.snd.snd.snd.snd.snd.snd.1,
 p.fst.snd.snd.snd.snd.snd.snd.snd.1,
 ()),
 ((),
 ()),
 p.snd.snd.1,
 ())))))
 none)
 none)
 (L f_i_clashes 2
 lc_i_clashes_2 []
 k_i_clashes_2
 ((p.fst.1, (),
 (),
 p.fst.snd.snd.snd.1,
 p.fst.snd.snd.snd.snd.snd.snd.1,
 p.fst.snd.snd.snd.snd.snd.snd.snd.1,
 i64.wrap
 (p.fst.snd.snd.snd.snd.snd.snd.snd.snd.1 +
 1),
 ()),
 ((), ()),
 p.snd.snd.1, ())))
 (br (j == 3)
 (L f_i_clashes 2
 lc_i_clashes_2 []
 k_i_clashes_2
 ((p.fst.1, (),
 (),
 p.fst.snd.snd.snd.1,
 p.fst.snd.snd.snd.snd.snd.snd.1,
 p.fst.snd.snd.snd.snd.snd.snd.snd.1,
 i64.wrap
 (p.fst.snd.snd.snd.snd.snd.snd.snd.snd.1 +
 1),
 ()),
 ((), ()),
 p.snd.snd.1, ()))
 (some
 (LO.out j
 ((p.fst.1, (),
 (),
 p.fst.snd.snd.snd.1,
 p.fst.snd.snd.snd.snd.snd.snd.1,
 p.fst.snd.snd.snd.snd.snd.snd.snd.1,
 p.fst.snd.snd.snd.snd.snd.snd.snd.snd.1,
 ()),
 ((), ()),
 p.snd.snd.1,
 ())))))
 (br (decide (p.snd.snd.snd.fst.1 = 17))
 (br
 (decide
 (0 ≤
 p.snd.snd.snd.fst.snd.snd.snd.snd.snd.snd.1) &&
 true)
 (p.fst.snd.snd.snd.1[Int.toNat
 p.snd.snd.snd.fst.snd.snd.snd.snd.snd.snd.1]?.bind
 fun y =>
 br (CVal.fits false 1 y)
 ((y.cell 0).bind fun c =>
 (C f_i_things [AVal.v c] []).bind fun r =>
 r.1.asSl.bind fun xs =>
 r.1.asSl.bind fun xs_4 =>
 (L f_i_clashes 10
 lc_i_clashes_10 []
 k_i_clashes_10
 ((p.fst.1, (),
 (),
 p.fst.snd.snd.snd.1,
 (),
 p.fst.snd.snd.snd.snd.snd.snd.snd.1,
 p.fst.snd.snd.snd.snd.snd.snd.snd.snd.1,
 p.fst.snd.snd.snd.snd.snd.snd.snd.snd.snd.1,
 xs_4, (↑xs.length : Int),
 0, ()),
 ((), ()),
 p.snd.snd.1,
 (p.snd.snd.snd.fst.1,
 p.snd.snd.snd.fst.snd.1,
 p.snd.snd.snd.fst.snd.snd.1,
 p.snd.snd.snd.fst.snd.snd.snd.1,
 p.snd.snd.snd.fst.snd.snd.snd.snd.1,
 p.snd.snd.snd.fst.snd.snd.snd.snd.snd.1,
 p.snd.snd.snd.fst.snd.snd.snd.snd.snd.snd.1,
 ()),
 ())).bind
 fun r =>
 loK r (fun r => some (LO.ret r))
 fun j p =>
 br (j == 10)
 (L f_i_clashes 2
 lc_i_clashes_2 []
 k_i_clashes_2
 ((p.fst.1, (),
 (),
 p.fst.snd.snd.snd.1,
 p.fst.snd.snd.snd.snd.snd.1,
 p.fst.snd.snd.snd.snd.snd.snd.1,
 i64.wrap
 (p.fst.snd.snd.snd.snd.snd.snd.snd.1 +
 1),
 ()),
 ((), ()),
 p.snd.snd.1, ()))
 (br (j == 3)
 (L f_i_clashes 2
 lc_i_clashes_2 []
 k_i_clashes_2
 ((p.fst.1, (),
 (),
 p.fst.snd.snd.snd.1,
 p.fst.snd.snd.snd.snd.snd.1,
 p.fst.snd.snd.snd.snd.snd.snd.1,
 i64.wrap
 (p.fst.snd.snd.snd.snd.snd.snd.snd.1 +
 1),
 ()),
 ((),
 ()),
 p.snd.snd.1,
 ()))
 (some
 (LO.out j
 ((p.fst.1, (),
 (),
 p.fst.snd.snd.snd.1,
 p.fst.snd.snd.snd.snd.snd.1,
 p.fst.snd.snd.snd.snd.snd.snd.1,
 p.fst.snd.snd.snd.snd.snd.snd.snd.1,
 ()),
 ((),
 ()),
 p.snd.snd.1,
 ())))))
 none)
 none)
 (L f_i_clashes 2 lc_i_clashes_2 []
 k_i_clashes_2
 ((p.fst.1, (), (),
 p.fst.snd.snd.snd.1,
 p.fst.snd.snd.snd.snd.snd.snd.snd.1,
 p.fst.snd.snd.snd.snd.snd.snd.snd.snd.1,
 i64.wrap
 (p.fst.snd.snd.snd.snd.snd.snd.snd.snd.snd.1 +
 1),
 ()),
 ((), ()), p.snd.snd.1,
 ()))))
 (br (j == 3)
 (L f_i_clashes 2 lc_i_clashes_2 [] k_i_clashes_2
 ((p.fst.1, (), (),
 p.fst.snd.snd.snd.1,
 p.fst.snd.snd.snd.snd.snd.snd.snd.1,
 p.fst.snd.snd.snd.snd.snd.snd.snd.snd.1,
 i64.wrap
 (p.fst.snd.snd.snd.snd.snd.snd.snd.snd.snd.1 +
 1),
 ()),
 ((), ()), p.snd.snd.1, ()))
 (some
 (LO.out j
 ((p.fst.1, (), (),
 p.fst.snd.snd.snd.1,
 p.fst.snd.snd.snd.snd.snd.snd.snd.1,
 p.fst.snd.snd.snd.snd.snd.snd.snd.snd.1,
 p.fst.snd.snd.snd.snd.snd.snd.snd.snd.snd.1,
 ()),
 ((), ()), p.snd.snd.1,
 ())))))
 none)
 none)
 none)
 none)
 none)
 (some
 (LO.out 2
 ((x00, (), (), x03, x04, x05, x06, ()), ((), ()), x2, ())))
theorem gl_i_clashes_2 (x00 : CVal) (x03 : List CVal) (x04 : List CVal) (x05 : Int) (x06 : Int) (x2 : List CVal) (R : LO k_i_clashes_2.T) (h : nl_i_clashes_2 CC LL x00 x03 x04 x05 x06 x2 = some R) : LL f_i_clashes 2 lc_i_clashes_2 [] k_i_clashes_2 ((x00, (), (), x03, x04, x05, x06, ()), ((), ()), x2, ()) = some R := loopW (Eq.trans (b := nl_i_clashes_2 CC LL x00 x03 x04 x05 x06 x2) (by kernel_rfl) h)
noncomputable def nl_s_l10Node_2 (C : CallT) (L : LoopT) (x01 : Int) (x02 : Int) (x03 : List CVal) (x04 : Int) (x10 : Int) (x11 : Int) (x12 : Int) (x13 : List CVal) (x15 : Bool) (x3 : List CVal) : Option (LO k_s_l10Node_2.T) :=
 br (decide (x04 < (↑x03.length : Int)))
 (br (decide (0 ≤ x04) && true)
 (x03[x04.toNat]?.bind fun y =>
 br (CVal.fits false 1 y)
 ((y.cell 0).bind fun c =>
 (C f_s_l10From
 [AVal.lptr 0 0, AVal.v (CVal.int i64 x01), AVal.v c,
 AVal.v (CVal.int i64 x02)]
 [PB.box
 [AVal.v (CVal.int i64 x10), AVal.v (CVal.int i64 x11),
 AVal.v (CVal.int i64 x12), AVal.v (CVal.sl x13), AVal.lref 1 0,
 AVal.v (CVal.bool x15)],
 PB.arr (Md.mk true false 0) true 1 x3]).bind
 fun r =>
 r.2[0]?.bind fun y =>
 r.2[1]?.bind fun y_1 =>
 y[0]?.bind fun y_2 =>
 y[1]?.bind fun y_3 =>
 y[2]?.bind fun y_4 =>
 y[3]?.bind fun y_5 =>
 y[4]?.bind fun y_6 =>
 y[5]?.bind fun y =>
 y_6.asSl.bind fun xs =>
 (CVal.asInt i64 y_2).bind fun n =>
 (CVal.asInt i64 y_3).bind fun n_1 =>
 (CVal.asInt i64 y_4).bind fun n_2 =>
 y_5.asSl.bind fun xs_1 =>
 y.asBool.bind fun b =>
 L f_s_l10Node 2 lc_s_l10Node_2
 [PSh.box [none, none, none, none, some 1, none],
 PSh.arr (Md.mk true false 0) true 1]
 k_s_l10Node_2
 (((), x01, x02, x03, i64.wrap (x04 + 1), ()),
 (n, n_1, n_2, xs_1, (), b, ()), (), xs, ()))
 none)
 none)
 (some
 (LO.out 2
 (((), x01, x02, x03, x04, ()), (x10, x11, x12, x13, (), x15, ()), (), x3,
 ())))
theorem gl_s_l10Node_2 (x01 : Int) (x02 : Int) (x03 : List CVal) (x04 : Int) (x10 : Int) (x11 : Int) (x12 : Int) (x13 : List CVal) (x15 : Bool) (x3 : List CVal) (R : LO k_s_l10Node_2.T) (h : nl_s_l10Node_2 CC LL x01 x02 x03 x04 x10 x11 x12 x13 x15 x3 = some R) : LL f_s_l10Node 2 lc_s_l10Node_2 [PSh.box [none, none, none, none, some 1, none], PSh.arr (Md.mk true false 0) true 1] k_s_l10Node_2 (((), x01, x02, x03, x04, ()), (x10, x11, x12, x13, (), x15, ()), (), x3, ()) = some R := loopW (Eq.trans (b := nl_s_l10Node_2 CC LL x01 x02 x03 x04 x10 x11 x12 x13 x15 x3) (by kernel_rfl) h)
noncomputable def nl_i_liveSets_4 (C : CallT) (L : LoopT) (x00 : CVal) (x02 : Bool) (x03 : Int) (x1 : List CVal) : Option (LO k_i_liveSets_4.T) :=
 br (decide (0 ≤ x03))
 (x00.asFp.bind fun y =>
 (y.1.sub y.2 4).bind fun y =>
 (C f_i_wanted [AVal.v y, AVal.v (CVal.int i64 x03), AVal.v (CVal.sl x1)] []).bind fun r =>
 br (!r.1.plain) none
 (br r.1.isFlat
 (r.1.asSl.bind fun xs =>
 br (decide (0 ≤ x03) && true)
 (br (decide (x03.toNat < x1.length) && true)
 (x1[x03.toNat]?.bind fun y =>
 (y.cell 0).bind fun c =>
 c.asSl.bind fun xs_1 =>
 (x1[x03.toNat]?.bind fun y => (y.cell 0).bind fun c => c.asSl).bind fun y =>
 (C f_slices_Equal_bool [AVal.v (CVal.sl xs), AVal.v (CVal.sl y)] []).bind fun r =>
 br (!scalar r.1) none
 (r.1.asBool.bind fun b =>
 br (!b)
 (br (decide (0 ≤ x03) && true)
 (br (decide (x03.toNat < x1.length) && true)
 (x1[x03.toNat]?.bind fun y =>
 br (CVal.fits false 1 y)
 (L f_i_liveSets 4 lc_i_liveSets_4 [] k_i_liveSets_4
 ((x00, (), true, i64.wrap (x03 - 1), ()),
 x1.set x03.toNat (CVal.sl xs), ()))
 (br (y.isAgg && decide (1 ≤ y.cells.length))
 (L f_i_liveSets 4 lc_i_liveSets_4 [] k_i_liveSets_4
 ((x00, (), true, i64.wrap (x03 - 1), ()),
 x1.set x03.toNat (CVal.agg (CVal.sl xs :: List.drop 1 y.cells)),
 ()))
 none))
 none)
 none)
 (L f_i_liveSets 4 lc_i_liveSets_4 [] k_i_liveSets_4
 ((x00, (), x02, i64.wrap (x03 - 1), ()), x1,
 ()))))
 none)
 none)
 none))
 (some (LO.out 4 ((x00, (), x02, x03, ()), x1, ())))
theorem gl_i_liveSets_4 (x00 : CVal) (x02 : Bool) (x03 : Int) (x1 : List CVal) (R : LO k_i_liveSets_4.T) (h : nl_i_liveSets_4 CC LL x00 x02 x03 x1 = some R) : LL f_i_liveSets 4 lc_i_liveSets_4 [] k_i_liveSets_4 ((x00, (), x02, x03, ()), x1, ()) = some R := loopW (Eq.trans (b := nl_i_liveSets_4 CC LL x00 x02 x03 x1) (by kernel_rfl) h)
noncomputable def nl_i_behind_2 (C : CallT) (L : LoopT) (x00 : List CVal) (x02 : List CVal) (x03 : Int) (x04 : Int) (x05 : List CVal) (x06 : Int) (x07 : Int) (x1 : List CVal) : Option (LO k_i_behind_2.T) :=
 br (decide (x07 < x06))
 (br (decide (0 ≤ x07) && true)
 (x05[x07.toNat]?.bind fun y =>
 br (CVal.fits false 1 y)
 ((y.cell 0).bind fun c =>
 br (decide (0 ≤ x07) && true)
 (br (decide (x07.toNat < x1.length) && true)
 (x1[x07.toNat]?.bind fun y =>
 (y.cell 0).bind fun c_1 =>
 c_1.asBool.bind fun b =>
 br b
 (br (decide (0 ≤ x07) && true)
 (br (decide (x07.toNat < x1.length) && true)
 (x1[x07.toNat]?.bind fun y =>
 br (CVal.fits false 1 y)
 (L f_i_behind 2 lc_i_behind_2 [] k_i_behind_2
 ((x00, (), x02, x03, x04, x05, x06, i64.wrap (x07 + 1),
 ()),
 x1.set x07.toNat (CVal.bool true), ()))
 (br (y.isAgg && decide (1 ≤ y.cells.length))
 (L f_i_behind 2 lc_i_behind_2 [] k_i_behind_2
 ((x00, (), x02, x03, x04, x05, x06, i64.wrap (x07 + 1),
 ()),
 x1.set x07.toNat (CVal.agg (CVal.bool true :: List.drop 1 y.cells)),
 ()))
 none))
 none)
 none)
 (br (decide (0 ≤ x07) && true)
 (br (decide (x07.toNat < x1.length) && true)
 (br (c.isFlat && true)
 (c.asBool.bind fun b =>
 x1[x07.toNat]?.bind fun y =>
 br (CVal.fits false 1 y)
 (L f_i_behind 2 lc_i_behind_2 [] k_i_behind_2
 ((x00, (), x02, x03, x04, x05, x06, i64.wrap (x07 + 1),
 ()),
 x1.set x07.toNat (CVal.bool b), ()))
 (br (y.isAgg && decide (1 ≤ y.cells.length))
 (L f_i_behind 2 lc_i_behind_2 [] k_i_behind_2
 ((x00, (), x02, x03, x04, x05, x06, i64.wrap (x07 + 1),
 ()),
 x1.set x07.toNat (CVal.agg (CVal.bool b :: List.drop 1 y.cells)),
 ()))
 none))
 none)
 none)
 none))
 none)
 none)
 none)
 none)
 (some (LO.out 2 ((x00, (), x02, x03, x04, x05, x06, x07, ()), x1, ())))
theorem gl_i_behind_2 (x00 : List CVal) (x02 : List CVal) (x03 : Int) (x04 : Int) (x05 : List CVal) (x06 : Int) (x07 : Int) (x1 : List CVal) (R : LO k_i_behind_2.T) (h : nl_i_behind_2 CC LL x00 x02 x03 x04 x05 x06 x07 x1 = some R) : LL f_i_behind 2 lc_i_behind_2 [] k_i_behind_2 ((x00, (), x02, x03, x04, x05, x06, x07, ()), x1, ()) = some R := loopW (Eq.trans (b := nl_i_behind_2 CC LL x00 x02 x03 x04 x05 x06 x07 x1) (by kernel_rfl) h)
noncomputable def nl_s_l10Guard_0 (C : CallT) (L : LoopT) (x00 : Int) (x03 : Int) (x10 : Int) (x11 : Int) (x12 : Int) (x13 : List CVal) (x2 : List CVal) : Option (LO k_s_l10Guard_0.T) :=
 (br (decide (x03 < x00)) (some (decide (x03 < (↑x13.length : Int)), ())) (some (false, ()))).bind
 fun y =>
 br y.1
 (br (decide (0 ≤ x03) && true)
 (x13[x03.toNat]?.bind fun y =>
 br (CVal.fits true 7 y)
 ((y.cell 0).bind fun c =>
 (CVal.asInt i64 c).bind fun n =>
 br (decide (n = 17))
 (br (decide (x2.length + 1 ≤ 4294967296) && true && true)
 (L f_s_l10Guard 0 lc_s_l10Guard_0 [] k_s_l10Guard_0
 ((x00, (), (), i64.wrap (x03 + 1), ()),
 (x10, x11, x12, x13, ()), x2 ++ [CVal.int i64 x03], ()))
 none)
 ((CVal.asInt i64 c).bind fun n =>
 br (decide (n = 18))
 (br (decide (0 < (↑x2.length : Int)))
 (br
 (decide (0 ≤ i64.wrap ((↑x2.length : Int) - 1)) &&
 decide (i64.wrap ((↑x2.length : Int) - 1) ≤ (↑x2.length : Int)) &&
 true)
 (L f_s_l10Guard 0 lc_s_l10Guard_0 [] k_s_l10Guard_0
 ((x00, (), (), i64.wrap (x03 + 1), ()),
 (x10, x11, x12, x13, ()),
 List.take (i64.wrap ((↑x2.length : Int) - 1)).toNat x2, ()))
 none)
 (L f_s_l10Guard 0 lc_s_l10Guard_0 [] k_s_l10Guard_0
 ((x00, (), (), i64.wrap (x03 + 1), ()),
 (x10, x11, x12, x13, ()), x2, ())))
 (L f_s_l10Guard 0 lc_s_l10Guard_0 [] k_s_l10Guard_0
 ((x00, (), (), i64.wrap (x03 + 1), ()),
 (x10, x11, x12, x13, ()), x2, ()))))
 none)
 none)
 (some
 (LO.out 0
 ((x00, (), (), x03, ()), (x10, x11, x12, x13, ()), x2, ())))
theorem gl_s_l10Guard_0 (x00 : Int) (x03 : Int) (x10 : Int) (x11 : Int) (x12 : Int) (x13 : List CVal) (x2 : List CVal) (R : LO k_s_l10Guard_0.T) (h : nl_s_l10Guard_0 CC LL x00 x03 x10 x11 x12 x13 x2 = some R) : LL f_s_l10Guard 0 lc_s_l10Guard_0 [] k_s_l10Guard_0 ((x00, (), (), x03, ()), (x10, x11, x12, x13, ()), x2, ()) = some R := loopW (Eq.trans (b := nl_s_l10Guard_0 CC LL x00 x03 x10 x11 x12 x13 x2) (by kernel_rfl) h)
noncomputable def nl_s_l10Add_0 (C : CallT) (L : LoopT) (x00 : List CVal) (x01 : Int) (x03 : Bool) (x04 : Int) (x1 : List CVal) : Option (LO k_s_l10Add_0.T) :=
 br (decide (x04 < (↑x00.length : Int)))
 ((br (!x03)
 (br (decide (0 ≤ x04) && true)
 (x00[x04.toNat]?.bind fun y =>
 br (CVal.fits false 1 y)
 ((y.cell 0).bind fun c =>
 (CVal.asInt i64 c).bind fun n => some (decide (x01 ≤ n), ()))
 none)
 none)
 (some (false, ()))).bind
 fun y =>
 br y.1
 (br (decide (x1.length + 1 ≤ 4294967296) && true && true)
 (br (decide (0 ≤ x04) && true)
 (x00[x04.toNat]?.bind fun y =>
 br (CVal.fits false 1 y)
 ((y.cell 0).bind fun c =>
 (CVal.asInt i64 c).bind fun n =>
 br (!decide (n = x01))
 (br (decide (0 ≤ x04) && true)
 (x00[x04.toNat]?.bind fun y =>
 br (CVal.fits false 1 y)
 ((y.cell 0).bind fun c =>
 br (c.isFlat && true)
 ((CVal.asInt i64 c).bind fun n =>
 br
 (decide
 ((x1 ++ [CVal.int i64 x01]).length + 1 ≤ 4294967296) &&
 true &&
 true)
 (L f_s_l10Add 0 lc_s_l10Add_0 [] k_s_l10Add_0
 ((x00, x01, (), true, i64.wrap (x04 + 1), ()),
 x1 ++ [CVal.int i64 x01] ++ [CVal.int i64 n], ()))
 none)
 none)
 none)
 none)
 (L f_s_l10Add 0 lc_s_l10Add_0 [] k_s_l10Add_0
 ((x00, x01, (), true, i64.wrap (x04 + 1), ()),
 x1 ++ [CVal.int i64 x01], ())))
 none)
 none)
 none)
 (br (decide (0 ≤ x04) && true)
 (x00[x04.toNat]?.bind fun y =>
 br (CVal.fits false 1 y)
 ((y.cell 0).bind fun c =>
 (CVal.asInt i64 c).bind fun n =>
 br (!decide (n = x01))
 (br (decide (0 ≤ x04) && true)
 (x00[x04.toNat]?.bind fun y =>
 br (CVal.fits false 1 y)
 ((y.cell 0).bind fun c =>
 br (c.isFlat && true)
 ((CVal.asInt i64 c).bind fun n =>
 br (decide (x1.length + 1 ≤ 4294967296) && true && true)
 (L f_s_l10Add 0 lc_s_l10Add_0 [] k_s_l10Add_0
 ((x00, x01, (), x03, i64.wrap (x04 + 1), ()),
 x1 ++ [CVal.int i64 n], ()))
 none)
 none)
 none)
 none)
 (L f_s_l10Add 0 lc_s_l10Add_0 [] k_s_l10Add_0
 ((x00, x01, (), x03, i64.wrap (x04 + 1), ()), x1, ())))
 none)
 none))
 (some (LO.out 0 ((x00, x01, (), x03, x04, ()), x1, ())))
theorem gl_s_l10Add_0 (x00 : List CVal) (x01 : Int) (x03 : Bool) (x04 : Int) (x1 : List CVal) (R : LO k_s_l10Add_0.T) (h : nl_s_l10Add_0 CC LL x00 x01 x03 x04 x1 = some R) : LL f_s_l10Add 0 lc_s_l10Add_0 [] k_s_l10Add_0 ((x00, x01, (), x03, x04, ()), x1, ()) = some R := loopW (Eq.trans (b := nl_s_l10Add_0 CC LL x00 x01 x03 x04 x1) (by kernel_rfl) h)
noncomputable def nl_slices_Index_byte_0 (C : CallT) (L : LoopT) (x00 : List CVal) (x01 : Int) (x02 : Int) (x03 : Int) : Option (LO k_slices_Index_byte_0.T) :=
 br (decide (x03 < x02))
 (br (decide (0 ≤ x03) && true)
 (x00[x03.toNat]?.bind fun y =>
 br (CVal.fits false 1 y)
 ((y.cell 0).bind fun c =>
 (CVal.asInt IntKind.u8 c).bind fun n =>
 br (decide (x01 = n)) (some (LO.ret (CVal.int i64 x03, [])))
 (L f_slices_Index_byte 0 lc_slices_Index_byte_0 [] k_slices_Index_byte_0
 ((x00, x01, x02, i64.wrap (x03 + 1), ()), ())))
 none)
 none)
 (some (LO.out 0 ((x00, x01, x02, x03, ()), ())))
theorem gl_slices_Index_byte_0 (x00 : List CVal) (x01 : Int) (x02 : Int) (x03 : Int) (R : LO k_slices_Index_byte_0.T) (h : nl_slices_Index_byte_0 CC LL x00 x01 x02 x03 = some R) : LL f_slices_Index_byte 0 lc_slices_Index_byte_0 [] k_slices_Index_byte_0 ((x00, x01, x02, x03, ()), ()) = some R := loopW (Eq.trans (b := nl_slices_Index_byte_0 CC LL x00 x01 x02 x03) (by kernel_rfl) h)
end Go.Proofs.Ytmjjaoffeajcbaa.Abs
