/- What the functions come to in the abstract machine. -/
import Derived.Test.YtmjjaoffeajcbaaL5Ann
import Derived.KernelRfl
set_option linter.unusedVariables false
set_option maxRecDepth 100000
namespace Go.Proofs.Ytmjjaoffeajcbaa.Abs
open Go Go.Proofs Go.IntKind
noncomputable def nf_l_toPiece (C : CallT) (L : LoopT) (a0 : Int) (a1 : Int) (a2 : Int) (a3 : List CVal) : Option Ret :=
 (C f_l_toInsS [AVal.v (CVal.sl a3)] []).bind fun r =>
 br r.1.isFlat
 (r.1.asSl.bind fun xs =>
 some (CVal.agg [CVal.int i64 a0, CVal.int i64 a1, CVal.int i64 a2, CVal.sl xs], []))
 none
theorem go_l_toPiece (a0 : Int) (a1 : Int) (a2 : Int) (a3 : List CVal) (R : Ret) (h : nf_l_toPiece CC LL a0 a1 a2 a3 = some R) : CC f_l_toPiece [AVal.v (CVal.agg [CVal.int i64 a0, CVal.int i64 a1, CVal.int i64 a2, CVal.sl a3])] [] = some R := fnW (by decide) rfl (Eq.trans (b := nf_l_toPiece CC LL a0 a1 a2 a3) (by kernel_rfl) h)
noncomputable def nf_l_eqPiece (C : CallT) (L : LoopT) (a0 : Int) (a1 : Int) (a2 : Int) (a3 : List CVal) (b0 : Int) (b1 : Int) (b2 : Int) (b3 : List CVal) : Option Ret :=
 br (!decide (a0 = b0)) (some (CVal.bool false, []))
 (br (!decide (a1 = b1)) (some (CVal.bool false, []))
 (br (!decide (a2 = b2)) (some (CVal.bool false, []))
 ((C f_l_eqInsS [AVal.v (CVal.sl a3), AVal.v (CVal.sl b3)] []).bind fun r =>
 r.1.asBool.bind fun b => br (!b) (some (CVal.bool false, [])) (some (CVal.bool true, [])))))
theorem go_l_eqPiece (a0 : Int) (a1 : Int) (a2 : Int) (a3 : List CVal) (b0 : Int) (b1 : Int) (b2 : Int) (b3 : List CVal) (R : Ret) (h : nf_l_eqPiece CC LL a0 a1 a2 a3 b0 b1 b2 b3 = some R) : CC f_l_eqPiece [AVal.v (CVal.agg [CVal.int i64 a0, CVal.int i64 a1, CVal.int i64 a2, CVal.sl a3]),
 AVal.v (CVal.agg [CVal.int i64 b0, CVal.int i64 b1, CVal.int i64 b2, CVal.sl b3])] [] = some R := fnW (by decide) rfl (Eq.trans (b := nf_l_eqPiece CC LL a0 a1 a2 a3 b0 b1 b2 b3) (by kernel_rfl) h)
noncomputable def nf_s_l9Piece (C : CallT) (L : LoopT) (a0 : Int) (a1 : Int) (a2 : Int) (a3 : List CVal) : Option Ret :=
 ((C f_s_l1In
 [AVal.v (CVal.int i64 a0), AVal.v (CVal.int i64 (-1 : Int)),
 AVal.v (CVal.int i64 149)]
 []).bind
 fun r =>
 r.1.asBool.bind fun b =>
 br (!b) (some (true, ()))
 (br (decide (a1 < 0)) (some (true, ()))
 (br (decide (a0 < 0))
 (br (!decide (a1 = 0)) (some (true, ()))
 (br (decide (0 ≤ a0))
 (br (decide (a1 < 1)) (some (true, ()))
 ((C f_s_l1In
 [AVal.v (CVal.int i64 a2), AVal.v (CVal.int i64 a1),
 AVal.v (CVal.int i64 400)]
 []).bind
 fun r =>
 r.1.asBool.bind fun b =>
 br (!b) (some (true, ()))
 ((C f_s_l1In
 [AVal.v (CVal.int i64 (↑a3.length : Int)),
 AVal.v (CVal.int i64 1), AVal.v (CVal.int i64 600)]
 []).bind
 fun r => r.1.asBool.bind fun b => some (!b, ()))))
 ((C f_s_l1In
 [AVal.v (CVal.int i64 a2), AVal.v (CVal.int i64 a1),
 AVal.v (CVal.int i64 400)]
 []).bind
 fun r =>
 r.1.asBool.bind fun b =>
 br (!b) (some (true, ()))
 ((C f_s_l1In
 [AVal.v (CVal.int i64 (↑a3.length : Int)),
 AVal.v (CVal.int i64 1), AVal.v (CVal.int i64 600)]
 []).bind
 fun r => r.1.asBool.bind fun b => some (!b, ())))))
 (br (decide (0 ≤ a0))
 (br (decide (a1 < 1)) (some (true, ()))
 ((C f_s_l1In
 [AVal.v (CVal.int i64 a2), AVal.v (CVal.int i64 a1),
 AVal.v (CVal.int i64 400)]
 []).bind
 fun r =>
 r.1.asBool.bind fun b =>
 br (!b) (some (true, ()))
 ((C f_s_l1In
 [AVal.v (CVal.int i64 (↑a3.length : Int)),
 AVal.v (CVal.int i64 1), AVal.v (CVal.int i64 600)]
 []).bind
 fun r => r.1.asBool.bind fun b => some (!b, ()))))
 ((C f_s_l1In
 [AVal.v (CVal.int i64 a2), AVal.v (CVal.int i64 a1),
 AVal.v (CVal.int i64 400)]
 []).bind
 fun r =>
 r.1.asBool.bind fun b =>
 br (!b) (some (true, ()))
 ((C f_s_l1In
 [AVal.v (CVal.int i64 (↑a3.length : Int)), AVal.v (CVal.int i64 1),
 AVal.v (CVal.int i64 600)]
 []).bind
 fun r => r.1.asBool.bind fun b => some (!b, ()))))))).bind
 fun y =>
 br y.1 (some (CVal.bool false, []))
 ((L f_s_l9Piece 0 lc_s_l9Piece_0 [] k_s_l9Piece_0
 (((CVal.agg [CVal.int i64 a0, CVal.int i64 a1, CVal.int i64 a2, CVal.sl a3]).fp
 0,
 (↑a3.length : Int), 0, ()),
 ())).bind
 fun r =>
 loK r (fun r => some r) fun j p =>
 br (j == 0)
 (((CVal.asFp p.fst.1).bind fun y =>
 (y.1.cell (y.2 + 3)).bind fun c =>
 br (decide (0 ≤ i64.wrap (p.fst.snd.1 - 1)) && true)
 (c.asSl.bind fun xs =>
 xs[(i64.wrap (p.fst.snd.1 - 1)).toNat]?.bind fun y =>
 br (CVal.fits true 7 y)
 ((y.cell 0).bind fun c =>
 (CVal.asInt i64 c).bind fun n =>
 br (decide (n = 15)) (some (true, ()))
 ((CVal.asFp p.fst.1).bind fun y =>
 (y.1.cell (y.2 + 3)).bind fun c =>
 br (decide (0 ≤ i64.wrap (p.fst.snd.1 - 1)) && true)
 (c.asSl.bind fun xs =>
 xs[(i64.wrap (p.fst.snd.1 - 1)).toNat]?.bind fun y =>
 br (CVal.fits true 7 y)
 ((y.cell 0).bind fun c =>
 (CVal.asInt i64 c).bind fun n =>
 some (decide (n = 13), ()))
 none)
 none))
 none)
 none).bind
 fun y => some (CVal.bool y.1, []))
 none)
theorem go_s_l9Piece (a0 : Int) (a1 : Int) (a2 : Int) (a3 : List CVal) (R : Ret) (h : nf_s_l9Piece CC LL a0 a1 a2 a3 = some R) : CC f_s_l9Piece [AVal.v (CVal.agg [CVal.int i64 a0, CVal.int i64 a1, CVal.int i64 a2, CVal.sl a3])] [] = some R := fnW (by decide) rfl (Eq.trans (b := nf_s_l9Piece CC LL a0 a1 a2 a3) (by kernel_rfl) h)
noncomputable def nf_slices_ContainsFunc_2_int (C : CallT) (L : LoopT) (a : List CVal) (b : CVal) : Option Ret :=
 (C f_slices_IndexFunc_2_int [AVal.v (CVal.sl a), AVal.v b] []).bind fun r =>
 (CVal.asInt i64 r.1).bind fun n => some (CVal.bool (decide (0 ≤ n)), [])
theorem go_slices_ContainsFunc_2_int (a : List CVal) (b : CVal) (R : Ret) (h : nf_slices_ContainsFunc_2_int CC LL a b = some R) : CC f_slices_ContainsFunc_2_int [AVal.v (CVal.sl a), AVal.v b] [] = some R := fnW (by decide) rfl (Eq.trans (b := nf_slices_ContainsFunc_2_int CC LL a b) (by kernel_rfl) h)
noncomputable def nf_l_toIns (C : CallT) (L : LoopT) (a0 : Int) (a1 : Int) (a2 : Int) (a3 : Int) (a4 : Int) (a5 : List CVal) (a6 : Int) : Option Ret :=
 (C f_l_toIntS [AVal.v (CVal.sl a5)] []).bind fun r =>
 br r.1.isFlat
 (r.1.asSl.bind fun xs =>
 some
 (CVal.agg
 [CVal.int i64 a0, CVal.int i64 a1, CVal.int i64 a2, CVal.int i64 a3,
 CVal.int i64 a4, CVal.sl xs, CVal.int i64 a6],
 []))
 none
theorem go_l_toIns (a0 : Int) (a1 : Int) (a2 : Int) (a3 : Int) (a4 : Int) (a5 : List CVal) (a6 : Int) (R : Ret) (h : nf_l_toIns CC LL a0 a1 a2 a3 a4 a5 a6 = some R) : CC f_l_toIns [AVal.v
 (CVal.agg
 [CVal.int i64 a0, CVal.int i64 a1, CVal.int i64 a2, CVal.int i64 a3,
 CVal.int i64 a4, CVal.sl a5, CVal.int i64 a6])] [] = some R := fnW (by decide) rfl (Eq.trans (b := nf_l_toIns CC LL a0 a1 a2 a3 a4 a5 a6) (by kernel_rfl) h)
noncomputable def nf_s_l11Pair (C : CallT) (L : LoopT) (a : List CVal) (b : Int) (c : Int) : Option Ret :=
 br (!decide (b = c))
 (br (decide (0 ≤ b) && true)
 (br (decide (b.toNat < a.length) && true)
 (a[b.toNat]?.bind fun y =>
 (y.cell 0).bind fun c_1 =>
 c_1.asSl.bind fun xs =>
 br (decide (0 ≤ c) && true)
 ((a[b.toNat]?.bind fun y => (y.cell 0).bind fun c => c.asSl).bind fun y =>
 br (decide (c.toNat < y.length))
 (a[b.toNat]?.bind fun y =>
 (y.cell 0).bind fun c_2 =>
 c_2.asSl.bind fun xs =>
 xs[c.toNat]?.bind fun y_1 =>
 br (CVal.fitsF false [CK.bool] y_1)
 (br (decide (0 ≤ c) && true)
 (br
 (decide
 (c.toNat <
 (a.set b.toNat
 (y.putCell 0 (CVal.sl (xs.set c.toNat (CVal.bool true))))).length) &&
 true)
 ((a.set b.toNat
 (y.putCell 0
 (CVal.sl (xs.set c.toNat (CVal.bool true)))))[c.toNat]?.bind
 fun y_2 =>
 (y_2.cell 0).bind fun c_3 =>
 c_3.asSl.bind fun xs_1 =>
 br (decide (0 ≤ b) && true)
 (((a.set b.toNat
 (y.putCell 0
 (CVal.sl (xs.set c.toNat (CVal.bool true)))))[c.toNat]?.bind
 fun y => (y.cell 0).bind fun c => c.asSl).bind
 fun y_3 =>
 br (decide (b.toNat < y_3.length))
 ((a.set b.toNat
 (y.putCell 0
 (CVal.sl (xs.set c.toNat (CVal.bool true)))))[c.toNat]?.bind
 fun y_4 =>
 (y_4.cell 0).bind fun c_4 =>
 c_4.asSl.bind fun xs_2 =>
 xs_2[b.toNat]?.bind fun y_5 =>
 br (CVal.fitsF false [CK.bool] y_5)
 (some
 (CVal.tup [],
 [(a.set b.toNat
 (y.putCell 0
 (CVal.sl (xs.set c.toNat (CVal.bool true))))).set
 c.toNat
 (y_4.putCell 0
 (CVal.sl (xs_2.set b.toNat (CVal.bool true))))]))
 none)
 none)
 none)
 none)
 none)
 none)
 none)
 none)
 none)
 none)
 (some (CVal.tup [], [a]))
theorem go_s_l11Pair (a : List CVal) (b : Int) (c : Int) (R : Ret) (h : nf_s_l11Pair CC LL a b c = some R) : CC f_s_l11Pair [AVal.lref 0 0, AVal.v (CVal.int i64 b), AVal.v (CVal.int i64 c)] [PB.arr (Md.mk true true 0) false 1 a] = some R := fnW (by decide) rfl (Eq.trans (b := nf_s_l11Pair CC LL a b c) (by kernel_rfl) h)
noncomputable def nf_i_in (C : CallT) (L : LoopT) (a : Int) (b : Int) (c : Int) : Option Ret :=
 (br (decide (b ≤ a)) (some (decide (a ≤ c), ())) (some (false, ()))).bind fun y =>
 some (CVal.bool y.1, [])
theorem go_i_in (a : Int) (b : Int) (c : Int) (R : Ret) (h : nf_i_in CC LL a b c = some R) : CC f_i_in [AVal.v (CVal.int i64 a), AVal.v (CVal.int i64 b), AVal.v (CVal.int i64 c)] [] = some R := fnW (by decide) rfl (Eq.trans (b := nf_i_in CC LL a b c) (by kernel_rfl) h)
noncomputable def nf_i_clashes (C : CallT) (L : LoopT) (a0 : Int) (a1 : Int) (a2 : Int) (a3 : List CVal) : Option Ret :=
 (L f_i_clashes 0 lc_i_clashes_0 [] k_i_clashes_0
 (((CVal.agg [CVal.int i64 a0, CVal.int i64 a1, CVal.int i64 a2, CVal.sl a3]).fp 0,
 (), a2, 0, ()),
 ((), ()), [], ())).bind
 fun r =>
 loK r (fun r => some r) fun j p =>
 br (j == 0)
 ((CVal.asFp p.fst.1).bind fun y =>
 (y.1.sub y.2 4).bind fun y =>
 (C f_i_liveSets [AVal.v y] []).bind fun r =>
 (CVal.asFp p.fst.1).bind fun y =>
 (y.1.cell (y.2 + 3)).bind fun c =>
 c.asSl.bind fun xs =>
 r.1.asSl.bind fun xs_1 =>
 c.asSl.bind fun xs_2 =>
 (L f_i_clashes 2 lc_i_clashes_2 [] k_i_clashes_2
 ((p.fst.1, (), (), xs_1, xs_2, (↑xs.length : Int), 0, ()),
 ((), ()), p.snd.snd.1, ())).bind
 fun r =>
 loK r (fun r => some r) fun j p =>
 br (j == 2)
 ((CVal.asFp p.fst.1).bind fun y =>
 (y.1.cell (y.2 + 1)).bind fun c =>
 (CVal.asInt i64 c).bind fun n =>
 (L f_i_clashes 12 lc_i_clashes_12 [] k_i_clashes_12
 ((p.fst.1, (), (), n, 0, ()),
 ((), ()), p.snd.snd.1, ())).bind
 fun r =>
 loK r (fun r => some r) fun j p =>
 br (j == 12) (some (CVal.sl p.snd.snd.1, [])) none)
 none)
 none
theorem go_i_clashes (a0 : Int) (a1 : Int) (a2 : Int) (a3 : List CVal) (R : Ret) (h : nf_i_clashes CC LL a0 a1 a2 a3 = some R) : CC f_i_clashes [AVal.v (CVal.agg [CVal.int i64 a0, CVal.int i64 a1, CVal.int i64 a2, CVal.sl a3])] [] = some R := fnW (by decide) rfl (Eq.trans (b := nf_i_clashes CC LL a0 a1 a2 a3) (by kernel_rfl) h)
noncomputable def nf_s_l9Uses (C : CallT) (L : LoopT) (a : Int) : Option Ret :=
 br (decide (a = 1)) (some (CVal.agg [CVal.bool true, CVal.bool false, CVal.bool false, CVal.bool false], []))
 (br (decide (a = 2)) (some (CVal.agg [CVal.bool true, CVal.bool false, CVal.bool false, CVal.bool false], []))
 (br (decide (a = 3))
 (some (CVal.agg [CVal.bool true, CVal.bool false, CVal.bool false, CVal.bool false], []))
 (br (decide (a = 8))
 (some (CVal.agg [CVal.bool true, CVal.bool false, CVal.bool false, CVal.bool false], []))
 (br (decide (a = 4))
 (some (CVal.agg [CVal.bool true, CVal.bool true, CVal.bool false, CVal.bool false], []))
 (br (decide (a = 9))
 (some (CVal.agg [CVal.bool true, CVal.bool true, CVal.bool false, CVal.bool false], []))
 (br (decide (a = 10))
 (some (CVal.agg [CVal.bool true, CVal.bool true, CVal.bool false, CVal.bool false], []))
 (br (decide (a = 5))
 (some (CVal.agg [CVal.bool true, CVal.bool true, CVal.bool true, CVal.bool false], []))
 (br (decide (a = 6))
 (some (CVal.agg [CVal.bool true, CVal.bool true, CVal.bool true, CVal.bool false], []))
 (br (decide (a = 7))
 (some (CVal.agg [CVal.bool true, CVal.bool true, CVal.bool true, CVal.bool false], []))
 (br (decide (a = 14))
 (some (CVal.agg [CVal.bool true, CVal.bool true, CVal.bool true, CVal.bool false], []))
 (br (decide (a = 11))
 (some (CVal.agg [CVal.bool false, CVal.bool true, CVal.bool false, CVal.bool true], []))
 (br (decide (a = 12))
 (some (CVal.agg [CVal.bool false, CVal.bool true, CVal.bool false, CVal.bool true], []))
 (br (decide (a = 13))
 (some (CVal.agg [CVal.bool false, CVal.bool false, CVal.bool false, CVal.bool true], []))
 (br (decide (a = 15))
 (some (CVal.agg [CVal.bool false, CVal.bool true, CVal.bool false, CVal.bool false], []))
 (br (decide (a = 16))
 (some
 (CVal.agg [CVal.bool false, CVal.bool true, CVal.bool false, CVal.bool false], []))
 (br (decide (a = 17))
 (some
 (CVal.agg [CVal.bool true, CVal.bool false, CVal.bool false, CVal.bool true], []))
 (some
 (CVal.agg [CVal.bool false, CVal.bool false, CVal.bool false, CVal.bool false],
 []))))))))))))))))))
theorem go_s_l9Uses (a : Int) (R : Ret) (h : nf_s_l9Uses CC LL a = some R) : CC f_s_l9Uses [AVal.v (CVal.int i64 a)] [] = some R := fnW (by decide) rfl (Eq.trans (b := nf_s_l9Uses CC LL a) (by kernel_rfl) h)
noncomputable def nf_slices_IndexFunc_Ins (C : CallT) (L : LoopT) (a : List CVal) (b : CVal) : Option Ret :=
 (L f_slices_IndexFunc_Ins 0 lc_slices_IndexFunc_Ins_0 [] k_slices_IndexFunc_Ins_0
 ((a, b, (↑a.length : Int), 0, ()), ())).bind
 fun r => loK r (fun r => some r) fun j p => br (j == 0) (some (CVal.int i64 (-1 : Int), [])) none
theorem go_slices_IndexFunc_Ins (a : List CVal) (b : CVal) (R : Ret) (h : nf_slices_IndexFunc_Ins CC LL a b = some R) : CC f_slices_IndexFunc_Ins [AVal.v (CVal.sl a), AVal.v b] [] = some R := fnW (by decide) rfl (Eq.trans (b := nf_slices_IndexFunc_Ins CC LL a b) (by kernel_rfl) h)
noncomputable def nf_i_Writes (C : CallT) (L : LoopT) (a0 : Int) (a1 : Int) (a2 : Int) (a3 : Int) (a4 : Int) (a5 : List CVal) (a6 : Int) : Option Ret :=
 ((C f_i_hasPart [AVal.v (CVal.int i64 a0), AVal.v (CVal.int IntKind.u8 68)] []).bind fun r =>
 r.1.asBool.bind fun b => br b (some (!decide (a0 = 17), ())) (some (false, ()))).bind
 fun y => br y.1 (some (CVal.int i64 a1, [])) (some (CVal.int i64 (-1 : Int), []))
theorem go_i_Writes (a0 : Int) (a1 : Int) (a2 : Int) (a3 : Int) (a4 : Int) (a5 : List CVal) (a6 : Int) (R : Ret) (h : nf_i_Writes CC LL a0 a1 a2 a3 a4 a5 a6 = some R) : CC f_i_Writes [AVal.v
 (CVal.agg
 [CVal.int i64 a0, CVal.int i64 a1, CVal.int i64 a2, CVal.int i64 a3,
 CVal.int i64 a4, CVal.sl a5, CVal.int i64 a6])] [] = some R := fnW (by decide) rfl (Eq.trans (b := nf_i_Writes CC LL a0 a1 a2 a3 a4 a5 a6) (by kernel_rfl) h)
noncomputable def nf_s_l10Set (C : CallT) (L : LoopT) (a00 : Int) (a01 : Int) (a02 : Int) (a03 : List CVal) (a1 : List CVal) (a2 : Bool) (b : Int) (c : Int) : Option Ret :=
 br (decide (0 ≤ b) && true)
 (br (decide (b.toNat < a1.length) && true)
 (a1[b.toNat]?.bind fun y =>
 (y.cell 0).bind fun c_1 =>
 c_1.asSl.bind fun xs =>
 br (decide (0 ≤ c) && true)
 ((a1[b.toNat]?.bind fun y => (y.cell 0).bind fun c => c.asSl).bind fun y =>
 br (decide (c.toNat < y.length))
 ((a1[b.toNat]?.bind fun y => (y.cell 0).bind fun c => c.asSl).bind fun y =>
 y[c.toNat]?.bind fun y =>
 y.asBool.bind fun b_1 =>
 br (!b_1)
 (br (decide (0 ≤ b) && true)
 (br (decide (b.toNat < a1.length) && true)
 (a1[b.toNat]?.bind fun y =>
 (y.cell 0).bind fun c_2 =>
 c_2.asSl.bind fun xs =>
 br (decide (0 ≤ c) && true)
 ((a1[b.toNat]?.bind fun y => (y.cell 0).bind fun c => c.asSl).bind fun y =>
 br (decide (c.toNat < y.length))
 (a1[b.toNat]?.bind fun y =>
 (y.cell 0).bind fun c_3 =>
 c_3.asSl.bind fun xs =>
 xs[c.toNat]?.bind fun y_1 =>
 br (CVal.fitsF false [CK.bool] y_1)
 (some
 (CVal.tup [],
 [[CVal.int i64 a00, CVal.int i64 a01,
 CVal.int i64 a02, CVal.sl a03,
 CVal.sl
 (a1.set b.toNat
 (y.putCell 0
 (CVal.sl (xs.set c.toNat (CVal.bool true))))),
 CVal.bool true],
 []]))
 none)
 none)
 none)
 none)
 none)
 (some
 (CVal.tup [],
 [[CVal.int i64 a00, CVal.int i64 a01, CVal.int i64 a02, CVal.sl a03,
 CVal.sl a1, CVal.bool a2],
 []])))
 none)
 none)
 none)
 none
theorem go_s_l10Set (a00 : Int) (a01 : Int) (a02 : Int) (a03 : List CVal) (a1 : List CVal) (a2 : Bool) (b : Int) (c : Int) (R : Ret) (h : nf_s_l10Set CC LL a00 a01 a02 a03 a1 a2 b c = some R) : CC f_s_l10Set [AVal.lptr 0 0, AVal.v (CVal.int i64 b), AVal.v (CVal.int i64 c)] [PB.box
 [AVal.v (CVal.int i64 a00), AVal.v (CVal.int i64 a01), AVal.v (CVal.int i64 a02),
 AVal.v (CVal.sl a03), AVal.lref 1 0, AVal.v (CVal.bool a2)],
 PB.arr (Md.mk true false 0) true 1 a1] = some R := fnW (by decide) rfl (Eq.trans (b := nf_s_l10Set CC LL a00 a01 a02 a03 a1 a2 b c) (by kernel_rfl) h)
noncomputable def nf_i_insForm (C : CallT) (L : LoopT) (a : Int) : Option Ret :=
 br (decide (a = 1)) (some (CVal.tup [CVal.str [(68 : UInt8), (78 : UInt8)], CVal.bool true], []))
 (br (decide (a = 2)) (some (CVal.tup [CVal.str [(68 : UInt8), (78 : UInt8)], CVal.bool true], []))
 (br (decide (a = 3)) (some (CVal.tup [CVal.str [(68 : UInt8)], CVal.bool true], []))
 (br (decide (a = 4)) (some (CVal.tup [CVal.str [(68 : UInt8), (88 : UInt8)], CVal.bool true], []))
 (br (decide (a = 9)) (some (CVal.tup [CVal.str [(68 : UInt8), (88 : UInt8)], CVal.bool true], []))
 (br (decide (a = 10)) (some (CVal.tup [CVal.str [(68 : UInt8), (88 : UInt8)], CVal.bool true], []))
 (br (decide (a = 5))
 (some (CVal.tup [CVal.str [(68 : UInt8), (88 : UInt8), (89 : UInt8), (78 : UInt8)], CVal.bool true], []))
 (br (decide (a = 6))
 (some (CVal.tup [CVal.str [(68 : UInt8), (88 : UInt8), (89 : UInt8)], CVal.bool true], []))
 (br (decide (a = 7))
 (some (CVal.tup [CVal.str [(68 : UInt8), (88 : UInt8), (89 : UInt8)], CVal.bool true], []))
 (br (decide (a = 8))
 (some (CVal.tup [CVal.str [(68 : UInt8), (78 : UInt8), (76 : UInt8)], CVal.bool true], []))
 (br (decide (a = 11))
 (some (CVal.tup [CVal.str [(88 : UInt8), (84 : UInt8)], CVal.bool true], []))
 (br (decide (a = 12))
 (some (CVal.tup [CVal.str [(88 : UInt8), (84 : UInt8)], CVal.bool true], []))
 (br (decide (a = 13)) (some (CVal.tup [CVal.str [(84 : UInt8)], CVal.bool true], []))
 (br (decide (a = 14))
 (some
 (CVal.tup
 [CVal.str [(68 : UInt8), (88 : UInt8), (89 : UInt8), (76 : UInt8)], CVal.bool true],
 []))
 (br (decide (a = 15))
 (some (CVal.tup [CVal.str [(88 : UInt8)], CVal.bool true], []))
 (br (decide (a = 16))
 (some (CVal.tup [CVal.str [(88 : UInt8)], CVal.bool true], []))
 (br (decide (a = 17))
 (some (CVal.tup [CVal.str [(68 : UInt8), (84 : UInt8)], CVal.bool true], []))
 (some
 (CVal.tup [CVal.str [], CVal.bool (decide (a = 18))], []))))))))))))))))))
theorem go_i_insForm (a : Int) (R : Ret) (h : nf_i_insForm CC LL a = some R) : CC f_i_insForm [AVal.v (CVal.int i64 a)] [] = some R := fnW (by decide) rfl (Eq.trans (b := nf_i_insForm CC LL a) (by kernel_rfl) h)
noncomputable def nf_slices_ContainsFunc_int (C : CallT) (L : LoopT) (a : List CVal) (b : CVal) : Option Ret :=
 (C f_slices_IndexFunc_int [AVal.v (CVal.sl a), AVal.v b] []).bind fun r =>
 (CVal.asInt i64 r.1).bind fun n => some (CVal.bool (decide (0 ≤ n)), [])
theorem go_slices_ContainsFunc_int (a : List CVal) (b : CVal) (R : Ret) (h : nf_slices_ContainsFunc_int CC LL a b = some R) : CC f_slices_ContainsFunc_int [AVal.v (CVal.sl a), AVal.v b] [] = some R := fnW (by decide) rfl (Eq.trans (b := nf_slices_ContainsFunc_int CC LL a b) (by kernel_rfl) h)
noncomputable def nf_i_ways (C : CallT) (L : LoopT) (a0 : Int) (a1 : Int) (a2 : Int) (a3 : List CVal) (b : Int) : Option Ret :=
 br (decide (0 ≤ b) && true)
 (a3[b.toNat]?.bind fun y =>
 br (CVal.fits true 7 y)
 ((y.sub 0 7).bind fun y =>
 br (CVal.isAggN 7 y)
 ((y.cell 0).bind fun c =>
 (y.cell 1).bind fun c_1 =>
 (y.cell 2).bind fun c_2 =>
 (y.cell 3).bind fun c_3 =>
 (y.cell 4).bind fun c_4 =>
 (y.cell 5).bind fun c_5 =>
 (y.cell 6).bind fun c_6 =>
 ((CVal.asInt i64 c).bind fun n =>
 br (decide (n = 13)) (some (true, ()))
 ((CVal.asInt i64 c).bind fun n =>
 br (decide (n = 11)) (some (true, ()))
 ((CVal.asInt i64 c).bind fun n =>
 some (decide (n = 12), ())))).bind
 fun y =>
 br y.1
 (br (c_6.isFlat && true)
 ((CVal.asInt i64 c_6).bind fun n =>
 ((CVal.asInt i64 c).bind fun n =>
 br (!decide (n = 13))
 ((CVal.asInt i64 c).bind fun n =>
 br (!decide (n = 15))
 ((CVal.asInt i64 c).bind fun n =>
 some (!decide (n = 16), ()))
 (some (false, ())))
 (some (false, ()))).bind
 fun y =>
 br y.1
 (some
 (CVal.sl
 [CVal.int i64 n,
 CVal.int i64 (i64.wrap (b + 1))],
 []))
 (some (CVal.sl [CVal.int i64 n], [])))
 none)
 (((CVal.asInt i64 c).bind fun n =>
 br (!decide (n = 13))
 ((CVal.asInt i64 c).bind fun n =>
 br (!decide (n = 15))
 ((CVal.asInt i64 c).bind fun n =>
 some (!decide (n = 16), ()))
 (some (false, ())))
 (some (false, ()))).bind
 fun y =>
 br y.1 (some (CVal.sl [CVal.int i64 (i64.wrap (b + 1))], []))
 (some (CVal.sl [], []))))
 none)
 none)
 none
theorem go_i_ways (a0 : Int) (a1 : Int) (a2 : Int) (a3 : List CVal) (b : Int) (R : Ret) (h : nf_i_ways CC LL a0 a1 a2 a3 b = some R) : CC f_i_ways [AVal.v (CVal.agg [CVal.int i64 a0, CVal.int i64 a1, CVal.int i64 a2, CVal.sl a3]),
 AVal.v (CVal.int i64 b)] [] = some R := fnW (by decide) rfl (Eq.trans (b := nf_i_ways CC LL a0 a1 a2 a3 b) (by kernel_rfl) h)
noncomputable def nf_i_guardOf (C : CallT) (L : LoopT) (a0 : Int) (a1 : Int) (a2 : Int) (a3 : List CVal) (b : Int) : Option Ret :=
 (C f_i_in
 [AVal.v (CVal.int i64 b), AVal.v (CVal.int i64 0),
 AVal.v (CVal.int i64 (i64.wrap ((↑a3.length : Int) - 1)))]
 []).bind
 fun r =>
 r.1.asBool.bind fun b_1 =>
 br (!b_1) (some (CVal.int i64 (-1 : Int), []))
 (br (decide (0 ≤ b) && decide (b ≤ (↑a3.length : Int)) && a3.all (CVal.fits true 7))
 ((L f_i_guardOf 0 lc_i_guardOf_0 [] k_i_guardOf_0
 (((), List.drop 0 (List.take b.toNat a3),
 (↑(List.drop 0 (List.take b.toNat a3)).length : Int), 0, ()),
 [], ())).bind
 fun r =>
 loK r (fun r => some r) fun j p =>
 br (j == 0)
 (br (decide ((↑(List.length p.snd.1) : Int) = 0)) (some (CVal.int i64 (-1 : Int), []))
 (br (decide (0 ≤ i64.wrap ((↑(List.length p.snd.1) : Int) - 1)) && true)
 (br
 (decide
 ((i64.wrap ((↑(List.length p.snd.1) : Int) - 1)).toNat < List.length p.snd.1) &&
 true)
 (p.snd.1[(i64.wrap ((↑(List.length p.snd.1) : Int) - 1)).toNat]?.bind fun y =>
 (y.cell 0).bind fun c =>
 (CVal.asInt i64 c).bind fun n => some (CVal.int i64 n, []))
 none)
 none))
 none)
 none)
theorem go_i_guardOf (a0 : Int) (a1 : Int) (a2 : Int) (a3 : List CVal) (b : Int) (R : Ret) (h : nf_i_guardOf CC LL a0 a1 a2 a3 b = some R) : CC f_i_guardOf [AVal.v (CVal.agg [CVal.int i64 a0, CVal.int i64 a1, CVal.int i64 a2, CVal.sl a3]),
 AVal.v (CVal.int i64 b)] [] = some R := fnW (by decide) rfl (Eq.trans (b := nf_i_guardOf CC LL a0 a1 a2 a3 b) (by kernel_rfl) h)
noncomputable def nf_slices_Index_byte (C : CallT) (L : LoopT) (a : List CVal) (b : Int) : Option Ret :=
 (L f_slices_Index_byte 0 lc_slices_Index_byte_0 [] k_slices_Index_byte_0
 ((a, b, (↑a.length : Int), 0, ()), ())).bind
 fun r => loK r (fun r => some r) fun j p => br (j == 0) (some (CVal.int i64 (-1 : Int), [])) none
theorem go_slices_Index_byte (a : List CVal) (b : Int) (R : Ret) (h : nf_slices_Index_byte CC LL a b = some R) : CC f_slices_Index_byte [AVal.v (CVal.sl a), AVal.v (CVal.int IntKind.u8 b)] [] = some R := fnW (by decide) rfl (Eq.trans (b := nf_slices_Index_byte CC LL a b) (by kernel_rfl) h)
noncomputable def nl_i_SlotsOk_0 (C : CallT) (L : LoopT) (x01 : CVal) (x02 : List CVal) (x03 : Int) (x04 : Int) (x10 : Int) (x11 : Int) (x12 : Int) (x13 : List CVal) : Option (LO k_i_SlotsOk_0.T) :=
 br (decide (x04 < x03))
 (br (decide (0 ≤ x04) && true)
 (x02[x04.toNat]?.bind fun y =>
 br (CVal.fits false 1 y)
 ((y.cell 0).bind fun c =>
 ((CVal.asInt i64 c).bind fun n =>
 br (decide (n < 0)) (some (true, ()))
 (br (decide (x04 < x11))
 ((CVal.asInt i64 c).bind fun n => some (!decide (n = x04), ()))
 (some (false, ())))).bind
 fun y =>
 br y.1 (some (LO.ret (CVal.bool false, [])))
 (L f_i_SlotsOk 0 lc_i_SlotsOk_0 [] k_i_SlotsOk_0
 (((), x01, x02, x03, i64.wrap (x04 + 1), ()),
 (x10, x11, x12, x13, ()), ())))
 none)
 none)
 (some (LO.out 0 (((), x01, x02, x03, x04, ()), (x10, x11, x12, x13, ()), ())))
theorem gl_i_SlotsOk_0 (x01 : CVal) (x02 : List CVal) (x03 : Int) (x04 : Int) (x10 : Int) (x11 : Int) (x12 : Int) (x13 : List CVal) (R : LO k_i_SlotsOk_0.T) (h : nl_i_SlotsOk_0 CC LL x01 x02 x03 x04 x10 x11 x12 x13 = some R) : LL f_i_SlotsOk 0 lc_i_SlotsOk_0 [] k_i_SlotsOk_0 (((), x01, x02, x03, x04, ()), (x10, x11, x12, x13, ()), ()) = some R := loopW (Eq.trans (b := nl_i_SlotsOk_0 CC LL x01 x02 x03 x04 x10 x11 x12 x13) (by kernel_rfl) h)
noncomputable def nl_s_l9Piece_0 (C : CallT) (L : LoopT) (x00 : CVal) (x01 : Int) (x02 : Int) : Option (LO k_s_l9Piece_0.T) :=
 br (decide (x02 < x01))
 (x00.asFp.bind fun y =>
 (y.1.sub y.2 4).bind fun y =>
 x00.asFp.bind fun y_1 =>
 (y_1.1.cell (y_1.2 + 3)).bind fun c =>
 br (decide (0 ≤ x02) && true)
 (c.asSl.bind fun xs =>
 xs[x02.toNat]?.bind fun y_2 =>
 br (CVal.fits true 7 y_2)
 ((y_2.sub 0 7).bind fun y_3 =>
 (C f_s_l9Ins [AVal.v y, AVal.v y_3] []).bind fun r =>
 r.1.asBool.bind fun b =>
 br (!b) (some (LO.ret (CVal.bool false, [])))
 (L f_s_l9Piece 0 lc_s_l9Piece_0 [] k_s_l9Piece_0
 ((x00, x01, i64.wrap (x02 + 1), ()), ())))
 none)
 none)
 (some (LO.out 0 ((x00, x01, x02, ()), ())))
theorem gl_s_l9Piece_0 (x00 : CVal) (x01 : Int) (x02 : Int) (R : LO k_s_l9Piece_0.T) (h : nl_s_l9Piece_0 CC LL x00 x01 x02 = some R) : LL f_s_l9Piece 0 lc_s_l9Piece_0 [] k_s_l9Piece_0 ((x00, x01, x02, ()), ()) = some R := loopW (Eq.trans (b := nl_s_l9Piece_0 CC LL x00 x01 x02) (by kernel_rfl) h)
noncomputable def nl_s_l11Table_4 (C : CallT) (L : LoopT) (x00 : CVal) (x01 : List CVal) (x03 : Int) (x04 : Int) (x1 : List CVal) : Option (LO k_s_l11Table_4.T) :=
 br (decide (x04 < x03))
 ((C f_s_l11Pair [AVal.lref 0 0, AVal.v (CVal.int i64 x03), AVal.v (CVal.int i64 x04)]
 [PB.arr (Md.mk true true 0) false 1 x1]).bind
 fun r =>
 r.2[0]?.bind fun y =>
 L f_s_l11Table 4 lc_s_l11Table_4 [] k_s_l11Table_4
 ((x00, x01, (), x03, i64.wrap (x04 + 1), ()), y, ()))
 (some (LO.out 4 ((x00, x01, (), x03, x04, ()), x1, ())))
theorem gl_s_l11Table_4 (x00 : CVal) (x01 : List CVal) (x03 : Int) (x04 : Int) (x1 : List CVal) (R : LO k_s_l11Table_4.T) (h : nl_s_l11Table_4 CC LL x00 x01 x03 x04 x1 = some R) : LL f_s_l11Table 4 lc_s_l11Table_4 [] k_s_l11Table_4 ((x00, x01, (), x03, x04, ()), x1, ()) = some R := loopW (Eq.trans (b := nl_s_l11Table_4 CC LL x00 x01 x03 x04 x1) (by kernel_rfl) h)
noncomputable def nl_i_Clashes_0 (C : CallT) (L : LoopT) (x01 : List CVal) (x02 : Int) (x03 : Int) (x1 : List CVal) : Option (LO k_i_Clashes_0.T) :=
 br (decide (x03 < x02))
 (br (decide (0 ≤ x03) && true)
 (x01[x03.toNat]?.bind fun y =>
 br (CVal.fits false 1 y)
 ((y.cell 0).bind fun c =>
 c.asSl.bind fun xs =>
 c.asSl.bind fun xs_1 =>
 (L f_i_Clashes 2 lc_i_Clashes_2 [] k_i_Clashes_2
 (((), x03, x01, x02, x03, xs_1, (↑xs.length : Int), 0, ()), x1,
 ())).bind
 fun r =>
 loK r (fun r => some (LO.ret r)) fun j p =>
 br (j == 2)
 (L f_i_Clashes 0 lc_i_Clashes_0 [] k_i_Clashes_0
 (((), p.fst.snd.snd.1, p.fst.snd.snd.snd.1,
 i64.wrap (p.fst.snd.snd.snd.snd.1 + 1), ()),
 p.snd.1, ()))
 (br (j == 1)
 (L f_i_Clashes 0 lc_i_Clashes_0 [] k_i_Clashes_0
 (((), p.fst.snd.snd.1, p.fst.snd.snd.snd.1,
 i64.wrap (p.fst.snd.snd.snd.snd.1 + 1), ()),
 p.snd.1, ()))
 (some
 (LO.out j
 (((), p.fst.snd.snd.1, p.fst.snd.snd.snd.1, p.fst.snd.snd.snd.snd.1, ()),
 p.snd.1, ())))))
 none)
 none)
 (some (LO.out 0 (((), x01, x02, x03, ()), x1, ())))
theorem gl_i_Clashes_0 (x01 : List CVal) (x02 : Int) (x03 : Int) (x1 : List CVal) (R : LO k_i_Clashes_0.T) (h : nl_i_Clashes_0 CC LL x01 x02 x03 x1 = some R) : LL f_i_Clashes 0 lc_i_Clashes_0 [] k_i_Clashes_0 (((), x01, x02, x03, ()), x1, ()) = some R := loopW (Eq.trans (b := nl_i_Clashes_0 CC LL x01 x02 x03 x1) (by kernel_rfl) h)
noncomputable def nl_s_l10Solve_2 (C : CallT) (L : LoopT) (x00 : CVal) (x02 : Int) (x10 : Int) (x11 : Int) (x12 : Int) (x13 : List CVal) (x15 : Bool) (x2 : List CVal) : Option (LO k_s_l10Solve_2.T) :=
 br (decide (0 ≤ x02))
 ((C f_s_l10Node [AVal.lptr 0 0, AVal.v (CVal.int i64 x02)]
 [PB.box
 [AVal.v (CVal.int i64 x10), AVal.v (CVal.int i64 x11), AVal.v (CVal.int i64 x12),
 AVal.v (CVal.sl x13), AVal.lref 1 0, AVal.v (CVal.bool x15)],
 PB.arr (Md.mk true false 0) true 1 x2]).bind
 fun r =>
 r.2[0]?.bind fun y =>
 r.2[1]?.bind fun y_1 =>
 y[0]?.bind fun y_2 =>
 y[1]?.bind fun y_3 =>
 y[2]?.bind fun y_4 =>
 y[3]?.bind fun y_5 =>
 y[4]?.bind fun y_6 =>
 y[5]?.bind fun y =>
 y_6.asSl.bind fun xs =>
 (CVal.asInt i64 y_2).bind fun n =>
 (CVal.asInt i64 y_3).bind fun n_1 =>
 (CVal.asInt i64 y_4).bind fun n_2 =>
 y_5.asSl.bind fun xs_1 =>
 y.asBool.bind fun b =>
 L f_s_l10Solve 2 lc_s_l10Solve_2 [] k_s_l10Solve_2
 ((x00, (), i64.wrap (x02 - 1), ()),
 (n, n_1, n_2, xs_1, (), b, ()), xs, ()))
 (some
 (LO.out 2
 ((x00, (), x02, ()), (x10, x11, x12, x13, (), x15, ()), x2, ())))
theorem gl_s_l10Solve_2 (x00 : CVal) (x02 : Int) (x10 : Int) (x11 : Int) (x12 : Int) (x13 : List CVal) (x15 : Bool) (x2 : List CVal) (R : LO k_s_l10Solve_2.T) (h : nl_s_l10Solve_2 CC LL x00 x02 x10 x11 x12 x13 x15 x2 = some R) : LL f_s_l10Solve 2 lc_s_l10Solve_2 [] k_s_l10Solve_2 ((x00, (), x02, ()), (x10, x11, x12, x13, (), x15, ()), x2, ()) = some R := loopW (Eq.trans (b := nl_s_l10Solve_2 CC LL x00 x02 x10 x11 x12 x13 x15 x2) (by kernel_rfl) h)
noncomputable def nl_i_clashes_14 (C : CallT) (L : LoopT) (x00 : CVal) (x03 : Int) (x04 : Int) (x05 : Int) (x06 : Int) (x07 : Int) (x2 : List CVal) : Option (LO k_i_clashes_14.T) :=
 br (decide (x07 < x06))
 ((C f_i_clashes_1
 [AVal.v (CVal.int i64 x03), AVal.v (CVal.int i64 x07), AVal.lptr 0 0]
 [PB.box [AVal.lref 1 0], PB.arr (Md.mk true false 0) true 1 x2]).bind
 fun r =>
 r.2[0]?.bind fun y =>
 r.2[1]?.bind fun y_1 =>
 y[0]?.bind fun y =>
 y.asSl.bind fun xs =>
 L f_i_clashes 14 lc_i_clashes_14 [] k_i_clashes_14
 ((x00, (), (), x03, x04, x05, x06, i64.wrap (x07 + 1), ()),
 ((), ()), xs, ()))
 (some
 (LO.out 14
 ((x00, (), (), x03, x04, x05, x06, x07, ()), ((), ()), x2, ())))
theorem gl_i_clashes_14 (x00 : CVal) (x03 : Int) (x04 : Int) (x05 : Int) (x06 : Int) (x07 : Int) (x2 : List CVal) (R : LO k_i_clashes_14.T) (h : nl_i_clashes_14 CC LL x00 x03 x04 x05 x06 x07 x2 = some R) : LL f_i_clashes 14 lc_i_clashes_14 [] k_i_clashes_14 ((x00, (), (), x03, x04, x05, x06, x07, ()), ((), ()), x2, ()) = some R := loopW (Eq.trans (b := nl_i_clashes_14 CC LL x00 x03 x04 x05 x06 x07 x2) (by kernel_rfl) h)
noncomputable def nl_i_clashes_6 (C : CallT) (L : LoopT) (x00 : CVal) (x03 : List CVal) (x04 : Int) (x06 : List CVal) (x07 : Int) (x08 : List CVal) (x09 : Int) (x010 : Int) (x011 : List CVal) (x012 : Int) (x013 : Int) (x014 : List CVal) (x015 : Int) (x016 : Int) (x2 : List CVal) (x30 : Int) (x31 : Int) (x32 : Int) (x33 : Int) (x34 : Int) (x35 : List CVal) (x36 : Int) : Option (LO k_i_clashes_6.T) :=
 br (decide (x016 < x015))
 (br (decide (0 ≤ x016) && true)
 (x014[x016.toNat]?.bind fun y =>
 br (CVal.fits false 1 y)
 ((y.cell 0).bind fun c =>
 (C f_i_clashes_1 [AVal.v (CVal.int i64 x07), AVal.v c, AVal.lptr 0 0]
 [PB.box [AVal.lref 1 0], PB.arr (Md.mk true false 0) true 1 x2]).bind
 fun r =>
 r.2[0]?.bind fun y =>
 r.2[1]?.bind fun y_1 =>
 y[0]?.bind fun y =>
 y.asSl.bind fun xs =>
 L f_i_clashes 6 lc_i_clashes_6 [] k_i_clashes_6
 ((x00, (), (), x03, x04, (), x06, x07, x08, x09, x010, x011, x012, x013,
 x014, x015, i64.wrap (x016 + 1), ()),
 ((), ()), xs, (x30, x31, x32, x33, x34, x35, x36, ()), ()))
 none)
 none)
 (some
 (LO.out 6
 ((x00, (), (), x03, x04, (), x06, x07, x08, x09, x010, x011, x012, x013, x014, x015, x016,
 ()),
 ((), ()), x2, (x30, x31, x32, x33, x34, x35, x36, ()), ())))
theorem gl_i_clashes_6 (x00 : CVal) (x03 : List CVal) (x04 : Int) (x06 : List CVal) (x07 : Int) (x08 : List CVal) (x09 : Int) (x010 : Int) (x011 : List CVal) (x012 : Int) (x013 : Int) (x014 : List CVal) (x015 : Int) (x016 : Int) (x2 : List CVal) (x30 : Int) (x31 : Int) (x32 : Int) (x33 : Int) (x34 : Int) (x35 : List CVal) (x36 : Int) (R : LO k_i_clashes_6.T) (h : nl_i_clashes_6 CC LL x00 x03 x04 x06 x07 x08 x09 x010 x011 x012 x013 x014 x015 x016 x2 x30 x31 x32 x33 x34 x35 x36 = some R) : LL f_i_clashes 6 lc_i_clashes_6 [] k_i_clashes_6 ((x00, (), (), x03, x04, (), x06, x07, x08, x09, x010, x011, x012, x013, x014, x015, x016, ()), ((), ()), x2,
 (x30, x31, x32, x33, x34, x35, x36, ()), ()) = some R := loopW (Eq.trans (b := nl_i_clashes_6 CC LL x00 x03 x04 x06 x07 x08 x09 x010 x011 x012 x013 x014 x015 x016 x2 x30 x31 x32 x33 x34 x35 x36) (by kernel_rfl) h)
noncomputable def nl_slices_IndexFunc_2_int_0 (C : CallT) (L : LoopT) (x00 : List CVal) (x01 : CVal) (x02 : Int) (x03 : Int) : Option (LO k_slices_IndexFunc_2_int_0.T) :=
 br (decide (x03 < x02))
 (br (decide (0 ≤ x03) && true)
 (x00[x03.toNat]?.bind fun y =>
 br (CVal.fits true 2 y)
 ((y.sub 0 2).bind fun y =>
 (C apId [AVal.v x01, AVal.v y] []).bind fun r =>
 r.1.asBool.bind fun b =>
 br b (some (LO.ret (CVal.int i64 x03, [])))
 (L f_slices_IndexFunc_2_int 0 lc_slices_IndexFunc_2_int_0 [] k_slices_IndexFunc_2_int_0
 ((x00, x01, x02, i64.wrap (x03 + 1), ()), ())))
 none)
 none)
 (some (LO.out 0 ((x00, x01, x02, x03, ()), ())))
theorem gl_slices_IndexFunc_2_int_0 (x00 : List CVal) (x01 : CVal) (x02 : Int) (x03 : Int) (R : LO k_slices_IndexFunc_2_int_0.T) (h : nl_slices_IndexFunc_2_int_0 CC LL x00 x01 x02 x03 = some R) : LL f_slices_IndexFunc_2_int 0 lc_slices_IndexFunc_2_int_0 [] k_slices_IndexFunc_2_int_0 ((x00, x01, x02, x03, ()), ()) = some R := loopW (Eq.trans (b := nl_slices_IndexFunc_2_int_0 CC LL x00 x01 x02 x03) (by kernel_rfl) h)
noncomputable def nl_slices_IndexFunc_Ins_0 (C : CallT) (L : LoopT) (x00 : List CVal) (x01 : CVal) (x02 : Int) (x03 : Int) : Option (LO k_slices_IndexFunc_Ins_0.T) :=
 br (decide (x03 < x02))
 (br (decide (0 ≤ x03) && true)
 (x00[x03.toNat]?.bind fun y =>
 br (CVal.fits true 7 y)
 ((y.sub 0 7).bind fun y =>
 (C apId [AVal.v x01, AVal.v y] []).bind fun r =>
 r.1.asBool.bind fun b =>
 br b (some (LO.ret (CVal.int i64 x03, [])))
 (L f_slices_IndexFunc_Ins 0 lc_slices_IndexFunc_Ins_0 [] k_slices_IndexFunc_Ins_0
 ((x00, x01, x02, i64.wrap (x03 + 1), ()), ())))
 none)
 none)
 (some (LO.out 0 ((x00, x01, x02, x03, ()), ())))
theorem gl_slices_IndexFunc_Ins_0 (x00 : List CVal) (x01 : CVal) (x02 : Int) (x03 : Int) (R : LO k_slices_IndexFunc_Ins_0.T) (h : nl_slices_IndexFunc_Ins_0 CC LL x00 x01 x02 x03 = some R) : LL f_slices_IndexFunc_Ins 0 lc_slices_IndexFunc_Ins_0 [] k_slices_IndexFunc_Ins_0 ((x00, x01, x02, x03, ()), ()) = some R := loopW (Eq.trans (b := nl_slices_IndexFunc_Ins_0 CC LL x00 x01 x02 x03) (by kernel_rfl) h)
noncomputable def nl_i_liveSets_0 (C : CallT) (L : LoopT) (x00 : CVal) (x02 : Int) (x03 : Int) (x1 : List CVal) : Option (LO k_i_liveSets_0.T) :=
 br (decide (x03 < x02))
 (x00.asFp.bind fun y =>
 (y.1.cell (y.2 + 2)).bind fun c =>
 c.asIdx.bind fun y =>
 c.asIdx.bind fun y_1 =>
 br (decide (0 ≤ y) && decide (y = y_1) && decide (y ≤ 1048576))
 (br (decide (x1.length + 1 ≤ 4294967296) && true && true)
 (L f_i_liveSets 0 lc_i_liveSets_0 [] k_i_liveSets_0
 ((x00, (), x02, i64.wrap (x03 + 1), ()),
 x1 ++ [CVal.sl (List.replicate y.toNat (CVal.bool false))], ()))
 none)
 none)
 (some (LO.out 0 ((x00, (), x02, x03, ()), x1, ())))
theorem gl_i_liveSets_0 (x00 : CVal) (x02 : Int) (x03 : Int) (x1 : List CVal) (R : LO k_i_liveSets_0.T) (h : nl_i_liveSets_0 CC LL x00 x02 x03 x1 = some R) : LL f_i_liveSets 0 lc_i_liveSets_0 [] k_i_liveSets_0 ((x00, (), x02, x03, ()), x1, ()) = some R := loopW (Eq.trans (b := nl_i_liveSets_0 CC LL x00 x02 x03 x1) (by kernel_rfl) h)
noncomputable def nl_s_Reads_0 (C : CallT) (L : LoopT) (x01 : List CVal) (x02 : Int) (x10 : Int) (x11 : Int) (x12 : Int) (x13 : Int) (x14 : Int) (x15 : List CVal) (x16 : Int) : Option (LO k_s_Reads_0.T) :=
 (br (decide (x02 < (↑x15.length : Int))) (some (decide (x10 = 8), ())) (some (false, ()))).bind
 fun y =>
 br y.1
 (br (decide (0 ≤ x02) && true)
 (x15[x02.toNat]?.bind fun y =>
 br (CVal.fits false 1 y)
 ((y.cell 0).bind fun c =>
 (C f_s_l10Add [AVal.v (CVal.sl x01), AVal.v c] []).bind fun r =>
 r.1.asSl.bind fun xs =>
 L f_s_Reads 0 lc_s_Reads_0 [] k_s_Reads_0
 (((), xs, i64.wrap (x02 + 1), ()),
 (x10, x11, x12, x13, x14, x15, x16, ()), ()))
 none)
 none)
 (some
 (LO.out 0
 (((), x01, x02, ()), (x10, x11, x12, x13, x14, x15, x16, ()), ())))
theorem gl_s_Reads_0 (x01 : List CVal) (x02 : Int) (x10 : Int) (x11 : Int) (x12 : Int) (x13 : Int) (x14 : Int) (x15 : List CVal) (x16 : Int) (R : LO k_s_Reads_0.T) (h : nl_s_Reads_0 CC LL x01 x02 x10 x11 x12 x13 x14 x15 x16 = some R) : LL f_s_Reads 0 lc_s_Reads_0 [] k_s_Reads_0 (((), x01, x02, ()), (x10, x11, x12, x13, x14, x15, x16, ()), ()) = some R := loopW (Eq.trans (b := nl_s_Reads_0 CC LL x01 x02 x10 x11 x12 x13 x14 x15 x16) (by kernel_rfl) h)
noncomputable def nl_i_wanted_0 (C : CallT) (L : LoopT) (x00 : Int) (x040 : CVal) (x05 : List CVal) (x06 : Int) (x07 : Int) (x10 : Int) (x11 : Int) (x12 : Int) (x13 : List CVal) (x3 : List CVal) (x40 : Int) (x41 : Int) (x42 : Int) (x43 : Int) (x44 : Int) (x45 : List CVal) (x46 : Int) : Option (LO k_i_wanted_0.T) :=
 br (decide (x07 < x06))
 (br (decide (0 ≤ x07) && true)
 (x05[x07.toNat]?.bind fun y =>
 br (CVal.fits false 1 y)
 ((y.cell 0).bind fun c =>
 (C f_i_Writes
 [AVal.v
 (CVal.agg
 [CVal.int i64 x40, CVal.int i64 x41, CVal.int i64 x42,
 CVal.int i64 x43, CVal.int i64 x44, CVal.sl x45, CVal.int i64 x46])]
 []).bind
 fun r =>
 (C f_i_wanted_1 [AVal.v c, AVal.v r.1, AVal.v x040, AVal.lptr 0 0]
 [PB.box [AVal.lref 1 0], PB.arr (Md.mk true false 0) true 1 x3]).bind
 fun r =>
 r.2[0]?.bind fun y =>
 r.2[1]?.bind fun y_1 =>
 y[0]?.bind fun y =>
 y.asSl.bind fun xs =>
 L f_i_wanted 0 lc_i_wanted_0 [] k_i_wanted_0
 ((x00, (), (), (), (x040, ()), x05, x06,
 i64.wrap (x07 + 1), ()),
 (x10, x11, x12, x13, ()), ((), ()), xs,
 (x40, x41, x42, x43, x44, x45, x46, ()), ()))
 none)
 none)
 (some
 (LO.out 0
 ((x00, (), (), (), (x040, ()), x05, x06, x07, ()),
 (x10, x11, x12, x13, ()), ((), ()), x3, (x40, x41, x42, x43, x44, x45, x46, ()),
 ())))
theorem gl_i_wanted_0 (x00 : Int) (x040 : CVal) (x05 : List CVal) (x06 : Int) (x07 : Int) (x10 : Int) (x11 : Int) (x12 : Int) (x13 : List CVal) (x3 : List CVal) (x40 : Int) (x41 : Int) (x42 : Int) (x43 : Int) (x44 : Int) (x45 : List CVal) (x46 : Int) (R : LO k_i_wanted_0.T) (h : nl_i_wanted_0 CC LL x00 x040 x05 x06 x07 x10 x11 x12 x13 x3 x40 x41 x42 x43 x44 x45 x46 = some R) : LL f_i_wanted 0 lc_i_wanted_0 [] k_i_wanted_0 ((x00, (), (), (), (x040, ()), x05, x06, x07, ()), (x10, x11, x12, x13, ()), ((), ()), x3,
 (x40, x41, x42, x43, x44, x45, x46, ()), ()) = some R := loopW (Eq.trans (b := nl_i_wanted_0 CC LL x00 x040 x05 x06 x07 x10 x11 x12 x13 x3 x40 x41 x42 x43 x44 x45 x46) (by kernel_rfl) h)
noncomputable def nl_i_guardOf_0 (C : CallT) (L : LoopT) (x01 : List CVal) (x02 : Int) (x03 : Int) (x1 : List CVal) : Option (LO k_i_guardOf_0.T) :=
 br (decide (x03 < x02))
 (br (decide (0 ≤ x03) && true)
 (x01[x03.toNat]?.bind fun y =>
 br (CVal.fits true 7 y)
 ((y.sub 0 7).bind fun y =>
 br (CVal.isAggN 7 y)
 ((y.cell 0).bind fun c =>
 (y.cell 1).bind fun c_1 =>
 (y.cell 2).bind fun c_2 =>
 (y.cell 3).bind fun c_3 =>
 (y.cell 4).bind fun c_4 =>
 (y.cell 5).bind fun c_5 =>
 (y.cell 6).bind fun c_6 =>
 (CVal.asInt i64 c).bind fun n =>
 br (decide (n = 17))
 (br (decide (x1.length + 1 ≤ 4294967296) && true && true)
 (L f_i_guardOf 0 lc_i_guardOf_0 [] k_i_guardOf_0
 (((), x01, x02, i64.wrap (x03 + 1), ()),
 x1 ++ [CVal.int i64 x03], ()))
 none)
 ((CVal.asInt i64 c).bind fun n =>
 br (decide (n = 18))
 (br
 (decide
 (0 ≤
 bif
 decide
 (0 < i64.wrap ((↑x1.length : Int) - 1)) then
 i64.wrap ((↑x1.length : Int) - 1)
 else 0) &&
 decide
 ((bif
 decide
 (0 < i64.wrap ((↑x1.length : Int) - 1)) then
 i64.wrap ((↑x1.length : Int) - 1)
 else 0) ≤
 (↑x1.length : Int)) &&
 true)
 (L f_i_guardOf 0 lc_i_guardOf_0 [] k_i_guardOf_0
 (((), x01, x02, i64.wrap (x03 + 1), ()),
 List.take
 (bif
 decide
 (0 < i64.wrap ((↑x1.length : Int) - 1)) then
 i64.wrap ((↑x1.length : Int) - 1)
 else 0).toNat
 x1,
 ()))
 none)
 (L f_i_guardOf 0 lc_i_guardOf_0 [] k_i_guardOf_0
 (((), x01, x02, i64.wrap (x03 + 1), ()), x1,
 ()))))
 none)
 none)
 none)
 (some (LO.out 0 (((), x01, x02, x03, ()), x1, ())))
theorem gl_i_guardOf_0 (x01 : List CVal) (x02 : Int) (x03 : Int) (x1 : List CVal) (R : LO k_i_guardOf_0.T) (h : nl_i_guardOf_0 CC LL x01 x02 x03 x1 = some R) : LL f_i_guardOf 0 lc_i_guardOf_0 [] k_i_guardOf_0 (((), x01, x02, x03, ()), x1, ()) = some R := loopW (Eq.trans (b := nl_i_guardOf_0 CC LL x01 x02 x03 x1) (by kernel_rfl) h)
end Go.Proofs.Ytmjjaoffeajcbaa.Abs
