/- What the functions come to in the abstract machine. -/
import Derived.Test.YtmjjaoffeajcbaaL3Ann
import Derived.KernelRfl
set_option linter.unusedVariables false
set_option maxRecDepth 100000
namespace Go.Proofs.Ytmjjaoffeajcbaa.Abs
open Go Go.Proofs Go.IntKind
noncomputable def nf_s_Clashes (C : CallT) (L : LoopT) (a0 : Int) (a1 : Int) (a2 : Int) (a3 : List CVal) : Option Ret :=
 (C f_s_l9Piece
 [AVal.v (CVal.agg [CVal.int i64 a0, CVal.int i64 a1, CVal.int i64 a2, CVal.sl a3])]
 []).bind
 fun r =>
 r.1.asBool.bind fun b =>
 br (!b) (some (CVal.sl [], []))
 ((C f_s_l11Table
 [AVal.v (CVal.agg [CVal.int i64 a0, CVal.int i64 a1, CVal.int i64 a2, CVal.sl a3])]
 []).bind
 fun r =>
 r.1.asSl.bind fun xs =>
 (L f_s_Clashes 0 lc_s_Clashes_0 [] k_s_Clashes_0
 (((CVal.agg [CVal.int i64 a0, CVal.int i64 a1, CVal.int i64 a2, CVal.sl a3]).fp
 0,
 (), xs, 0, ()),
 [], ())).bind
 fun r => loK r (fun r => some r) fun j p => br (j == 0) (some (CVal.sl p.snd.1, [])) none)
theorem go_s_Clashes (a0 : Int) (a1 : Int) (a2 : Int) (a3 : List CVal) (R : Ret) (h : nf_s_Clashes CC LL a0 a1 a2 a3 = some R) : CC f_s_Clashes [AVal.v (CVal.agg [CVal.int i64 a0, CVal.int i64 a1, CVal.int i64 a2, CVal.sl a3])] [] = some R := fnW (by decide) rfl (Eq.trans (b := nf_s_Clashes CC LL a0 a1 a2 a3) (by kernel_rfl) h)
noncomputable def nf_l_markIntA2S (C : CallT) (L : LoopT) (a : List CVal) (b : Int) : Option Ret :=
 (L f_l_markIntA2S 0 lc_l_markIntA2S_0 [PSh.arr (Md.mk true true 0) false 2] k_l_markIntA2S_0
 (((), b, 0, ()), a, ())).bind
 fun r =>
 loK r (fun r => some r) fun j p => br (j == 0) (some (CVal.int i64 p.fst.snd.1, [p.snd.1])) none
theorem go_l_markIntA2S (a : List CVal) (b : Int) (R : Ret) (h : nf_l_markIntA2S CC LL a b = some R) : CC f_l_markIntA2S [AVal.lref 0 0, AVal.v (CVal.int i64 b)] [PB.arr (Md.mk true true 0) false 2 a] = some R := fnW (by decide) rfl (Eq.trans (b := nf_l_markIntA2S CC LL a b) (by kernel_rfl) h)
noncomputable def nf_s_l11Table (C : CallT) (L : LoopT) (a0 : Int) (a1 : Int) (a2 : Int) (a3 : List CVal) : Option Ret :=
 (C f_s_l10Solve
 [AVal.v (CVal.agg [CVal.int i64 a0, CVal.int i64 a1, CVal.int i64 a2, CVal.sl a3])]
 []).bind
 fun r =>
 r.1.asFp.bind fun y =>
 (y.1.cell (y.2 + 4)).bind fun c =>
 c.asSl.bind fun xs =>
 (L f_s_l11Table 0 lc_s_l11Table_0 [] k_s_l11Table_0
 (((CVal.agg [CVal.int i64 a0, CVal.int i64 a1, CVal.int i64 a2, CVal.sl a3]).fp
 0,
 xs, (), 0, ()),
 [], ())).bind
 fun r =>
 loK r (fun r => some r) fun j p =>
 br (j == 0)
 ((L f_s_l11Table 2 lc_s_l11Table_2 [] k_s_l11Table_2
 ((p.fst.1, p.fst.snd.1, (), 0, ()), p.snd.1, ())).bind
 fun r =>
 loK r (fun r => some r) fun j p =>
 br (j == 2)
 ((L f_s_l11Table 6 lc_s_l11Table_6 [] k_s_l11Table_6
 ((p.fst.1, p.fst.snd.1, (), 0, ()), p.snd.1, ())).bind
 fun r => loK r (fun r => some r) fun j p => br (j == 6) (some (CVal.sl p.snd.1, [])) none)
 none)
 none
theorem go_s_l11Table (a0 : Int) (a1 : Int) (a2 : Int) (a3 : List CVal) (R : Ret) (h : nf_s_l11Table CC LL a0 a1 a2 a3 = some R) : CC f_s_l11Table [AVal.v (CVal.agg [CVal.int i64 a0, CVal.int i64 a1, CVal.int i64 a2, CVal.sl a3])] [] = some R := fnW (by decide) rfl (Eq.trans (b := nf_s_l11Table CC LL a0 a1 a2 a3) (by kernel_rfl) h)
noncomputable def nf_l_markInsS (C : CallT) (L : LoopT) (a : List CVal) (b : Int) : Option Ret :=
 (L f_l_markInsS 0 lc_l_markInsS_0 [PSh.arr (Md.mk true true 0) false 7] k_l_markInsS_0
 (((), b, 0, ()), a, ())).bind
 fun r =>
 loK r (fun r => some r) fun j p => br (j == 0) (some (CVal.int i64 p.fst.snd.1, [p.snd.1])) none
theorem go_l_markInsS (a : List CVal) (b : Int) (R : Ret) (h : nf_l_markInsS CC LL a b = some R) : CC f_l_markInsS [AVal.lref 0 0, AVal.v (CVal.int i64 b)] [PB.arr (Md.mk true true 0) false 7 a] = some R := fnW (by decide) rfl (Eq.trans (b := nf_l_markInsS CC LL a b) (by kernel_rfl) h)
noncomputable def nf_s_l10Solve (C : CallT) (L : LoopT) (a0 : Int) (a1 : Int) (a2 : Int) (a3 : List CVal) : Option Ret :=
 (C f_s_l10New
 [AVal.v (CVal.agg [CVal.int i64 a0, CVal.int i64 a1, CVal.int i64 a2, CVal.sl a3])]
 []).bind
 fun r =>
 r.1.asFp.bind fun y =>
 br (decide (y.2 = 0) && CVal.isAggN 6 y.1)
 ((y.1.cell 0).bind fun c =>
 (y.1.cell 1).bind fun c_1 =>
 (y.1.cell 2).bind fun c_2 =>
 (y.1.cell 3).bind fun c_3 =>
 (y.1.cell 4).bind fun c_4 =>
 (y.1.cell 5).bind fun c_5 =>
 c_4.asSl.bind fun xs =>
 (CVal.asInt i64 c).bind fun n =>
 (CVal.asInt i64 c_1).bind fun n_1 =>
 (CVal.asInt i64 c_2).bind fun n_2 =>
 c_3.asSl.bind fun xs_1 =>
 (L f_s_l10Solve 0 lc_s_l10Solve_0 [] k_s_l10Solve_0
 (((CVal.agg
 [CVal.int i64 a0, CVal.int i64 a1, CVal.int i64 a2,
 CVal.sl a3]).fp
 0,
 (), ()),
 (n, n_1, n_2, xs_1, (), true, ()), xs, ())).bind
 fun r =>
 loK r (fun r => some r) fun j p =>
 br (j == 0)
 (some
 ((CVal.agg
 [CVal.int i64 p.snd.fst.1, CVal.int i64 p.snd.fst.snd.1,
 CVal.int i64 p.snd.fst.snd.snd.1, CVal.sl p.snd.fst.snd.snd.snd.1,
 CVal.sl p.snd.snd.1, CVal.bool p.snd.fst.snd.snd.snd.snd.snd.1]).fp
 0,
 []))
 none)
 none
theorem go_s_l10Solve (a0 : Int) (a1 : Int) (a2 : Int) (a3 : List CVal) (R : Ret) (h : nf_s_l10Solve CC LL a0 a1 a2 a3 = some R) : CC f_s_l10Solve [AVal.v (CVal.agg [CVal.int i64 a0, CVal.int i64 a1, CVal.int i64 a2, CVal.sl a3])] [] = some R := fnW (by decide) rfl (Eq.trans (b := nf_s_l10Solve CC LL a0 a1 a2 a3) (by kernel_rfl) h)
noncomputable def nf_i_in (C : CallT) (L : LoopT) (a : Int) (b : Int) (c : Int) : Option Ret :=
 (br (decide (b ≤ a)) (some (decide (a ≤ c), ())) (some (false, ()))).bind fun y =>
 some (CVal.bool y.1, [])
theorem go_i_in (a : Int) (b : Int) (c : Int) (R : Ret) (h : nf_i_in CC LL a b c = some R) : CC f_i_in [AVal.v (CVal.int i64 a), AVal.v (CVal.int i64 b), AVal.v (CVal.int i64 c)] [] = some R := fnW (by decide) rfl (Eq.trans (b := nf_i_in CC LL a b c) (by kernel_rfl) h)
noncomputable def nf_i_things (C : CallT) (L : LoopT) (a : List CVal) : Option Ret :=
 (L f_i_things 0 lc_i_things_0 [] k_i_things_0
 (((), a, (↑a.length : Int), 0, ()), [], ())).bind
 fun r => loK r (fun r => some r) fun j p => br (j == 0) (some (CVal.sl p.snd.1, [])) none
theorem go_i_things (a : List CVal) (R : Ret) (h : nf_i_things CC LL a = some R) : CC f_i_things [AVal.v (CVal.sl a)] [] = some R := fnW (by decide) rfl (Eq.trans (b := nf_i_things CC LL a) (by kernel_rfl) h)
noncomputable def nf_l_markIntS (C : CallT) (L : LoopT) (a : List CVal) (b : Int) : Option Ret :=
 (L f_l_markIntS 0 lc_l_markIntS_0 [PSh.arr (Md.mk true true 0) false 1] k_l_markIntS_0
 (((), b, 0, ()), a, ())).bind
 fun r =>
 loK r (fun r => some r) fun j p => br (j == 0) (some (CVal.int i64 p.fst.snd.1, [p.snd.1])) none
theorem go_l_markIntS (a : List CVal) (b : Int) (R : Ret) (h : nf_l_markIntS CC LL a b = some R) : CC f_l_markIntS [AVal.lref 0 0, AVal.v (CVal.int i64 b)] [PB.arr (Md.mk true true 0) false 1 a] = some R := fnW (by decide) rfl (Eq.trans (b := nf_l_markIntS CC LL a b) (by kernel_rfl) h)
noncomputable def nf_s_l10New (C : CallT) (L : LoopT) (a0 : Int) (a1 : Int) (a2 : Int) (a3 : List CVal) : Option Ret :=
 (L f_s_l10New 0 lc_s_l10New_0 [] k_s_l10New_0
 (((CVal.agg [CVal.int i64 a0, CVal.int i64 a1, CVal.int i64 a2, CVal.sl a3]).fp 0,
 (), 0, ()),
 (a0, a1, a2, a3, (), false, ()), [], ())).bind
 fun r =>
 loK r (fun r => some r) fun j p =>
 br (j == 0)
 (some
 ((CVal.agg
 [CVal.int i64 p.snd.fst.1, CVal.int i64 p.snd.fst.snd.1,
 CVal.int i64 p.snd.fst.snd.snd.1, CVal.sl p.snd.fst.snd.snd.snd.1, CVal.sl p.snd.snd.1,
 CVal.bool p.snd.fst.snd.snd.snd.snd.snd.1]).fp
 0,
 []))
 none
theorem go_s_l10New (a0 : Int) (a1 : Int) (a2 : Int) (a3 : List CVal) (R : Ret) (h : nf_s_l10New CC LL a0 a1 a2 a3 = some R) : CC f_s_l10New [AVal.v (CVal.agg [CVal.int i64 a0, CVal.int i64 a1, CVal.int i64 a2, CVal.sl a3])] [] = some R := fnW (by decide) rfl (Eq.trans (b := nf_s_l10New CC LL a0 a1 a2 a3) (by kernel_rfl) h)
noncomputable def nf_slices_Equal_bool (C : CallT) (L : LoopT) (a : List CVal) (b : List CVal) : Option Ret :=
 br (!decide ((↑a.length : Int) = (↑b.length : Int))) (some (CVal.bool false, []))
 ((L f_slices_Equal_bool 0 lc_slices_Equal_bool_0 [] k_slices_Equal_bool_0
 ((a, b, (↑a.length : Int), 0, ()), ())).bind
 fun r => loK r (fun r => some r) fun j p => br (j == 0) (some (CVal.bool true, [])) none)
theorem go_slices_Equal_bool (a : List CVal) (b : List CVal) (R : Ret) (h : nf_slices_Equal_bool CC LL a b = some R) : CC f_slices_Equal_bool [AVal.v (CVal.sl a), AVal.v (CVal.sl b)] [] = some R := fnW (by decide) rfl (Eq.trans (b := nf_slices_Equal_bool CC LL a b) (by kernel_rfl) h)
noncomputable def nf_s_l10Set (C : CallT) (L : LoopT) (a00 : Int) (a01 : Int) (a02 : Int) (a03 : List CVal) (a1 : List CVal) (a2 : Bool) (b : Int) (c : Int) : Option Ret :=
 br (decide (0 ≤ b) && true)
 (br (decide (b.toNat < a1.length) && true)
 (a1[b.toNat]?.bind fun y =>
 (y.cell 0).bind fun c_1 =>
 c_1.asSl.bind fun xs =>
 br (decide (0 ≤ c) && true)
 ((a1[b.toNat]?.bind fun y => (y.cell 0).bind fun c => c.asSl).bind fun y =>
 br (decide (c.toNat < y.length))
 ((a1[b.toNat]?.bind fun y => (y.cell 0).bind fun c => c.asSl).bind fun y =>
 y[c.toNat]?.bind fun y =>
 y.asBool.bind fun b_1 =>
 br (!b_1)
 (br (decide (0 ≤ b) && true)
 (br (decide (b.toNat < a1.length) && true)
 (a1[b.toNat]?.bind fun y =>
 (y.cell 0).bind fun c_2 =>
 c_2.asSl.bind fun xs =>
 br (decide (0 ≤ c) && true)
 ((a1[b.toNat]?.bind fun y => (y.cell 0).bind fun c => c.asSl).bind fun y =>
 br (decide (c.toNat < y.length))
 (a1[b.toNat]?.bind fun y =>
 (y.cell 0).bind fun c_3 =>
 c_3.asSl.bind fun xs =>
 xs[c.toNat]?.bind fun y_1 =>
 br (CVal.fitsF false [CK.bool] y_1)
 (some
 (CVal.tup [],
 [[CVal.int i64 a00, CVal.int i64 a01,
 CVal.int i64 a02, CVal.sl a03,
 CVal.sl
 (a1.set b.toNat
 (y.putCell 0
 (CVal.sl (xs.set c.toNat (CVal.bool true))))),
 CVal.bool true],
 []]))
 none)
 none)
 none)
 none)
 none)
 (some
 (CVal.tup [],
 [[CVal.int i64 a00, CVal.int i64 a01, CVal.int i64 a02, CVal.sl a03,
 CVal.sl a1, CVal.bool a2],
 []])))
 none)
 none)
 none)
 none
theorem go_s_l10Set (a00 : Int) (a01 : Int) (a02 : Int) (a03 : List CVal) (a1 : List CVal) (a2 : Bool) (b : Int) (c : Int) (R : Ret) (h : nf_s_l10Set CC LL a00 a01 a02 a03 a1 a2 b c = some R) : CC f_s_l10Set [AVal.lptr 0 0, AVal.v (CVal.int i64 b), AVal.v (CVal.int i64 c)] [PB.box
 [AVal.v (CVal.int i64 a00), AVal.v (CVal.int i64 a01), AVal.v (CVal.int i64 a02),
 AVal.v (CVal.sl a03), AVal.lref 1 0, AVal.v (CVal.bool a2)],
 PB.arr (Md.mk true false 0) true 1 a1] = some R := fnW (by decide) rfl (Eq.trans (b := nf_s_l10Set CC LL a00 a01 a02 a03 a1 a2 b c) (by kernel_rfl) h)
noncomputable def nf_i_numOk (C : CallT) (L : LoopT) (a0 : Int) (a1 : Int) (a2 : Int) (a3 : Int) (a4 : Int) (a5 : List CVal) (a6 : Int) : Option Ret :=
 br (decide (a0 = 1))
 ((C f_i_in
 [AVal.v (CVal.int i64 a4), AVal.v (CVal.int i64 (-1000000 : Int)),
 AVal.v (CVal.int i64 1000000)]
 []).bind
 fun r => some (r.1, []))
 (br (decide (a0 = 2))
 ((C f_i_in
 [AVal.v (CVal.int i64 a4), AVal.v (CVal.int i64 0),
 AVal.v (CVal.int i64 1)]
 []).bind
 fun r => some (r.1, []))
 (br (decide (a0 = 5))
 ((C f_i_in
 [AVal.v (CVal.int i64 a4), AVal.v (CVal.int i64 1),
 AVal.v (CVal.int i64 5)]
 []).bind
 fun r => some (r.1, []))
 (br (decide (a0 = 8))
 (((C f_i_in
 [AVal.v (CVal.int i64 a4), AVal.v (CVal.int i64 0),
 AVal.v (CVal.int i64 149)]
 []).bind
 fun r =>
 r.1.asBool.bind fun b =>
 br b (some (decide ((↑a5.length : Int) < 100), ())) (some (false, ()))).bind
 fun y => some (CVal.bool y.1, []))
 (some (CVal.bool (decide (a4 = 0)), [])))))
theorem go_i_numOk (a0 : Int) (a1 : Int) (a2 : Int) (a3 : Int) (a4 : Int) (a5 : List CVal) (a6 : Int) (R : Ret) (h : nf_i_numOk CC LL a0 a1 a2 a3 a4 a5 a6 = some R) : CC f_i_numOk [AVal.v
 (CVal.agg
 [CVal.int i64 a0, CVal.int i64 a1, CVal.int i64 a2, CVal.int i64 a3,
 CVal.int i64 a4, CVal.sl a5, CVal.int i64 a6])] [] = some R := fnW (by decide) rfl (Eq.trans (b := nf_i_numOk CC LL a0 a1 a2 a3 a4 a5 a6) (by kernel_rfl) h)
noncomputable def nf_i_raises (C : CallT) (L : LoopT) (a : Int) : Option Ret :=
 br (decide (a = 5)) (some (CVal.bool true, []))
 (br (decide (a = 14)) (some (CVal.bool true, []))
 (br (decide (a = 16)) (some (CVal.bool true, []))
 (br (decide (a = 9)) (some (CVal.bool true, []))
 (br (decide (a = 10)) (some (CVal.bool true, []))
 (br (decide (a = 11)) (some (CVal.bool true, []))
 (br (decide (a = 12)) (some (CVal.bool true, [])) (some (CVal.bool false, []))))))))
theorem go_i_raises (a : Int) (R : Ret) (h : nf_i_raises CC LL a = some R) : CC f_i_raises [AVal.v (CVal.int i64 a)] [] = some R := fnW (by decide) rfl (Eq.trans (b := nf_i_raises CC LL a) (by kernel_rfl) h)
noncomputable def nf_slices_IndexFunc_int (C : CallT) (L : LoopT) (a : List CVal) (b : CVal) : Option Ret :=
 (L f_slices_IndexFunc_int 0 lc_slices_IndexFunc_int_0 [] k_slices_IndexFunc_int_0
 ((a, b, (↑a.length : Int), 0, ()), ())).bind
 fun r => loK r (fun r => some r) fun j p => br (j == 0) (some (CVal.int i64 (-1 : Int), [])) none
theorem go_slices_IndexFunc_int (a : List CVal) (b : CVal) (R : Ret) (h : nf_slices_IndexFunc_int CC LL a b = some R) : CC f_slices_IndexFunc_int [AVal.v (CVal.sl a), AVal.v b] [] = some R := fnW (by decide) rfl (Eq.trans (b := nf_slices_IndexFunc_int CC LL a b) (by kernel_rfl) h)
noncomputable def nl_i_Clashes_0 (C : CallT) (L : LoopT) (x01 : List CVal) (x02 : Int) (x03 : Int) (x1 : List CVal) : Option (LO k_i_Clashes_0.T) :=
 br (decide (x03 < x02))
 (br (decide (0 ≤ x03) && true)
 (x01[x03.toNat]?.bind fun y =>
 br (CVal.fits false 1 y)
 ((y.cell 0).bind fun c =>
 c.asSl.bind fun xs =>
 c.asSl.bind fun xs_1 =>
 (L f_i_Clashes 2 lc_i_Clashes_2 [] k_i_Clashes_2
 (((), x03, x01, x02, x03, xs_1, (↑xs.length : Int), 0, ()), x1,
 ())).bind
 fun r =>
 loK r (fun r => some (LO.ret r)) fun j p =>
 br (j == 2)
 (L f_i_Clashes 0 lc_i_Clashes_0 [] k_i_Clashes_0
 (((), p.fst.snd.snd.1, p.fst.snd.snd.snd.1,
 i64.wrap (p.fst.snd.snd.snd.snd.1 + 1), ()),
 p.snd.1, ()))
 (br (j == 1)
 (L f_i_Clashes 0 lc_i_Clashes_0 [] k_i_Clashes_0
 (((), p.fst.snd.snd.1, p.fst.snd.snd.snd.1,
 i64.wrap (p.fst.snd.snd.snd.snd.1 + 1), ()),
 p.snd.1, ()))
 (some
 (LO.out j
 (((), p.fst.snd.snd.1, p.fst.snd.snd.snd.1, p.fst.snd.snd.snd.snd.1, ()),
 p.snd.1, ())))))
 none)
 none)
 (some (LO.out 0 (((), x01, x02, x03, ()), x1, ())))
theorem gl_i_Clashes_0 (x01 : List CVal) (x02 : Int) (x03 : Int) (x1 : List CVal) (R : LO k_i_Clashes_0.T) (h : nl_i_Clashes_0 CC LL x01 x02 x03 x1 = some R) : LL f_i_Clashes 0 lc_i_Clashes_0 [] k_i_Clashes_0 (((), x01, x02, x03, ()), x1, ()) = some R := loopW (Eq.trans (b := nl_i_Clashes_0 CC LL x01 x02 x03 x1) (by kernel_rfl) h)
noncomputable def nl_l_heldIntA2S_0 (C : CallT) (L : LoopT) (x00 : List CVal) (x01 : Int) (x02 : Int) : Option (LO k_l_heldIntA2S_0.T) :=
 br (decide (x02 < (↑x00.length : Int)))
 ((L f_l_heldIntA2S 2 lc_l_heldIntA2S_2 [] k_l_heldIntA2S_2
 ((x00, x01, x02, 0, ()), ())).bind
 fun r =>
 loK r (fun r => some (LO.ret r)) fun j p =>
 br (j == 2)
 (L f_l_heldIntA2S 0 lc_l_heldIntA2S_0 [] k_l_heldIntA2S_0
 ((p.fst.1, p.fst.snd.1, i64.wrap (p.fst.snd.snd.1 + 1), ()), ()))
 (br (j == 1)
 (L f_l_heldIntA2S 0 lc_l_heldIntA2S_0 [] k_l_heldIntA2S_0
 ((p.fst.1, p.fst.snd.1, i64.wrap (p.fst.snd.snd.1 + 1), ()), ()))
 (some (LO.out j ((p.fst.1, p.fst.snd.1, p.fst.snd.snd.1, ()), ())))))
 (some (LO.out 0 ((x00, x01, x02, ()), ())))
theorem gl_l_heldIntA2S_0 (x00 : List CVal) (x01 : Int) (x02 : Int) (R : LO k_l_heldIntA2S_0.T) (h : nl_l_heldIntA2S_0 CC LL x00 x01 x02 = some R) : LL f_l_heldIntA2S 0 lc_l_heldIntA2S_0 [] k_l_heldIntA2S_0 ((x00, x01, x02, ()), ()) = some R := loopW (Eq.trans (b := nl_l_heldIntA2S_0 CC LL x00 x01 x02) (by kernel_rfl) h)
noncomputable def nl_s_l11Table_8 (C : CallT) (L : LoopT) (x00 : CVal) (x01 : List CVal) (x03 : Int) (x04 : Int) (x06 : Int) (x1 : List CVal) (x2 : List CVal) : Option (LO k_s_l11Table_8.T) :=
 (br (decide (x06 < (↑x2.length : Int))) (some (decide (0 ≤ x04), ())) (some (false, ()))).bind
 fun y =>
 br y.1
 ((L f_s_l11Table 10 lc_s_l11Table_10 [] k_s_l11Table_10
 ((x00, x01, (), x03, x04, (), x06, 0, ()), x1, x2, ())).bind
 fun r =>
 loK r (fun r => some (LO.ret r)) fun j p =>
 br (j == 10)
 (L f_s_l11Table 8 lc_s_l11Table_8 [] k_s_l11Table_8
 ((p.fst.1, p.fst.snd.1, (), p.fst.snd.snd.snd.1, p.fst.snd.snd.snd.snd.1, (),
 i64.wrap (p.fst.snd.snd.snd.snd.snd.snd.1 + 1), ()),
 p.snd.1, p.snd.snd.1, ()))
 (br (j == 9)
 (L f_s_l11Table 8 lc_s_l11Table_8 [] k_s_l11Table_8
 ((p.fst.1, p.fst.snd.1, (), p.fst.snd.snd.snd.1, p.fst.snd.snd.snd.snd.1, (),
 i64.wrap (p.fst.snd.snd.snd.snd.snd.snd.1 + 1), ()),
 p.snd.1, p.snd.snd.1, ()))
 (some
 (LO.out j
 ((p.fst.1, p.fst.snd.1, (), p.fst.snd.snd.snd.1, p.fst.snd.snd.snd.snd.1, (),
 p.fst.snd.snd.snd.snd.snd.snd.1, ()),
 p.snd.1, p.snd.snd.1, ())))))
 (some (LO.out 8 ((x00, x01, (), x03, x04, (), x06, ()), x1, x2, ())))
theorem gl_s_l11Table_8 (x00 : CVal) (x01 : List CVal) (x03 : Int) (x04 : Int) (x06 : Int) (x1 : List CVal) (x2 : List CVal) (R : LO k_s_l11Table_8.T) (h : nl_s_l11Table_8 CC LL x00 x01 x03 x04 x06 x1 x2 = some R) : LL f_s_l11Table 8 lc_s_l11Table_8 [] k_s_l11Table_8 ((x00, x01, (), x03, x04, (), x06, ()), x1, x2, ()) = some R := loopW (Eq.trans (b := nl_s_l11Table_8 CC LL x00 x01 x03 x04 x06 x1 x2) (by kernel_rfl) h)
noncomputable def nl_i_clashes_14 (C : CallT) (L : LoopT) (x00 : CVal) (x03 : Int) (x04 : Int) (x05 : Int) (x06 : Int) (x07 : Int) (x2 : List CVal) : Option (LO k_i_clashes_14.T) :=
 br (decide (x07 < x06))
 ((C f_i_clashes_1
 [AVal.v (CVal.int i64 x03), AVal.v (CVal.int i64 x07), AVal.lptr 0 0]
 [PB.box [AVal.lref 1 0], PB.arr (Md.mk true false 0) true 1 x2]).bind
 fun r =>
 r.2[0]?.bind fun y =>
 r.2[1]?.bind fun y_1 =>
 y[0]?.bind fun y =>
 y.asSl.bind fun xs =>
 L f_i_clashes 14 lc_i_clashes_14 [] k_i_clashes_14
 ((x00, (), (), x03, x04, x05, x06, i64.wrap (x07 + 1), ()),
 ((), ()), xs, ()))
 (some
 (LO.out 14
 ((x00, (), (), x03, x04, x05, x06, x07, ()), ((), ()), x2, ())))
theorem gl_i_clashes_14 (x00 : CVal) (x03 : Int) (x04 : Int) (x05 : Int) (x06 : Int) (x07 : Int) (x2 : List CVal) (R : LO k_i_clashes_14.T) (h : nl_i_clashes_14 CC LL x00 x03 x04 x05 x06 x07 x2 = some R) : LL f_i_clashes 14 lc_i_clashes_14 [] k_i_clashes_14 ((x00, (), (), x03, x04, x05, x06, x07, ()), ((), ()), x2, ()) = some R := loopW (Eq.trans (b := nl_i_clashes_14 CC LL x00 x03 x04 x05 x06 x07 x2) (by kernel_rfl) h)
noncomputable def nl_i_clashes_4 (C : CallT) (L : LoopT) (x00 : CVal) (x03 : List CVal) (x04 : Int) (x06 : List CVal) (x07 : List CVal) (x08 : Int) (x09 : Int) (x010 : List CVal) (x011 : Int) (x012 : Int) (x2 : List CVal) (x30 : Int) (x31 : Int) (x32 : Int) (x33 : Int) (x34 : Int) (x35 : List CVal) (x36 : Int) : Option (LO k_i_clashes_4.T) :=
 br (decide (x012 < x011))
 (br (decide (0 ≤ x012) && true)
 (x010[x012.toNat]?.bind fun y =>
 br (CVal.fits false 1 y)
 ((y.cell 0).bind fun c =>
 (CVal.asInt i64 c).bind fun n =>
 (L f_i_clashes 6 lc_i_clashes_6 [] k_i_clashes_6
 ((x00, (), (), x03, x04, (), x06, n, x07, x08, x09, x010, x011, x012, x06,
 (↑x06.length : Int), 0, ()),
 ((), ()), x2, (x30, x31, x32, x33, x34, x35, x36, ()), ())).bind
 fun r =>
 loK r (fun r => some (LO.ret r)) fun j p =>
 br (j == 6)
 (L f_i_clashes 4 lc_i_clashes_4 [] k_i_clashes_4
 ((p.fst.1, (), (), p.fst.snd.snd.snd.1, p.fst.snd.snd.snd.snd.1, (),
 p.fst.snd.snd.snd.snd.snd.snd.1, p.fst.snd.snd.snd.snd.snd.snd.snd.snd.1,
 p.fst.snd.snd.snd.snd.snd.snd.snd.snd.snd.1, p.fst.snd.snd.snd.snd.snd.snd.snd.snd.snd.snd.1,
 p.fst.snd.snd.snd.snd.snd.snd.snd.snd.snd.snd.snd.1,
 p.fst.snd.snd.snd.snd.snd.snd.snd.snd.snd.snd.snd.snd.1,
 i64.wrap (p.fst.snd.snd.snd.snd.snd.snd.snd.snd.snd.snd.snd.snd.snd.1 + 1),
 ()),
 ((), ()), p.snd.snd.1,
 (p.snd.snd.snd.fst.1, p.snd.snd.snd.fst.snd.1, p.snd.snd.snd.fst.snd.snd.1,
 p.snd.snd.snd.fst.snd.snd.snd.1, p.snd.snd.snd.fst.snd.snd.snd.snd.1,
 p.snd.snd.snd.fst.snd.snd.snd.snd.snd.1, p.snd.snd.snd.fst.snd.snd.snd.snd.snd.snd.1,
 ()),
 ()))
 (br (j == 5)
 (L f_i_clashes 4 lc_i_clashes_4 [] k_i_clashes_4
 ((p.fst.1, (), (), p.fst.snd.snd.snd.1, p.fst.snd.snd.snd.snd.1, (),
 p.fst.snd.snd.snd.snd.snd.snd.1, p.fst.snd.snd.snd.snd.snd.snd.snd.snd.1,
 p.fst.snd.snd.snd.snd.snd.snd.snd.snd.snd.1, p.fst.snd.snd.snd.snd.snd.snd.snd.snd.snd.snd.1,
 p.fst.snd.snd.snd.snd.snd.snd.snd.snd.snd.snd.snd.1,
 p.fst.snd.snd.snd.snd.snd.snd.snd.snd.snd.snd.snd.snd.1,
 i64.wrap (p.fst.snd.snd.snd.snd.snd.snd.snd.snd.snd.snd.snd.snd.snd.1 + 1),
 ()),
 ((), ()), p.snd.snd.1,
 (p.snd.snd.snd.fst.1, p.snd.snd.snd.fst.snd.1, p.snd.snd.snd.fst.snd.snd.1,
 p.snd.snd.snd.fst.snd.snd.snd.1, p.snd.snd.snd.fst.snd.snd.snd.snd.1,
 p.snd.snd.snd.fst.snd.snd.snd.snd.snd.1, p.snd.snd.snd.fst.snd.snd.snd.snd.snd.snd.1,
 ()),
 ()))
 (some
 (LO.out j
 ((p.fst.1, (), (), p.fst.snd.snd.snd.1, p.fst.snd.snd.snd.snd.1, (),
 p.fst.snd.snd.snd.snd.snd.snd.1, p.fst.snd.snd.snd.snd.snd.snd.snd.snd.1,
 p.fst.snd.snd.snd.snd.snd.snd.snd.snd.snd.1,
 p.fst.snd.snd.snd.snd.snd.snd.snd.snd.snd.snd.1,
 p.fst.snd.snd.snd.snd.snd.snd.snd.snd.snd.snd.snd.1,
 p.fst.snd.snd.snd.snd.snd.snd.snd.snd.snd.snd.snd.snd.1,
 p.fst.snd.snd.snd.snd.snd.snd.snd.snd.snd.snd.snd.snd.snd.1, ()),
 ((), ()), p.snd.snd.1,
 (p.snd.snd.snd.fst.1, p.snd.snd.snd.fst.snd.1, p.snd.snd.snd.fst.snd.snd.1,
 p.snd.snd.snd.fst.snd.snd.snd.1, p.snd.snd.snd.fst.snd.snd.snd.snd.1,
 p.snd.snd.snd.fst.snd.snd.snd.snd.snd.1, p.snd.snd.snd.fst.snd.snd.snd.snd.snd.snd.1,
 ()),
 ())))))
 none)
 none)
 (some
 (LO.out 4
 ((x00, (), (), x03, x04, (), x06, x07, x08, x09, x010, x011, x012, ()),
 ((), ()), x2, (x30, x31, x32, x33, x34, x35, x36, ()), ())))
theorem gl_i_clashes_4 (x00 : CVal) (x03 : List CVal) (x04 : Int) (x06 : List CVal) (x07 : List CVal) (x08 : Int) (x09 : Int) (x010 : List CVal) (x011 : Int) (x012 : Int) (x2 : List CVal) (x30 : Int) (x31 : Int) (x32 : Int) (x33 : Int) (x34 : Int) (x35 : List CVal) (x36 : Int) (R : LO k_i_clashes_4.T) (h : nl_i_clashes_4 CC LL x00 x03 x04 x06 x07 x08 x09 x010 x011 x012 x2 x30 x31 x32 x33 x34 x35 x36 = some R) : LL f_i_clashes 4 lc_i_clashes_4 [] k_i_clashes_4 ((x00, (), (), x03, x04, (), x06, x07, x08, x09, x010, x011, x012, ()), ((), ()), x2,
 (x30, x31, x32, x33, x34, x35, x36, ()), ()) = some R := loopW (Eq.trans (b := nl_i_clashes_4 CC LL x00 x03 x04 x06 x07 x08 x09 x010 x011 x012 x2 x30 x31 x32 x33 x34 x35 x36) (by kernel_rfl) h)
noncomputable def nl_l_markInsS_0 (C : CallT) (L : LoopT) (x01 : Int) (x02 : Int) (x1 : List CVal) : Option (LO k_l_markInsS_0.T) :=
 br (decide (x02 < (↑x1.length : Int)))
 (br (decide (0 ≤ x02) && true)
 (br (decide (x02.toNat < x1.length) && true)
 (x1[x02.toNat]?.bind fun y =>
 br (CVal.fits false 1 y)
 (br (decide (0 ≤ x02) && true)
 (br (decide (x02.toNat < (x1.set x02.toNat (CVal.int i64 x01)).length) && true)
 ((x1.set x02.toNat (CVal.int i64 x01))[x02.toNat]?.bind fun y =>
 br (y.isAgg && decide (2 ≤ y.cells.length))
 (br (decide (0 ≤ x02) && true)
 (br
 (decide
 (x02.toNat <
 ((x1.set x02.toNat (CVal.int i64 x01)).set x02.toNat
 (CVal.agg
 (splice y.cells 1
 [CVal.int i64 (i64.wrap (x01 + 1))]))).length) &&
 true)
 (((x1.set x02.toNat (CVal.int i64 x01)).set x02.toNat
 (CVal.agg
 (splice y.cells 1
 [CVal.int i64 (i64.wrap (x01 + 1))])))[x02.toNat]?.bind
 fun y_1 =>
 br (y_1.isAgg && decide (3 ≤ y_1.cells.length))
 (br (decide (0 ≤ x02) && true)
 (br
 (decide
 (x02.toNat <
 (((x1.set x02.toNat (CVal.int i64 x01)).set x02.toNat
 (CVal.agg
 (splice y.cells 1
 [CVal.int i64 (i64.wrap (x01 + 1))]))).set
 x02.toNat
 (CVal.agg
 (splice y_1.cells 2
 [CVal.int i64
 (i64.wrap
 (i64.wrap (x01 + 1) + 1))]))).length) &&
 true)
 ((((x1.set x02.toNat (CVal.int i64 x01)).set x02.toNat
 (CVal.agg
 (splice y.cells 1
 [CVal.int i64 (i64.wrap (x01 + 1))]))).set
 x02.toNat
 (CVal.agg
 (splice y_1.cells 2
 [CVal.int i64
 (i64.wrap
 (i64.wrap (x01 + 1) + 1))])))[x02.toNat]?.bind
 fun y_2 =>
 br (y_2.isAgg && decide (4 ≤ y_2.cells.length))
 (br (decide (0 ≤ x02) && true)
 (br
 (decide
 (x02.toNat <
 ((((x1.set x02.toNat (CVal.int i64 x01)).set x02.toNat
 (CVal.agg
 (splice y.cells 1
 [CVal.int i64
 (i64.wrap (x01 + 1))]))).set
 x02.toNat
 (CVal.agg
 (splice y_1.cells 2
 [CVal.int i64
 (i64.wrap
 (i64.wrap (x01 + 1) + 1))]))).set
 x02.toNat
 (CVal.agg
 (splice y_2.cells 3
 [CVal.int i64
 (i64.wrap
 (i64.wrap
 (i64.wrap (x01 + 1) + 1) +
 1))]))).length) &&
 true)
 (((((x1.set x02.toNat (CVal.int i64 x01)).set x02.toNat
 (CVal.agg
 (splice y.cells 1
 [CVal.int i64
 (i64.wrap (x01 + 1))]))).set
 x02.toNat
 (CVal.agg
 (splice y_1.cells 2
 [CVal.int i64
 (i64.wrap
 (i64.wrap (x01 + 1) + 1))]))).set
 x02.toNat
 (CVal.agg
 (splice y_2.cells 3
 [CVal.int i64
 (i64.wrap
 (i64.wrap
 (i64.wrap (x01 + 1) + 1) +
 1))])))[x02.toNat]?.bind
 fun y_3 =>
 br (y_3.isAgg && decide (5 ≤ y_3.cells.length))
 (br (decide (0 ≤ x02) && true)
 (br
 (decide
 (x02.toNat <
 (((((x1.set x02.toNat (CVal.int i64 x01)).set x02.toNat
 (CVal.agg
 (splice y.cells 1
 [CVal.int i64
 (i64.wrap (x01 + 1))]))).set
 x02.toNat
 (CVal.agg
 (splice y_1.cells 2
 [CVal.int i64
 (i64.wrap
 (i64.wrap (x01 + 1) +
 1))]))).set
 x02.toNat
 (CVal.agg
 (splice y_2.cells 3
 [CVal.int i64
 (i64.wrap
 (i64.wrap
 (i64.wrap (x01 + 1) +
 1) +
 1))]))).set
 x02.toNat
 (CVal.agg
 (splice y_3.cells 4
 [CVal.int i64
 (i64.wrap
 (i64.wrap
 (i64.wrap
 (i64.wrap (x01 + 1) +
 1) +
 1) +
 1))]))).length) &&
 true)
 ((((((x1.set x02.toNat (CVal.int i64 x01)).set x02.toNat
 (CVal.agg
 (splice y.cells 1
 [CVal.int i64
 (i64.wrap (x01 + 1))]))).set
 x02.toNat
 (CVal.agg
 (splice y_1.cells 2
 [CVal.int i64
 (i64.wrap
 (i64.wrap (x01 + 1) +
 1))]))).set
 x02.toNat
 (CVal.agg
 (splice y_2.cells 3
 [CVal.int i64
 (i64.wrap
 (i64.wrap
 (i64.wrap (x01 + 1) +
 1) +
 1))]))).set
 x02.toNat
 (CVal.agg
 (splice y_3.cells 4
 [CVal.int i64
 (i64.wrap
 (i64.wrap
 (i64.wrap
 (i64.wrap (x01 + 1) +
 1) +
 1) +
 1))])))[x02.toNat]?.bind
 fun y_4 =>
 (y_4.cell 5).bind fun c =>
 c.asSl.bind fun xs =>
 (((((x1.set x02.toNat (CVal.int i64 x01)).set x02.toNat
 (CVal.agg
 (splice y.cells 1
 [CVal.int i64
 (i64.wrap
 (x01 + 1))]))).set
 x02.toNat
 (CVal.agg
 (splice y_1.cells 2
 [CVal.int i64
 (i64.wrap
 (i64.wrap (x01 + 1) +
 1))]))).set
 x02.toNat
 (CVal.agg
 (splice y_2.cells 3
 [CVal.int i64
 (i64.wrap
 (i64.wrap
 (i64.wrap (x01 + 1) +
 1) +
 1))]))).set
 x02.toNat
 (CVal.agg
 (splice y_3.cells 4
 [CVal.int i64
 (i64.wrap
 (i64.wrap
 (i64.wrap
 (i64.wrap (x01 + 1) +
 1) +
 1) +
 1))])))[x02.toNat]?.bind
 fun y_5 =>
 (y_5.cell 5).bind fun c =>
 c.asSl.bind fun xs =>
 br (xs.all (CVal.fits false 1))
 ((C f_l_markIntS
 [AVal.lref 0 0,
 AVal.v
 (CVal.int i64
 (i64.wrap
 (i64.wrap
 (i64.wrap
 (i64.wrap
 (i64.wrap
 (x01 + 1) +
 1) +
 1) +
 1) +
 1)))]
 [PB.arr (Md.mk true true 0) false 1
 xs]).bind
 fun r =>
 r.2[0]?.bind fun y_6 =>
 br (decide (0 ≤ x02) && true)
 (br
 (decide
 (x02.toNat <
 ((((((x1.set x02.toNat
 (CVal.int i64
 x01)).set
 x02.toNat
 (CVal.agg
 (splice y.cells
 1
 [CVal.int i64
 (i64.wrap
 (x01 +
 (1 :
 Int)))]))).set
 x02.toNat
 (CVal.agg
 (splice y_1.cells 2
 [CVal.int i64
 (i64.wrap
 (i64.wrap
 (x01 +
 1) +
 (1 :
 Int)))]))).set
 x02.toNat
 (CVal.agg
 (splice y_2.cells 3
 [CVal.int i64
 (i64.wrap
 (i64.wrap
 (i64.wrap
 (x01 +
 1) +
 1) +
 1))]))).set
 x02.toNat
 (CVal.agg
 (splice y_3.cells 4
 [CVal.int i64
 (i64.wrap
 (i64.wrap
 (i64.wrap
 (i64.wrap
 (x01 +
 1) +
 1) +
 1) +
 1))]))).set
 x02.toNat
 (y_5.putCell 5
 (CVal.sl y_6))).length) &&
 true)
 (br (r.1.isFlat && true)
 ((CVal.asInt i64 r.1).bind fun n =>
 ((((((x1.set x02.toNat
 (CVal.int
 i64
 x01)).set
 x02.toNat
 (CVal.agg
 (splice y.cells
 1
 [CVal.int
 i64
 (i64.wrap
 (x01 +
 (1 :
 Int)))]))).set
 x02.toNat
 (CVal.agg
 (splice y_1.cells
 2
 [CVal.int i64
 (i64.wrap
 (i64.wrap
 (x01 +
 1) +
 (1 :
 Int)))]))).set
 x02.toNat
 (CVal.agg
 (splice y_2.cells 3
 [CVal.int i64
 (i64.wrap
 (i64.wrap
 (i64.wrap
 (x01 +
 1) +
 1) +
 1))]))).set
 x02.toNat
 (CVal.agg
 (splice y_3.cells 4
 [CVal.int i64
 (i64.wrap
 (i64.wrap
 (i64.wrap
 (i64.wrap
 (x01 +
 1) +
 1) +
 1) +
 1))]))).set
 x02.toNat
 (y_5.putCell 5
 (CVal.sl y_6)))[x02.toNat]?.bind
 fun y_7 =>
 br
 (y_7.isAgg &&
 decide (7 ≤ y_7.cells.length))
 ((CVal.asInt i64 r.1).bind
 fun n_1 =>
 L f_l_markInsS 0 lc_l_markInsS_0
 [PSh.arr (Md.mk true true 0)
 false 7]
 k_l_markInsS_0
 (((),
 i64.wrap (n_1 + 1),
 i64.wrap (x02 + 1),
 ()),
 ((((((x1.set x02.toNat
 (CVal.int
 i64
 x01)).set
 x02.toNat
 (CVal.agg
 (splice
 y.cells
 1
 [CVal.int
 i64
 (i64.wrap
 (x01 +
 (1 :
 Int)))]))).set
 x02.toNat
 (CVal.agg
 (splice y_1.cells
 2
 [CVal.int
 i64
 (i64.wrap
 (i64.wrap
 (x01 +
 (1 :
 Int)) +
 (1 :
 Int)))]))).set
 x02.toNat
 (CVal.agg
 (splice y_2.cells
 3
 [CVal.int
 i64
 (i64.wrap
 (i64.wrap
 (i64.wrap
 (x01 +
 (1 :
 Int)) +
 (1 :
 Int)) +
 (1 :
 Int)))]))).set
 x02.toNat
 (CVal.agg
 (splice y_3.cells
 4
 [CVal.int i64
 (i64.wrap
 (i64.wrap
 (i64.wrap
 (i64.wrap
 (x01 +
 (1 :
 Int)) +
 (1 :
 Int)) +
 1) +
 (1 :
 Int)))]))).set
 x02.toNat
 (y_5.putCell 5
 (CVal.sl y_6))).set
 x02.toNat
 (CVal.agg
 (splice y_7.cells 6
 [CVal.int i64 n])),
 ()))
 none)
 none)
 none)
 none)
 none)
 none)
 none)
 none)
 none)
 none)
 none)
 none)
 none)
 none)
 none)
 none)
 none)
 none)
 none)
 (br (y.isAgg && decide (1 ≤ y.cells.length))
 (br (decide (0 ≤ x02) && true)
 (br
 (decide
 (x02.toNat <
 (x1.set x02.toNat (CVal.agg (CVal.int i64 x01 :: List.drop 1 y.cells))).length) &&
 true)
 ((x1.set x02.toNat
 (CVal.agg (CVal.int i64 x01 :: List.drop 1 y.cells)))[x02.toNat]?.bind
 fun y_1 =>
 br (y_1.isAgg && decide (2 ≤ y_1.cells.length))
 (br (decide (0 ≤ x02) && true)
 (br
 (decide
 (x02.toNat <
 ((x1.set x02.toNat
 (CVal.agg (CVal.int i64 x01 :: List.drop 1 y.cells))).set
 x02.toNat
 (CVal.agg
 (splice y_1.cells 1
 [CVal.int i64 (i64.wrap (x01 + 1))]))).length) &&
 true)
 (((x1.set x02.toNat (CVal.agg (CVal.int i64 x01 :: List.drop 1 y.cells))).set
 x02.toNat
 (CVal.agg
 (splice y_1.cells 1
 [CVal.int i64 (i64.wrap (x01 + 1))])))[x02.toNat]?.bind
 fun y_2 =>
 br (y_2.isAgg && decide (3 ≤ y_2.cells.length))
 (br (decide (0 ≤ x02) && true)
 (br
 (decide
 (x02.toNat <
 (((x1.set x02.toNat
 (CVal.agg
 (CVal.int i64 x01 :: List.drop 1 y.cells))).set
 x02.toNat
 (CVal.agg
 (splice y_1.cells 1
 [CVal.int i64 (i64.wrap (x01 + 1))]))).set
 x02.toNat
 (CVal.agg
 (splice y_2.cells 2
 [CVal.int i64
 (i64.wrap
 (i64.wrap (x01 + 1) + 1))]))).length) &&
 true)
 ((((x1.set x02.toNat
 (CVal.agg
 (CVal.int i64 x01 :: List.drop 1 y.cells))).set
 x02.toNat
 (CVal.agg
 (splice y_1.cells 1
 [CVal.int i64 (i64.wrap (x01 + 1))]))).set
 x02.toNat
 (CVal.agg
 (splice y_2.cells 2
 [CVal.int i64
 (i64.wrap
 (i64.wrap (x01 + 1) + 1))])))[x02.toNat]?.bind
 fun y_3 =>
 br (y_3.isAgg && decide (4 ≤ y_3.cells.length))
 (br (decide (0 ≤ x02) && true)
 (br
 (decide
 (x02.toNat <
 ((((x1.set x02.toNat
 (CVal.agg
 (CVal.int i64 x01 ::
 List.drop 1 y.cells))).set
 x02.toNat
 (CVal.agg
 (splice y_1.cells 1
 [CVal.int i64
 (i64.wrap (x01 + 1))]))).set
 x02.toNat
 (CVal.agg
 (splice y_2.cells 2
 [CVal.int i64
 (i64.wrap
 (i64.wrap (x01 + 1) +
 1))]))).set
 x02.toNat
 (CVal.agg
 (splice y_3.cells 3
 [CVal.int i64
 (i64.wrap
 (i64.wrap
 (i64.wrap (x01 + 1) + 1) +
 1))]))).length) &&
 true)
 (((((x1.set x02.toNat
 (CVal.agg
 (CVal.int i64 x01 ::
 List.drop 1 y.cells))).set
 x02.toNat
 (CVal.agg
 (splice y_1.cells 1
 [CVal.int i64
 (i64.wrap (x01 + 1))]))).set
 x02.toNat
 (CVal.agg
 (splice y_2.cells 2
 [CVal.int i64
 (i64.wrap
 (i64.wrap (x01 + 1) + 1))]))).set
 x02.toNat
 (CVal.agg
 (splice y_3.cells 3
 [CVal.int i64
 (i64.wrap
 (i64.wrap
 (i64.wrap (x01 + 1) + 1) +
 1))])))[x02.toNat]?.bind
 fun y_4 =>
 br (y_4.isAgg && decide (5 ≤ y_4.cells.length))
 (br (decide (0 ≤ x02) && true)
 (br
 (decide
 (x02.toNat <
 (((((x1.set x02.toNat
 (CVal.agg
 (CVal.int i64 x01 ::
 List.drop 1 y.cells))).set
 x02.toNat
 (CVal.agg
 (splice y_1.cells 1
 [CVal.int i64
 (i64.wrap
 (x01 + 1))]))).set
 x02.toNat
 (CVal.agg
 (splice y_2.cells 2
 [CVal.int i64
 (i64.wrap
 (i64.wrap (x01 + 1) +
 1))]))).set
 x02.toNat
 (CVal.agg
 (splice y_3.cells 3
 [CVal.int i64
 (i64.wrap
 (i64.wrap
 (i64.wrap (x01 + 1) +
 1) +
 1))]))).set
 x02.toNat
 (CVal.agg
 (splice y_4.cells 4
 [CVal.int i64
 (i64.wrap
 (i64.wrap
 (i64.wrap
 (i64.wrap (x01 + 1) +
 1) +
 1) +
 1))]))).length) &&
 true)
 ((((((x1.set x02.toNat
 (CVal.agg
 (CVal.int i64 x01 ::
 List.drop 1 y.cells))).set
 x02.toNat
 (CVal.agg
 (splice y_1.cells 1
 [CVal.int i64
 (i64.wrap (x01 + 1))]))).set
 x02.toNat
 (CVal.agg
 (splice y_2.cells 2
 [CVal.int i64
 (i64.wrap
 (i64.wrap (x01 + 1) +
 1))]))).set
 x02.toNat
 (CVal.agg
 (splice y_3.cells 3
 [CVal.int i64
 (i64.wrap
 (i64.wrap
 (i64.wrap (x01 + 1) +
 1) +
 1))]))).set
 x02.toNat
 (CVal.agg
 (splice y_4.cells 4
 [CVal.int i64
 (i64.wrap
 (i64.wrap
 (i64.wrap
 (i64.wrap (x01 + 1) +
 1) +
 1) +
 1))])))[x02.toNat]?.bind
 fun y_5 =>
 (y_5.cell 5).bind fun c =>
 c.asSl.bind fun xs =>
 (((((x1.set x02.toNat
 (CVal.agg
 (CVal.int i64 x01 ::
 List.drop 1 y.cells))).set
 x02.toNat
 (CVal.agg
 (splice y_1.cells 1
 [CVal.int i64
 (i64.wrap
 (x01 + 1))]))).set
 x02.toNat
 (CVal.agg
 (splice y_2.cells 2
 [CVal.int i64
 (i64.wrap
 (i64.wrap (x01 + 1) +
 1))]))).set
 x02.toNat
 (CVal.agg
 (splice y_3.cells 3
 [CVal.int i64
 (i64.wrap
 (i64.wrap
 (i64.wrap (x01 + 1) +
 1) +
 1))]))).set
 x02.toNat
 (CVal.agg
 (splice y_4.cells 4
 [CVal.int i64
 (i64.wrap
 (i64.wrap
 (i64.wrap
 (i64.wrap (x01 + 1) +
 1) +
 1) +
 1))])))[x02.toNat]?.bind
 fun y_6 =>
 (y_6.cell 5).bind fun c =>
 c.asSl.bind fun xs =>
 br (xs.all (CVal.fits false 1))
 ((C f_l_markIntS
 [AVal.lref 0 0,
 AVal.v
 (CVal.int i64
 (i64.wrap
 (i64.wrap
 (i64.wrap
 (i64.wrap
 (i64.wrap
 (x01 + 1) +
 1) +
 1) +
 1) +
 1)))]
 [PB.arr (Md.mk true true 0) false 1
 xs]).bind
 fun r =>
 r.2[0]?.bind fun y_7 =>
 br (decide (0 ≤ x02) && true)
 (br
 (decide
 (x02.toNat <
 ((((((x1.set x02.toNat
 (CVal.agg
 (CVal.int
 i64
 x01 ::
 List.drop
 1
 y.cells))).set
 x02.toNat
 (CVal.agg
 (splice y_1.cells
 1
 [CVal.int
 i64
 (i64.wrap
 (x01 +
 (1 :
 Int)))]))).set
 x02.toNat
 (CVal.agg
 (splice y_2.cells
 2
 [CVal.int i64
 (i64.wrap
 (i64.wrap
 (x01 +
 1) +
 (1 :
 Int)))]))).set
 x02.toNat
 (CVal.agg
 (splice y_3.cells 3
 [CVal.int i64
 (i64.wrap
 (i64.wrap
 (i64.wrap
 (x01 +
 1) +
 1) +
 1))]))).set
 x02.toNat
 (CVal.agg
 (splice y_4.cells 4
 [CVal.int i64
 (i64.wrap
 (i64.wrap
 (i64.wrap
 (i64.wrap
 (x01 +
 1) +
 1) +
 1) +
 1))]))).set
 x02.toNat
 (y_6.putCell 5
 (CVal.sl y_7))).length) &&
 true)
 (br (r.1.isFlat && true)
 ((CVal.asInt i64 r.1).bind fun n =>
 ((((((x1.set x02.toNat
 (CVal.agg
 (CVal.int
 i64
 x01 ::
 List.drop
 1
 y.cells))).set
 x02.toNat
 (CVal.agg
 (splice y_1.cells
 1
 [CVal.int
 i64
 (i64.wrap
 (x01 +
 (1 :
 Int)))]))).set
 x02.toNat
 (CVal.agg
 (splice y_2.cells
 2
 [CVal.int i64
 (i64.wrap
 (i64.wrap
 (x01 +
 (1 :
 Int)) +
 (1 :
 Int)))]))).set
 x02.toNat
 (CVal.agg
 (splice y_3.cells 3
 [CVal.int i64
 (i64.wrap
 (i64.wrap
 (i64.wrap
 (x01 +
 (1 :
 Int)) +
 1) +
 (1 :
 Int)))]))).set
 x02.toNat
 (CVal.agg
 (splice y_4.cells 4
 [CVal.int i64
 (i64.wrap
 (i64.wrap
 (i64.wrap
 (i64.wrap
 (x01 +
 (1 :
 Int)) +
 1) +
 1) +
 1))]))).set
 x02.toNat
 (y_6.putCell 5
 (CVal.sl y_7)))[x02.toNat]?.bind
 fun y_8 =>
 br
 (y_8.isAgg &&
 decide (7 ≤ y_8.cells.length))
 ((CVal.asInt i64 r.1).bind
 fun n_1 =>
 L f_l_markInsS 0 lc_l_markInsS_0
 [PSh.arr (Md.mk true true 0)
 false 7]
 k_l_markInsS_0
 (((),
 i64.wrap
 (n_1 + 1),
 i64.wrap
 (x02 + 1),
 ()),
 ((((((x1.set x02.toNat
 (CVal.agg
 (CVal.int
 i64
 x01 ::
 List.drop
 (1 :
 Nat)
 y.cells))).set
 x02.toNat
 (CVal.agg
 (splice
 y_1.cells
 1
 [CVal.int
 i64
 (i64.wrap
 (x01 +
 (1 :
 Int)))]))).set
 x02.toNat
 (CVal.agg
 (splice
 y_2.cells
 2
 [CVal.int
 i64
 (i64.wrap
 (i64.wrap
 (x01 +
 (1 :
 Int)) +
 (1 :
 Int)))]))).set
 x02.toNat
 (CVal.agg
 (splice y_3.cells
 3
 [CVal.int
 i64
 (i64.wrap
 (i64.wrap
 (i64.wrap
 (x01 +
 (1 :
 Int)) +
 (1 :
 Int)) +
 (1 :
 Int)))]))).set
 x02.toNat
 (CVal.agg
 (splice y_4.cells
 4
 [CVal.int i64
 (i64.wrap
 (i64.wrap
 (i64.wrap
 (i64.wrap
 (x01 +
 (1 :
 Int)) +
 (1 :
 Int)) +
 (1 :
 Int)) +
 (1 :
 Int)))]))).set
 x02.toNat
 (y_6.putCell 5
 (CVal.sl y_7))).set
 x02.toNat
 (CVal.agg
 (splice y_8.cells 6
 [CVal.int i64 n])),
 ()))
 none)
 none)
 none)
 none)
 none)
 none)
 none)
 none)
 none)
 none)
 none)
 none)
 none)
 none)
 none)
 none)
 none)
 none)
 none)
 none))
 none)
 none)
 (some (LO.out 0 (((), x01, x02, ()), x1, ())))
theorem gl_l_markInsS_0 (x01 : Int) (x02 : Int) (x1 : List CVal) (R : LO k_l_markInsS_0.T) (h : nl_l_markInsS_0 CC LL x01 x02 x1 = some R) : LL f_l_markInsS 0 lc_l_markInsS_0 [PSh.arr (Md.mk true true 0) false 7] k_l_markInsS_0 (((), x01, x02, ()), x1, ()) = some R := loopW (Eq.trans (b := nl_l_markInsS_0 CC LL x01 x02 x1) (by kernel_rfl) h)
noncomputable def nl_s_l11All_2 (C : CallT) (L : LoopT) (x01 : List CVal) (x02 : Int) (x03 : Int) (x1 : List CVal) : Option (LO k_s_l11All_2.T) :=
 (br (decide (x03 < x02))
 (br (decide (0 ≤ x02) && true)
 (x01[x02.toNat]?.bind fun y =>
 br (CVal.fits false 1 y)
 ((y.cell 0).bind fun c => c.asBool.bind fun b => some (b, ())) none)
 none)
 (some (false, ()))).bind
 fun y =>
 br y.1
 (br (decide (0 ≤ x03) && true)
 (x01[x03.toNat]?.bind fun y =>
 br (CVal.fits false 1 y)
 ((y.cell 0).bind fun c =>
 c.asBool.bind fun b =>
 br b
 ((C f_s_l11Pair
 [AVal.lref 0 0, AVal.v (CVal.int i64 x02),
 AVal.v (CVal.int i64 x03)]
 [PB.arr (Md.mk true true 0) false 1 x1]).bind
 fun r =>
 r.2[0]?.bind fun y =>
 L f_s_l11All 2 lc_s_l11All_2 [PSh.arr (Md.mk true true 0) false 1]
 k_s_l11All_2
 (((), x01, x02, i64.wrap (x03 + 1), ()), y, ()))
 (L f_s_l11All 2 lc_s_l11All_2 [PSh.arr (Md.mk true true 0) false 1] k_s_l11All_2
 (((), x01, x02, i64.wrap (x03 + 1), ()), x1, ())))
 none)
 none)
 (some (LO.out 2 (((), x01, x02, x03, ()), x1, ())))
theorem gl_s_l11All_2 (x01 : List CVal) (x02 : Int) (x03 : Int) (x1 : List CVal) (R : LO k_s_l11All_2.T) (h : nl_s_l11All_2 CC LL x01 x02 x03 x1 = some R) : LL f_s_l11All 2 lc_s_l11All_2 [PSh.arr (Md.mk true true 0) false 1] k_s_l11All_2 (((), x01, x02, x03, ()), x1, ()) = some R := loopW (Eq.trans (b := nl_s_l11All_2 CC LL x01 x02 x03 x1) (by kernel_rfl) h)
noncomputable def nl_i_things_0 (C : CallT) (L : LoopT) (x01 : List CVal) (x02 : Int) (x03 : Int) (x1 : List CVal) : Option (LO k_i_things_0.T) :=
 br (decide (x03 < x02))
 (br (decide (0 ≤ x03) && true)
 (x01[x03.toNat]?.bind fun y =>
 br (CVal.fits false 1 y)
 ((y.cell 0).bind fun c =>
 c.asBool.bind fun b =>
 br b
 (br (decide (x1.length + 1 ≤ 4294967296) && true && true)
 (L f_i_things 0 lc_i_things_0 [] k_i_things_0
 (((), x01, x02, i64.wrap (x03 + 1), ()),
 x1 ++ [CVal.int i64 x03], ()))
 none)
 (L f_i_things 0 lc_i_things_0 [] k_i_things_0
 (((), x01, x02, i64.wrap (x03 + 1), ()), x1, ())))
 none)
 none)
 (some (LO.out 0 (((), x01, x02, x03, ()), x1, ())))
theorem gl_i_things_0 (x01 : List CVal) (x02 : Int) (x03 : Int) (x1 : List CVal) (R : LO k_i_things_0.T) (h : nl_i_things_0 CC LL x01 x02 x03 x1 = some R) : LL f_i_things 0 lc_i_things_0 [] k_i_things_0 (((), x01, x02, x03, ()), x1, ()) = some R := loopW (Eq.trans (b := nl_i_things_0 CC LL x01 x02 x03 x1) (by kernel_rfl) h)
noncomputable def nl_s_l10New_0 (C : CallT) (L : LoopT) (x00 : CVal) (x02 : Int) (x10 : Int) (x11 : Int) (x12 : Int) (x13 : List CVal) (x15 : Bool) (x2 : List CVal) : Option (LO k_s_l10New_0.T) :=
 x00.asFp.bind fun y =>
 (y.1.cell (y.2 + 3)).bind fun c =>
 c.asSl.bind fun xs =>
 br (decide (x02 < (↑xs.length : Int)))
 (x00.asFp.bind fun y =>
 (y.1.cell (y.2 + 2)).bind fun c =>
 c.asIdx.bind fun y =>
 c.asIdx.bind fun y_1 =>
 br (decide (0 ≤ y) && decide (y = y_1) && decide (y ≤ 1048576))
 (br (decide (x2.length + 1 ≤ 4294967296) && true && true)
 (L f_s_l10New 0 lc_s_l10New_0 [] k_s_l10New_0
 ((x00, (), i64.wrap (x02 + 1), ()),
 (x10, x11, x12, x13, (), x15, ()),
 x2 ++ [CVal.sl (List.replicate y.toNat (CVal.bool false))], ()))
 none)
 none)
 (some
 (LO.out 0
 ((x00, (), x02, ()), (x10, x11, x12, x13, (), x15, ()), x2, ())))
theorem gl_s_l10New_0 (x00 : CVal) (x02 : Int) (x10 : Int) (x11 : Int) (x12 : Int) (x13 : List CVal) (x15 : Bool) (x2 : List CVal) (R : LO k_s_l10New_0.T) (h : nl_s_l10New_0 CC LL x00 x02 x10 x11 x12 x13 x15 x2 = some R) : LL f_s_l10New 0 lc_s_l10New_0 [] k_s_l10New_0 ((x00, (), x02, ()), (x10, x11, x12, x13, (), x15, ()), x2, ()) = some R := loopW (Eq.trans (b := nl_s_l10New_0 CC LL x00 x02 x10 x11 x12 x13 x15 x2) (by kernel_rfl) h)
noncomputable def nl_i_wanted_2 (C : CallT) (L : LoopT) (x01 : List CVal) (x02 : Int) (x03 : Int) (x2 : List CVal) : Option (LO k_i_wanted_2.T) :=
 br (decide (x03 < x02))
 (br (decide (0 ≤ x03) && true)
 (x01[x03.toNat]?.bind fun y =>
 br (CVal.fits false 1 y)
 ((y.cell 0).bind fun c =>
 c.asIdx.bind fun y =>
 br (decide (0 ≤ y) && true)
 (br (decide (y.toNat < x2.length) && true)
 (x2[y.toNat]?.bind fun y_1 =>
 br (CVal.fits false 1 y_1)
 (L f_i_wanted 2 lc_i_wanted_2 [] k_i_wanted_2
 (((), x01, x02, i64.wrap (x03 + 1), ()), ((), ()),
 x2.set y.toNat (CVal.bool true), ()))
 (br (y_1.isAgg && decide (1 ≤ y_1.cells.length))
 (L f_i_wanted 2 lc_i_wanted_2 [] k_i_wanted_2
 (((), x01, x02, i64.wrap (x03 + 1), ()),
 ((), ()),
 x2.set y.toNat (CVal.agg (CVal.bool true :: List.drop 1 y_1.cells)), ()))
 none))
 none)
 none)
 none)
 none)
 (some (LO.out 2 (((), x01, x02, x03, ()), ((), ()), x2, ())))
theorem gl_i_wanted_2 (x01 : List CVal) (x02 : Int) (x03 : Int) (x2 : List CVal) (R : LO k_i_wanted_2.T) (h : nl_i_wanted_2 CC LL x01 x02 x03 x2 = some R) : LL f_i_wanted 2 lc_i_wanted_2 [] k_i_wanted_2 (((), x01, x02, x03, ()), ((), ()), x2, ()) = some R := loopW (Eq.trans (b := nl_i_wanted_2 CC LL x01 x02 x03 x2) (by kernel_rfl) h)
noncomputable def nl_s_l10From_0 (C : CallT) (L : LoopT) (x01 : Int) (x02 : Int) (x03 : Int) (x04 : Int) (x10 : Int) (x11 : Int) (x12 : Int) (x13 : List CVal) (x15 : Bool) (x3 : List CVal) : Option (LO k_s_l10From_0.T) :=
 br (decide (x04 < x12))
 ((br (decide (0 ≤ x02) && true)
 (br (decide (x02.toNat < x3.length) && true)
 (x3[x02.toNat]?.bind fun y =>
 (y.cell 0).bind fun c =>
 c.asSl.bind fun xs =>
 br (decide (0 ≤ x04) && true)
 ((x3[x02.toNat]?.bind fun y => (y.cell 0).bind fun c => c.asSl).bind fun y =>
 br (decide (x04.toNat < y.length))
 ((x3[x02.toNat]?.bind fun y => (y.cell 0).bind fun c => c.asSl).bind fun y =>
 y[x04.toNat]?.bind fun y =>
 y.asBool.bind fun b =>
 br b (some (!decide (x04 = x03), ())) (some (false, ())))
 none)
 none)
 none)
 none).bind
 fun y =>
 br y.1
 ((C f_s_l10Set
 [AVal.lptr 0 0, AVal.v (CVal.int i64 x01), AVal.v (CVal.int i64 x04)]
 [PB.box
 [AVal.v (CVal.int i64 x10), AVal.v (CVal.int i64 x11),
 AVal.v (CVal.int i64 x12), AVal.v (CVal.sl x13), AVal.lref 1 0,
 AVal.v (CVal.bool x15)],
 PB.arr (Md.mk true false 0) true 1 x3]).bind
 fun r =>
 r.2[0]?.bind fun y =>
 r.2[1]?.bind fun y_1 =>
 y[0]?.bind fun y_2 =>
 y[1]?.bind fun y_3 =>
 y[2]?.bind fun y_4 =>
 y[3]?.bind fun y_5 =>
 y[4]?.bind fun y_6 =>
 y[5]?.bind fun y =>
 y_6.asSl.bind fun xs =>
 (CVal.asInt i64 y_2).bind fun n =>
 (CVal.asInt i64 y_3).bind fun n_1 =>
 (CVal.asInt i64 y_4).bind fun n_2 =>
 y_5.asSl.bind fun xs_1 =>
 y.asBool.bind fun b =>
 L f_s_l10From 0 lc_s_l10From_0
 [PSh.box [none, none, none, none, some 1, none],
 PSh.arr (Md.mk true false 0) true 1]
 k_s_l10From_0
 (((), x01, x02, x03, i64.wrap (x04 + 1), ()),
 (n, n_1, n_2, xs_1, (), b, ()), (), xs, ()))
 (L f_s_l10From 0 lc_s_l10From_0
 [PSh.box [none, none, none, none, some 1, none], PSh.arr (Md.mk true false 0) true 1]
 k_s_l10From_0
 (((), x01, x02, x03, i64.wrap (x04 + 1), ()),
 (x10, x11, x12, x13, (), x15, ()), (), x3, ())))
 (some
 (LO.out 0
 (((), x01, x02, x03, x04, ()), (x10, x11, x12, x13, (), x15, ()), (), x3,
 ())))
theorem gl_s_l10From_0 (x01 : Int) (x02 : Int) (x03 : Int) (x04 : Int) (x10 : Int) (x11 : Int) (x12 : Int) (x13 : List CVal) (x15 : Bool) (x3 : List CVal) (R : LO k_s_l10From_0.T) (h : nl_s_l10From_0 CC LL x01 x02 x03 x04 x10 x11 x12 x13 x15 x3 = some R) : LL f_s_l10From 0 lc_s_l10From_0 [PSh.box [none, none, none, none, some 1, none], PSh.arr (Md.mk true false 0) true 1] k_s_l10From_0 (((), x01, x02, x03, x04, ()), (x10, x11, x12, x13, (), x15, ()), (), x3, ()) = some R := loopW (Eq.trans (b := nl_s_l10From_0 CC LL x01 x02 x03 x04 x10 x11 x12 x13 x15 x3) (by kernel_rfl) h)
noncomputable def nl_slices_IndexFunc_int_0 (C : CallT) (L : LoopT) (x00 : List CVal) (x01 : CVal) (x02 : Int) (x03 : Int) : Option (LO k_slices_IndexFunc_int_0.T) :=
 br (decide (x03 < x02))
 (br (decide (0 ≤ x03) && true)
 (x00[x03.toNat]?.bind fun y =>
 br (CVal.fits false 1 y)
 ((y.cell 0).bind fun c =>
 (C apId [AVal.v x01, AVal.v c] []).bind fun r =>
 r.1.asBool.bind fun b =>
 br b (some (LO.ret (CVal.int i64 x03, [])))
 (L f_slices_IndexFunc_int 0 lc_slices_IndexFunc_int_0 [] k_slices_IndexFunc_int_0
 ((x00, x01, x02, i64.wrap (x03 + 1), ()), ())))
 none)
 none)
 (some (LO.out 0 ((x00, x01, x02, x03, ()), ())))
theorem gl_slices_IndexFunc_int_0 (x00 : List CVal) (x01 : CVal) (x02 : Int) (x03 : Int) (R : LO k_slices_IndexFunc_int_0.T) (h : nl_slices_IndexFunc_int_0 CC LL x00 x01 x02 x03 = some R) : LL f_slices_IndexFunc_int 0 lc_slices_IndexFunc_int_0 [] k_slices_IndexFunc_int_0 ((x00, x01, x02, x03, ()), ()) = some R := loopW (Eq.trans (b := nl_slices_IndexFunc_int_0 CC LL x00 x01 x02 x03) (by kernel_rfl) h)
end Go.Proofs.Ytmjjaoffeajcbaa.Abs
