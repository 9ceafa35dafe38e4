/- What the functions come to in the abstract machine. -/
import Derived.Test.YtmjjaoffeajcbaaL3Ann
import Derived.KernelRfl
set_option linter.unusedVariables false
set_option maxRecDepth 100000
namespace Go.Proofs.Ytmjjaoffeajcbaa.Abs
open Go Go.Proofs Go.IntKind
noncomputable def nf_i_Clashes (C : CallT) (L : LoopT) (a0 : Int) (a1 : Int) (a2 : Int) (a3 : List CVal) : Option Ret :=
 (C f_i_pieceOk
 [AVal.v (CVal.agg [CVal.int i64 a0, CVal.int i64 a1, CVal.int i64 a2, CVal.sl a3])]
 []).bind
 fun r =>
 r.1.asBool.bind fun b =>
 br (!b) (some (CVal.sl [], []))
 ((C f_i_clashes
 [AVal.v (CVal.agg [CVal.int i64 a0, CVal.int i64 a1, CVal.int i64 a2, CVal.sl a3])]
 []).bind
 fun r =>
 r.1.asSl.bind fun xs =>
 r.1.asSl.bind fun xs_1 =>
 (L f_i_Clashes 0 lc_i_Clashes_0 [] k_i_Clashes_0
 (((), xs_1, (↑xs.length : Int), 0, ()), [], ())).bind
 fun r => loK r (fun r => some r) fun j p => br (j == 0) (some (CVal.sl p.snd.1, [])) none)
theorem go_i_Clashes (a0 : Int) (a1 : Int) (a2 : Int) (a3 : List CVal) (R : Ret) (h : nf_i_Clashes CC LL a0 a1 a2 a3 = some R) : CC f_i_Clashes [AVal.v (CVal.agg [CVal.int i64 a0, CVal.int i64 a1, CVal.int i64 a2, CVal.sl a3])] [] = some R := fnW (by decide) rfl (Eq.trans (b := nf_i_Clashes CC LL a0 a1 a2 a3) (by kernel_rfl) h)
noncomputable def nf_l_heldIntA2S (C : CallT) (L : LoopT) (a : List CVal) (b : Int) : Option Ret :=
 (L f_l_heldIntA2S 0 lc_l_heldIntA2S_0 [] k_l_heldIntA2S_0 ((a, b, 0, ()), ())).bind
 fun r => loK r (fun r => some r) fun j p => br (j == 0) (some (CVal.int i64 p.fst.snd.1, [])) none
theorem go_l_heldIntA2S (a : List CVal) (b : Int) (R : Ret) (h : nf_l_heldIntA2S CC LL a b = some R) : CC f_l_heldIntA2S [AVal.v (CVal.sl a), AVal.v (CVal.int i64 b)] [] = some R := fnW (by decide) rfl (Eq.trans (b := nf_l_heldIntA2S CC LL a b) (by kernel_rfl) h)
noncomputable def nf_i_pieceOk (C : CallT) (L : LoopT) (a0 : Int) (a1 : Int) (a2 : Int) (a3 : List CVal) : Option Ret :=
 ((C f_i_in
 [AVal.v (CVal.int i64 (↑a3.length : Int)), AVal.v (CVal.int i64 1),
 AVal.v (CVal.int i64 600)]
 []).bind
 fun r =>
 r.1.asBool.bind fun b =>
 br (!b) (some (true, ()))
 ((C f_i_lamOk
 [AVal.v
 (CVal.agg [CVal.int i64 a0, CVal.int i64 a1, CVal.int i64 a2, CVal.sl a3])]
 []).bind
 fun r =>
 r.1.asBool.bind fun b =>
 br (!b) (some (true, ()))
 ((C f_i_in
 [AVal.v (CVal.int i64 a2), AVal.v (CVal.int i64 a1),
 AVal.v (CVal.int i64 400)]
 []).bind
 fun r =>
 r.1.asBool.bind fun b =>
 br (!b) (some (true, ()))
 ((C f_slices_ContainsFunc_Ins
 [AVal.v (CVal.sl a3),
 AVal.v
 (CVal.func f_i_pieceOk_1
 [(CVal.agg
 [CVal.int i64 a0, CVal.int i64 a1, CVal.int i64 a2,
 CVal.sl a3]).fp
 0])]
 []).bind
 fun r =>
 (bif false then CVal.bool true else r.1).asBool.bind fun b => some (b, ()))))).bind
 fun y =>
 br y.1 (some (CVal.bool false, []))
 ((br (decide (0 ≤ i64.wrap ((↑a3.length : Int) - 1)) && true)
 (a3[(i64.wrap ((↑a3.length : Int) - 1)).toNat]?.bind fun y =>
 br (CVal.fits true 7 y)
 ((y.cell 0).bind fun c =>
 (CVal.asInt i64 c).bind fun n =>
 br (decide (n = 15)) (some (true, ()))
 (br (decide (0 ≤ i64.wrap ((↑a3.length : Int) - 1)) && true)
 (a3[(i64.wrap ((↑a3.length : Int) - 1)).toNat]?.bind fun y =>
 br (CVal.fits true 7 y)
 ((y.cell 0).bind fun c =>
 (CVal.asInt i64 c).bind fun n => some (decide (n = 13), ()))
 none)
 none))
 none)
 none).bind
 fun y => some (CVal.bool y.1, []))
theorem go_i_pieceOk (a0 : Int) (a1 : Int) (a2 : Int) (a3 : List CVal) (R : Ret) (h : nf_i_pieceOk CC LL a0 a1 a2 a3 = some R) : CC f_i_pieceOk [AVal.v (CVal.agg [CVal.int i64 a0, CVal.int i64 a1, CVal.int i64 a2, CVal.sl a3])] [] = some R := fnW (by decide) rfl (Eq.trans (b := nf_i_pieceOk CC LL a0 a1 a2 a3) (by kernel_rfl) h)
noncomputable def nf_l_szIns (C : CallT) (L : LoopT) (a0 : Int) (a1 : Int) (a2 : Int) (a3 : Int) (a4 : Int) (a5 : List CVal) (a6 : Int) (b : Int) : Option Ret :=
 (C f_l_szIntS [AVal.v (CVal.sl a5), AVal.v (CVal.int i64 b)] []).bind fun r =>
 (CVal.asInt i64 r.1).bind fun n =>
 br (decide (n < 0)) (some (CVal.int i64 (-1 : Int), [])) (some (r.1, []))
theorem go_l_szIns (a0 : Int) (a1 : Int) (a2 : Int) (a3 : Int) (a4 : Int) (a5 : List CVal) (a6 : Int) (b : Int) (R : Ret) (h : nf_l_szIns CC LL a0 a1 a2 a3 a4 a5 a6 b = some R) : CC f_l_szIns [AVal.v
 (CVal.agg
 [CVal.int i64 a0, CVal.int i64 a1, CVal.int i64 a2, CVal.int i64 a3,
 CVal.int i64 a4, CVal.sl a5, CVal.int i64 a6]),
 AVal.v (CVal.int i64 b)] [] = some R := fnW (by decide) rfl (Eq.trans (b := nf_l_szIns CC LL a0 a1 a2 a3 a4 a5 a6 b) (by kernel_rfl) h)
noncomputable def nf_s_l11Pair (C : CallT) (L : LoopT) (a : List CVal) (b : Int) (c : Int) : Option Ret :=
 br (!decide (b = c))
 (br (decide (0 ≤ b) && true)
 (br (decide (b.toNat < a.length) && true)
 (a[b.toNat]?.bind fun y =>
 (y.cell 0).bind fun c_1 =>
 c_1.asSl.bind fun xs =>
 br (decide (0 ≤ c) && true)
 ((a[b.toNat]?.bind fun y => (y.cell 0).bind fun c => c.asSl).bind fun y =>
 br (decide (c.toNat < y.length))
 (a[b.toNat]?.bind fun y =>
 (y.cell 0).bind fun c_2 =>
 c_2.asSl.bind fun xs =>
 xs[c.toNat]?.bind fun y_1 =>
 br (CVal.fitsF false [CK.bool] y_1)
 (br (decide (0 ≤ c) && true)
 (br
 (decide
 (c.toNat <
 (a.set b.toNat
 (y.putCell 0 (CVal.sl (xs.set c.toNat (CVal.bool true))))).length) &&
 true)
 ((a.set b.toNat
 (y.putCell 0
 (CVal.sl (xs.set c.toNat (CVal.bool true)))))[c.toNat]?.bind
 fun y_2 =>
 (y_2.cell 0).bind fun c_3 =>
 c_3.asSl.bind fun xs_1 =>
 br (decide (0 ≤ b) && true)
 (((a.set b.toNat
 (y.putCell 0
 (CVal.sl (xs.set c.toNat (CVal.bool true)))))[c.toNat]?.bind
 fun y => (y.cell 0).bind fun c => c.asSl).bind
 fun y_3 =>
 br (decide (b.toNat < y_3.length))
 ((a.set b.toNat
 (y.putCell 0
 (CVal.sl (xs.set c.toNat (CVal.bool true)))))[c.toNat]?.bind
 fun y_4 =>
 (y_4.cell 0).bind fun c_4 =>
 c_4.asSl.bind fun xs_2 =>
 xs_2[b.toNat]?.bind fun y_5 =>
 br (CVal.fitsF false [CK.bool] y_5)
 (some
 (CVal.tup [],
 [(a.set b.toNat
 (y.putCell 0
 (CVal.sl (xs.set c.toNat (CVal.bool true))))).set
 c.toNat
 (y_4.putCell 0
 (CVal.sl (xs_2.set b.toNat (CVal.bool true))))]))
 none)
 none)
 none)
 none)
 none)
 none)
 none)
 none)
 none)
 none)
 (some (CVal.tup [], [a]))
theorem go_s_l11Pair (a : List CVal) (b : Int) (c : Int) (R : Ret) (h : nf_s_l11Pair CC LL a b c = some R) : CC f_s_l11Pair [AVal.lref 0 0, AVal.v (CVal.int i64 b), AVal.v (CVal.int i64 c)] [PB.arr (Md.mk true true 0) false 1 a] = some R := fnW (by decide) rfl (Eq.trans (b := nf_s_l11Pair CC LL a b c) (by kernel_rfl) h)
noncomputable def nf_i_lamOk (C : CallT) (L : LoopT) (a0 : Int) (a1 : Int) (a2 : Int) (a3 : List CVal) : Option Ret :=
 (br (decide (a0 = (-1 : Int)))
 (br (decide (a1 = 0)) (some (true, ()))
 ((C f_i_in
 [AVal.v (CVal.int i64 a0), AVal.v (CVal.int i64 0),
 AVal.v (CVal.int i64 149)]
 []).bind
 fun r =>
 r.1.asBool.bind fun b => br b (some (decide (1 ≤ a1), ())) (some (false, ()))))
 ((C f_i_in
 [AVal.v (CVal.int i64 a0), AVal.v (CVal.int i64 0),
 AVal.v (CVal.int i64 149)]
 []).bind
 fun r =>
 r.1.asBool.bind fun b => br b (some (decide (1 ≤ a1), ())) (some (false, ())))).bind
 fun y => some (CVal.bool y.1, [])
theorem go_i_lamOk (a0 : Int) (a1 : Int) (a2 : Int) (a3 : List CVal) (R : Ret) (h : nf_i_lamOk CC LL a0 a1 a2 a3 = some R) : CC f_i_lamOk [AVal.v (CVal.agg [CVal.int i64 a0, CVal.int i64 a1, CVal.int i64 a2, CVal.sl a3])] [] = some R := fnW (by decide) rfl (Eq.trans (b := nf_i_lamOk CC LL a0 a1 a2 a3) (by kernel_rfl) h)
noncomputable def nf_i_Writes (C : CallT) (L : LoopT) (a0 : Int) (a1 : Int) (a2 : Int) (a3 : Int) (a4 : Int) (a5 : List CVal) (a6 : Int) : Option Ret :=
 ((C f_i_hasPart [AVal.v (CVal.int i64 a0), AVal.v (CVal.int IntKind.u8 68)] []).bind fun r =>
 r.1.asBool.bind fun b => br b (some (!decide (a0 = 17), ())) (some (false, ()))).bind
 fun y => br y.1 (some (CVal.int i64 a1, [])) (some (CVal.int i64 (-1 : Int), []))
theorem go_i_Writes (a0 : Int) (a1 : Int) (a2 : Int) (a3 : Int) (a4 : Int) (a5 : List CVal) (a6 : Int) (R : Ret) (h : nf_i_Writes CC LL a0 a1 a2 a3 a4 a5 a6 = some R) : CC f_i_Writes [AVal.v
 (CVal.agg
 [CVal.int i64 a0, CVal.int i64 a1, CVal.int i64 a2, CVal.int i64 a3,
 CVal.int i64 a4, CVal.sl a5, CVal.int i64 a6])] [] = some R := fnW (by decide) rfl (Eq.trans (b := nf_i_Writes CC LL a0 a1 a2 a3 a4 a5 a6) (by kernel_rfl) h)
noncomputable def nf_l_szIntS (C : CallT) (L : LoopT) (a : List CVal) (b : Int) : Option Ret :=
 br (decide (i64.wrap (b - (↑a.length : Int)) < 0)) (some (CVal.int i64 (-1 : Int), []))
 (some (CVal.int i64 (i64.wrap (b - (↑a.length : Int))), []))
theorem go_l_szIntS (a : List CVal) (b : Int) (R : Ret) (h : nf_l_szIntS CC LL a b = some R) : CC f_l_szIntS [AVal.v (CVal.sl a), AVal.v (CVal.int i64 b)] [] = some R := fnW (by decide) rfl (Eq.trans (b := nf_l_szIntS CC LL a b) (by kernel_rfl) h)
noncomputable def nf_s_l10Node (C : CallT) (L : LoopT) (a00 : Int) (a01 : Int) (a02 : Int) (a03 : List CVal) (a1 : List CVal) (a2 : Bool) (b : Int) : Option Ret :=
 br (decide (0 ≤ b) && true)
 (a03[b.toNat]?.bind fun y =>
 br (CVal.fits true 7 y)
 ((y.sub 0 7).bind fun y =>
 (C f_s_Reads [AVal.v y] []).bind fun r =>
 r.1.asSl.bind fun xs =>
 (L f_s_l10Node 0 lc_s_l10Node_0
 [PSh.box [none, none, none, none, some 1, none],
 PSh.arr (Md.mk true false 0) true 1]
 k_s_l10Node_0
 (((), b, xs, 0, ()), (a00, a01, a02, a03, (), a2, ()),
 (), a1, ())).bind
 fun r =>
 loK r (fun r => some r) fun j p =>
 br (j == 0)
 (br (decide (0 ≤ p.fst.snd.1) && true)
 (p.snd.fst.snd.snd.snd.1[Int.toNat p.fst.snd.1]?.bind fun y =>
 br (CVal.fits true 7 y)
 ((y.sub 0 7).bind fun y =>
 (C f_s_Writes [AVal.v y] []).bind fun r =>
 (C f_s_l10Normal
 [AVal.v
 (CVal.agg
 [CVal.int i64 p.snd.fst.1, CVal.int i64 p.snd.fst.snd.1,
 CVal.int i64 p.snd.fst.snd.snd.1, CVal.sl p.snd.fst.snd.snd.snd.1]),
 AVal.v (CVal.int i64 p.fst.snd.1)]
 []).bind
 fun r_1 =>
 (CVal.asInt i64 r.1).bind fun n =>
 r_1.1.asSl.bind fun xs =>
 (L f_s_l10Node 2 lc_s_l10Node_2
 [PSh.box [none, none, none, none, some 1, none],
 PSh.arr (Md.mk true false 0) true 1]
 k_s_l10Node_2
 (((), p.fst.snd.1, n, xs, 0, ()),
 (p.snd.fst.1, p.snd.fst.snd.1, p.snd.fst.snd.snd.1, p.snd.fst.snd.snd.snd.1,
 (), p.snd.fst.snd.snd.snd.snd.snd.1, ()),
 (), p.snd.snd.snd.1, ())).bind
 fun r =>
 loK r (fun r => some r) fun j p =>
 br (j == 2)
 ((C f_s_l10Guard
 [AVal.v
 (CVal.agg
 [CVal.int i64 p.snd.fst.1,
 CVal.int i64 p.snd.fst.snd.1,
 CVal.int i64 p.snd.fst.snd.snd.1,
 CVal.sl p.snd.fst.snd.snd.snd.1]),
 AVal.v (CVal.int i64 p.fst.snd.1)]
 []).bind
 fun r =>
 ((CVal.asInt i64 r.1).bind fun n =>
 br (decide (0 ≤ n))
 (br (decide (0 ≤ p.fst.snd.1) && true)
 (p.snd.fst.snd.snd.snd.1[Int.toNat p.fst.snd.1]?.bind fun y =>
 br (CVal.fits true 7 y)
 ((y.cell 0).bind fun c =>
 (C f_s_l10May [AVal.v c] []).bind fun r =>
 (bif true then r.1 else CVal.bool false).asBool.bind
 fun b => some (b, ()))
 none)
 none)
 (some (false, ()))).bind
 fun y =>
 br y.1
 (r.1.asIdx.bind fun y =>
 br (decide (0 ≤ y) && true)
 (p.snd.fst.snd.snd.snd.1[y.toNat]?.bind fun y =>
 br (CVal.fits true 7 y)
 ((y.cell 6).bind fun c =>
 r.1.asIdx.bind fun y =>
 br (decide (0 ≤ y) && true)
 (p.snd.fst.snd.snd.snd.1[y.toNat]?.bind fun y =>
 br (CVal.fits true 7 y)
 ((y.cell 1).bind fun c_1 =>
 (C f_s_l10From
 [AVal.lptr 0 0,
 AVal.v (CVal.int i64 p.fst.snd.1),
 AVal.v c, AVal.v c_1]
 [PB.box
 [AVal.v (CVal.int i64 p.snd.fst.1),
 AVal.v
 (CVal.int i64 p.snd.fst.snd.1),
 AVal.v
 (CVal.int i64
 p.snd.fst.snd.snd.1),
 AVal.v (CVal.sl p.snd.fst.snd.snd.snd.1),
 AVal.lref 1 0,
 AVal.v
 (CVal.bool
 p.snd.fst.snd.snd.snd.snd.snd.1)],
 PB.arr (Md.mk true false 0) true
 1 p.snd.snd.snd.1]).bind
 fun r =>
 r.2[0]?.bind fun y =>
 r.2[1]?.bind fun y_1 =>
 y[0]?.bind fun y_2 =>
 y[1]?.bind fun y_3 =>
 y[2]?.bind fun y_4 =>
 y[3]?.bind fun y_5 =>
 y[4]?.bind fun y_6 =>
 y[5]?.bind fun y =>
 y_6.asSl.bind fun xs =>
 some
 (CVal.tup [],
 [[y_2, y_3, y_4, y_5,
 CVal.sl xs, y],
 []]))
 none)
 none)
 none)
 none)
 (some
 (CVal.tup [],
 [[CVal.int i64 p.snd.fst.1,
 CVal.int i64 p.snd.fst.snd.1,
 CVal.int i64 p.snd.fst.snd.snd.1,
 CVal.sl p.snd.fst.snd.snd.snd.1, CVal.sl p.snd.snd.snd.1,
 CVal.bool p.snd.fst.snd.snd.snd.snd.snd.1],
 []])))
 none)
 none)
 none)
 none)
 none)
 none
theorem go_s_l10Node (a00 : Int) (a01 : Int) (a02 : Int) (a03 : List CVal) (a1 : List CVal) (a2 : Bool) (b : Int) (R : Ret) (h : nf_s_l10Node CC LL a00 a01 a02 a03 a1 a2 b = some R) : CC f_s_l10Node [AVal.lptr 0 0, AVal.v (CVal.int i64 b)] [PB.box
 [AVal.v (CVal.int i64 a00), AVal.v (CVal.int i64 a01), AVal.v (CVal.int i64 a02),
 AVal.v (CVal.sl a03), AVal.lref 1 0, AVal.v (CVal.bool a2)],
 PB.arr (Md.mk true false 0) true 1 a1] = some R := fnW (by decide) rfl (Eq.trans (b := nf_s_l10Node CC LL a00 a01 a02 a03 a1 a2 b) (by kernel_rfl) h)
noncomputable def nf_i_hasPart (C : CallT) (L : LoopT) (a : Int) (b : Int) : Option Ret :=
 (C f_i_insForm [AVal.v (CVal.int i64 a)] []).bind fun r =>
 r.1.asTup.bind fun y =>
 y[0]?.bind fun y =>
 r.1.asTup.bind fun y_1 =>
 y_1[1]?.bind fun y_2 =>
 y.asStr.bind fun s =>
 br (decide (s.length ≤ 4294967296))
 ((C f_slices_Contains_byte [AVal.v (CVal.sl (bytesC s)), AVal.v (CVal.int IntKind.u8 b)] []).bind fun r =>
 some (r.1, []))
 none
theorem go_i_hasPart (a : Int) (b : Int) (R : Ret) (h : nf_i_hasPart CC LL a b = some R) : CC f_i_hasPart [AVal.v (CVal.int i64 a), AVal.v (CVal.int IntKind.u8 b)] [] = some R := fnW (by decide) rfl (Eq.trans (b := nf_i_hasPart CC LL a b) (by kernel_rfl) h)
noncomputable def nf_s_l10From (C : CallT) (L : LoopT) (a00 : Int) (a01 : Int) (a02 : Int) (a03 : List CVal) (a1 : List CVal) (a2 : Bool) (b : Int) (c : Int) (d : Int) : Option Ret :=
 (L f_s_l10From 0 lc_s_l10From_0
 [PSh.box [none, none, none, none, some 1, none], PSh.arr (Md.mk true false 0) true 1]
 k_s_l10From_0
 (((), b, c, d, 0, ()), (a00, a01, a02, a03, (), a2, ()), (), a1,
 ())).bind
 fun r =>
 loK r (fun r => some r) fun j p =>
 br (j == 0)
 (some
 (CVal.tup [],
 [[CVal.int i64 p.snd.fst.1, CVal.int i64 p.snd.fst.snd.1,
 CVal.int i64 p.snd.fst.snd.snd.1, CVal.sl p.snd.fst.snd.snd.snd.1, CVal.sl p.snd.snd.snd.1,
 CVal.bool p.snd.fst.snd.snd.snd.snd.snd.1],
 []]))
 none
theorem go_s_l10From (a00 : Int) (a01 : Int) (a02 : Int) (a03 : List CVal) (a1 : List CVal) (a2 : Bool) (b : Int) (c : Int) (d : Int) (R : Ret) (h : nf_s_l10From CC LL a00 a01 a02 a03 a1 a2 b c d = some R) : CC f_s_l10From [AVal.lptr 0 0, AVal.v (CVal.int i64 b), AVal.v (CVal.int i64 c),
 AVal.v (CVal.int i64 d)] [PB.box
 [AVal.v (CVal.int i64 a00), AVal.v (CVal.int i64 a01), AVal.v (CVal.int i64 a02),
 AVal.v (CVal.sl a03), AVal.lref 1 0, AVal.v (CVal.bool a2)],
 PB.arr (Md.mk true false 0) true 1 a1] = some R := fnW (by decide) rfl (Eq.trans (b := nf_s_l10From CC LL a00 a01 a02 a03 a1 a2 b c d) (by kernel_rfl) h)
noncomputable def nf_i_fieldOk (C : CallT) (L : LoopT) (a : Int) (b : Bool) (c : Int) : Option Ret :=
 br b
 ((br (decide (0 ≤ a)) (some (decide (a < c), ())) (some (false, ()))).bind fun y =>
 some (CVal.bool y.1, []))
 (some (CVal.bool (decide (a = 0)), []))
theorem go_i_fieldOk (a : Int) (b : Bool) (c : Int) (R : Ret) (h : nf_i_fieldOk CC LL a b c = some R) : CC f_i_fieldOk [AVal.v (CVal.int i64 a), AVal.v (CVal.bool b), AVal.v (CVal.int i64 c)] [] = some R := fnW (by decide) rfl (Eq.trans (b := nf_i_fieldOk CC LL a b c) (by kernel_rfl) h)
noncomputable def nf_i_Reads (C : CallT) (L : LoopT) (a0 : Int) (a1 : Int) (a2 : Int) (a3 : Int) (a4 : Int) (a5 : List CVal) (a6 : Int) : Option Ret :=
 (C f_i_hasPart [AVal.v (CVal.int i64 a0), AVal.v (CVal.int IntKind.u8 88)] []).bind fun r =>
 r.1.asBool.bind fun b =>
 br b
 ((C f_i_hasPart [AVal.v (CVal.int i64 a0), AVal.v (CVal.int IntKind.u8 89)] []).bind fun r =>
 r.1.asBool.bind fun b =>
 br b
 (br (decide (a0 = 8))
 (br (a5.all (CVal.fitsF false [CK.int i64]))
 (br (decide (2 + a5.length ≤ 4294967296) && true && true)
 ((C f_slices_Sort_int [AVal.lref 0 0]
 [PB.arr (Md.mk true true 0) false 1
 (CVal.int i64 a2 :: CVal.int i64 a3 :: a5)]).bind
 fun r =>
 r.2[0]?.bind fun y =>
 (C f_slices_Compact_int [AVal.lref 0 0]
 [PB.arr (Md.mk true false 0) false 1 y]).bind
 fun r => r.2[0]?.bind fun y => some (CVal.sl y, []))
 none)
 none)
 ((C f_slices_Sort_int [AVal.lref 0 0]
 [PB.arr (Md.mk true true 0) false 1
 [CVal.int i64 a2, CVal.int i64 a3]]).bind
 fun r =>
 r.2[0]?.bind fun y =>
 (C f_slices_Compact_int [AVal.lref 0 0]
 [PB.arr (Md.mk true false 0) false 1 y]).bind
 fun r => r.2[0]?.bind fun y => some (CVal.sl y, [])))
 (br (decide (a0 = 8))
 (br (a5.all (CVal.fitsF false [CK.int i64]))
 (br (decide (1 + a5.length ≤ 4294967296) && true && true)
 ((C f_slices_Sort_int [AVal.lref 0 0]
 [PB.arr (Md.mk true true 0) false 1 (CVal.int i64 a2 :: a5)]).bind
 fun r =>
 r.2[0]?.bind fun y =>
 (C f_slices_Compact_int [AVal.lref 0 0]
 [PB.arr (Md.mk true false 0) false 1 y]).bind
 fun r => r.2[0]?.bind fun y => some (CVal.sl y, []))
 none)
 none)
 ((C f_slices_Sort_int [AVal.lref 0 0]
 [PB.arr (Md.mk true true 0) false 1 [CVal.int i64 a2]]).bind
 fun r =>
 r.2[0]?.bind fun y =>
 (C f_slices_Compact_int [AVal.lref 0 0]
 [PB.arr (Md.mk true false 0) false 1 y]).bind
 fun r => r.2[0]?.bind fun y => some (CVal.sl y, []))))
 ((C f_i_hasPart [AVal.v (CVal.int i64 a0), AVal.v (CVal.int IntKind.u8 89)] []).bind fun r =>
 r.1.asBool.bind fun b =>
 br b
 (br (decide (a0 = 8))
 (br (a5.all (CVal.fitsF false [CK.int i64]))
 (br (decide (1 + a5.length ≤ 4294967296) && true && true)
 ((C f_slices_Sort_int [AVal.lref 0 0]
 [PB.arr (Md.mk true true 0) false 1 (CVal.int i64 a3 :: a5)]).bind
 fun r =>
 r.2[0]?.bind fun y =>
 (C f_slices_Compact_int [AVal.lref 0 0]
 [PB.arr (Md.mk true false 0) false 1 y]).bind
 fun r => r.2[0]?.bind fun y => some (CVal.sl y, []))
 none)
 none)
 ((C f_slices_Sort_int [AVal.lref 0 0]
 [PB.arr (Md.mk true true 0) false 1 [CVal.int i64 a3]]).bind
 fun r =>
 r.2[0]?.bind fun y =>
 (C f_slices_Compact_int [AVal.lref 0 0]
 [PB.arr (Md.mk true false 0) false 1 y]).bind
 fun r => r.2[0]?.bind fun y => some (CVal.sl y, [])))
 (br (decide (a0 = 8))
 (br (a5.all (CVal.fitsF false [CK.int i64]))
 (br (decide (a5.length ≤ 4294967296))
 ((C f_slices_Sort_int [AVal.lref 0 0]
 [PB.arr (Md.mk true true 0) false 1 a5]).bind
 fun r =>
 r.2[0]?.bind fun y =>
 (C f_slices_Compact_int [AVal.lref 0 0]
 [PB.arr (Md.mk true false 0) false 1 y]).bind
 fun r => r.2[0]?.bind fun y => some (CVal.sl y, []))
 none)
 none)
 ((C f_slices_Sort_int [AVal.lref 0 0]
 [PB.arr (Md.mk true true 0) false 1 []]).bind
 fun r =>
 r.2[0]?.bind fun y =>
 (C f_slices_Compact_int [AVal.lref 0 0]
 [PB.arr (Md.mk true false 0) false 1 []]).bind
 fun r => r.2[0]?.bind fun y => some (CVal.sl y, []))))
theorem go_i_Reads (a0 : Int) (a1 : Int) (a2 : Int) (a3 : Int) (a4 : Int) (a5 : List CVal) (a6 : Int) (R : Ret) (h : nf_i_Reads CC LL a0 a1 a2 a3 a4 a5 a6 = some R) : CC f_i_Reads [AVal.v
 (CVal.agg
 [CVal.int i64 a0, CVal.int i64 a1, CVal.int i64 a2, CVal.int i64 a3,
 CVal.int i64 a4, CVal.sl a5, CVal.int i64 a6])] [] = some R := fnW (by decide) rfl (Eq.trans (b := nf_i_Reads CC LL a0 a1 a2 a3 a4 a5 a6) (by kernel_rfl) h)
noncomputable def nf_slices_Index_byte (C : CallT) (L : LoopT) (a : List CVal) (b : Int) : Option Ret :=
 (L f_slices_Index_byte 0 lc_slices_Index_byte_0 [] k_slices_Index_byte_0
 ((a, b, (↑a.length : Int), 0, ()), ())).bind
 fun r => loK r (fun r => some r) fun j p => br (j == 0) (some (CVal.int i64 (-1 : Int), [])) none
theorem go_slices_Index_byte (a : List CVal) (b : Int) (R : Ret) (h : nf_slices_Index_byte CC LL a b = some R) : CC f_slices_Index_byte [AVal.v (CVal.sl a), AVal.v (CVal.int IntKind.u8 b)] [] = some R := fnW (by decide) rfl (Eq.trans (b := nf_slices_Index_byte CC LL a b) (by kernel_rfl) h)
noncomputable def nl_l_eqIntA2S_0 (C : CallT) (L : LoopT) (x00 : List CVal) (x01 : List CVal) (x02 : Int) : Option (LO k_l_eqIntA2S_0.T) :=
 br (decide (x02 < (↑x00.length : Int)))
 (br (decide (0 ≤ x02) && true)
 (x00[x02.toNat]?.bind fun y =>
 br (CVal.fits true 2 y)
 ((y.sub 0 2).bind fun y =>
 br (decide (0 ≤ x02) && true)
 (x01[x02.toNat]?.bind fun y_1 =>
 br (CVal.fits true 2 y_1)
 ((y_1.sub 0 2).bind fun y_2 =>
 (C f_l_eqIntA2 [AVal.v y, AVal.v y_2] []).bind fun r =>
 r.1.asBool.bind fun b =>
 br (!b) (some (LO.ret (CVal.bool false, [])))
 (L f_l_eqIntA2S 0 lc_l_eqIntA2S_0 [] k_l_eqIntA2S_0
 ((x00, x01, i64.wrap (x02 + 1), ()), ())))
 none)
 none)
 none)
 none)
 (some (LO.out 0 ((x00, x01, x02, ()), ())))
theorem gl_l_eqIntA2S_0 (x00 : List CVal) (x01 : List CVal) (x02 : Int) (R : LO k_l_eqIntA2S_0.T) (h : nl_l_eqIntA2S_0 CC LL x00 x01 x02 = some R) : LL f_l_eqIntA2S 0 lc_l_eqIntA2S_0 [] k_l_eqIntA2S_0 ((x00, x01, x02, ()), ()) = some R := loopW (Eq.trans (b := nl_l_eqIntA2S_0 CC LL x00 x01 x02) (by kernel_rfl) h)
noncomputable def nl_l_szInsS_0 (C : CallT) (L : LoopT) (x00 : List CVal) (x01 : Int) (x02 : Int) : Option (LO k_l_szInsS_0.T) :=
 br (decide (x02 < (↑x00.length : Int)))
 (br (decide (0 ≤ x02) && true)
 (x00[x02.toNat]?.bind fun y =>
 br (CVal.fits true 7 y)
 ((y.sub 0 7).bind fun y =>
 (C f_l_szIns [AVal.v y, AVal.v (CVal.int i64 x01)] []).bind fun r =>
 (CVal.asInt i64 r.1).bind fun n =>
 br (decide (n < 0)) (some (LO.ret (CVal.int i64 (-1 : Int), [])))
 ((CVal.asInt i64 r.1).bind fun n =>
 L f_l_szInsS 0 lc_l_szInsS_0 [] k_l_szInsS_0
 ((x00, n, i64.wrap (x02 + 1), ()), ())))
 none)
 none)
 (some (LO.out 0 ((x00, x01, x02, ()), ())))
theorem gl_l_szInsS_0 (x00 : List CVal) (x01 : Int) (x02 : Int) (R : LO k_l_szInsS_0.T) (h : nl_l_szInsS_0 CC LL x00 x01 x02 = some R) : LL f_l_szInsS 0 lc_l_szInsS_0 [] k_l_szInsS_0 ((x00, x01, x02, ()), ()) = some R := loopW (Eq.trans (b := nl_l_szInsS_0 CC LL x00 x01 x02) (by kernel_rfl) h)
noncomputable def nl_s_l11Table_6 (C : CallT) (L : LoopT) (x00 : CVal) (x01 : List CVal) (x03 : Int) (x1 : List CVal) : Option (LO k_s_l11Table_6.T) :=
 x00.asFp.bind fun y =>
 (y.1.cell (y.2 + 3)).bind fun c =>
 c.asSl.bind fun xs =>
 br (decide (x03 < (↑xs.length : Int)))
 (br (decide (0 ≤ x03) && true)
 (x01[x03.toNat]?.bind fun y =>
 br (CVal.fits false 1 y)
 ((y.cell 0).bind fun c =>
 (C f_s_l11All [AVal.lref 0 0, AVal.v c]
 [PB.arr (Md.mk true true 0) false 1 x1]).bind
 fun r =>
 r.2[0]?.bind fun y =>
 x00.asFp.bind fun y_1 =>
 (y_1.1.cell (y_1.2 + 3)).bind fun c =>
 br (decide (0 ≤ x03) && true)
 (c.asSl.bind fun xs =>
 xs[x03.toNat]?.bind fun y_2 =>
 br (CVal.fits true 7 y_2)
 ((y_2.sub 0 7).bind fun y_3 =>
 (C f_s_Writes [AVal.v y_3] []).bind fun r =>
 x00.asFp.bind fun y_4 =>
 (y_4.1.sub y_4.2 4).bind fun y_5 =>
 (C f_s_l10Normal [AVal.v y_5, AVal.v (CVal.int i64 x03)] []).bind
 fun r_1 =>
 br r_1.1.isFlat
 (r_1.1.asSl.bind fun xs =>
 x00.asFp.bind fun y_6 =>
 (y_6.1.cell (y_6.2 + 3)).bind fun c =>
 br (decide (0 ≤ x03) && true)
 (c.asSl.bind fun xs_1 =>
 xs_1[x03.toNat]?.bind fun y_7 =>
 br (CVal.fits true 7 y_7)
 ((y_7.cell 0).bind fun c =>
 (CVal.asInt i64 c).bind fun n =>
 br (decide (n = 17))
 (x00.asFp.bind fun y_8 =>
 (y_8.1.cell (y_8.2 + 3)).bind fun c =>
 br (decide (0 ≤ x03) && true)
 (c.asSl.bind fun xs =>
 xs[x03.toNat]?.bind fun y_9 =>
 br (CVal.fits true 7 y_9)
 ((y_9.cell 1).bind fun c =>
 x00.asFp.bind fun y_10 =>
 (y_10.1.cell (y_10.2 + 3)).bind
 fun c_1 =>
 br (decide (0 ≤ x03) && true)
 (c_1.asSl.bind fun xs =>
 xs[x03.toNat]?.bind fun y_11 =>
 br
 (CVal.fits true 7
 y_11)
 ((y_11.cell 6).bind
 fun c_2 =>
 br (c_2.isFlat && true)
 ((CVal.asInt i64
 c_2).bind
 fun n =>
 (CVal.asInt i64
 c).bind
 fun n_1 =>
 (L f_s_l11Table
 8
 lc_s_l11Table_8
 []
 k_s_l11Table_8
 ((x00, x01,
 (),
 x03, n_1,
 (),
 0,
 ()),
 y,
 [CVal.int
 i64
 n],
 ())).bind
 fun r =>
 loK r
 (fun r =>
 some (LO.ret r))
 fun j p =>
 br
 (j == 8)
 (L f_s_l11Table
 6
 lc_s_l11Table_6
 []
 k_s_l11Table_6
 ((p.fst.1,
 p.fst.snd.1,
 (),
 i64.wrap
 (p.fst.snd.snd.snd.1 +
 (1 :
 Int)),
 ()),
 p.snd.1,
 ()))
 (br
 (j ==
 7)
 (L
 f_s_l11Table
 6
 lc_s_l11Table_6
 []
 k_s_l11Table_6
 ((p.fst.1,
 p.fst.snd.1,
 (),
 i64.wrap
 (p.fst.snd.snd.snd.1 +
 (1 :
 Int)),
 ()),
 p.snd.1,
 ()))
 (some
 (LO.out j
 ((p.fst.1,
 p.fst.snd.1,
 (),
 p.fst.snd.snd.snd.1,
 ()),
 p.snd.1,
 ())))))
 none)
 none)
 none)
 none)
 none)
 ((CVal.asInt i64 r.1).bind fun n =>
 (L f_s_l11Table 8 lc_s_l11Table_8 []
 k_s_l11Table_8
 ((x00, x01, (), x03, n, (),
 0, ()),
 y, xs, ())).bind
 fun r =>
 loK r (fun r => some (LO.ret r)) fun j p =>
 br (j == 8)
 (L f_s_l11Table 6 lc_s_l11Table_6 []
 k_s_l11Table_6
 ((p.fst.1, p.fst.snd.1, (),
 i64.wrap
 (p.fst.snd.snd.snd.1 + 1),
 ()),
 p.snd.1, ()))
 (br (j == 7)
 (L f_s_l11Table 6 lc_s_l11Table_6 []
 k_s_l11Table_6
 ((p.fst.1, p.fst.snd.1, (),
 i64.wrap
 (p.fst.snd.snd.snd.1 + 1),
 ()),
 p.snd.1, ()))
 (some
 (LO.out j
 ((p.fst.1, p.fst.snd.1, (),
 p.fst.snd.snd.snd.1, ()),
 p.snd.1, ()))))))
 none)
 none)
 none)
 none)
 none)
 none)
 none)
 (some (LO.out 6 ((x00, x01, (), x03, ()), x1, ())))
theorem gl_s_l11Table_6 (x00 : CVal) (x01 : List CVal) (x03 : Int) (x1 : List CVal) (R : LO k_s_l11Table_6.T) (h : nl_s_l11Table_6 CC LL x00 x01 x03 x1 = some R) : LL f_s_l11Table 6 lc_s_l11Table_6 [] k_s_l11Table_6 ((x00, x01, (), x03, ()), x1, ()) = some R := loopW (Eq.trans (b := nl_s_l11Table_6 CC LL x00 x01 x03 x1) (by kernel_rfl) h)
noncomputable def nl_i_clashes_12 (C : CallT) (L : LoopT) (x00 : CVal) (x03 : Int) (x04 : Int) (x2 : List CVal) : Option (LO k_i_clashes_12.T) :=
 br (decide (x04 < x03))
 (x00.asFp.bind fun y =>
 (y.1.cell (y.2 + 1)).bind fun c =>
 (CVal.asInt i64 c).bind fun n =>
 (L f_i_clashes 14 lc_i_clashes_14 [] k_i_clashes_14
 ((x00, (), (), x04, x03, x04, n, 0, ()), ((), ()), x2,
 ())).bind
 fun r =>
 loK r (fun r => some (LO.ret r)) fun j p =>
 br (j == 14)
 (L f_i_clashes 12 lc_i_clashes_12 [] k_i_clashes_12
 ((p.fst.1, (), (), p.fst.snd.snd.snd.snd.1,
 i64.wrap (p.fst.snd.snd.snd.snd.snd.1 + 1), ()),
 ((), ()), p.snd.snd.1, ()))
 (br (j == 13)
 (L f_i_clashes 12 lc_i_clashes_12 [] k_i_clashes_12
 ((p.fst.1, (), (), p.fst.snd.snd.snd.snd.1,
 i64.wrap (p.fst.snd.snd.snd.snd.snd.1 + 1), ()),
 ((), ()), p.snd.snd.1, ()))
 (some
 (LO.out j
 ((p.fst.1, (), (), p.fst.snd.snd.snd.snd.1, p.fst.snd.snd.snd.snd.snd.1,
 ()),
 ((), ()), p.snd.snd.1, ())))))
 (some
 (LO.out 12 ((x00, (), (), x03, x04, ()), ((), ()), x2, ())))
theorem gl_i_clashes_12 (x00 : CVal) (x03 : Int) (x04 : Int) (x2 : List CVal) (R : LO k_i_clashes_12.T) (h : nl_i_clashes_12 CC LL x00 x03 x04 x2 = some R) : LL f_i_clashes 12 lc_i_clashes_12 [] k_i_clashes_12 ((x00, (), (), x03, x04, ()), ((), ()), x2, ()) = some R := loopW (Eq.trans (b := nl_i_clashes_12 CC LL x00 x03 x04 x2) (by kernel_rfl) h)
noncomputable def nl_i_clashes_2 (C : CallT) (L : LoopT) (x00 : CVal) (x03 : List CVal) (x04 : List CVal) (x05 : Int) (x06 : Int) (x2 : List CVal) : Option (LO k_i_clashes_2.T) :=
 br (decide (x06 < x05))
 (br (decide (0 ≤ x06) && true)
 (x04[x06.toNat]?.bind fun y =>
 br (CVal.fits true 7 y)
 ((y.sub 0 7).bind fun y =>
 br (CVal.isAggN 7 y)
 ((y.cell 0).bind fun c =>
 (y.cell 1).bind fun c_1 =>
 (y.cell 2).bind fun c_2 =>
 (y.cell 3).bind fun c_3 =>
 (y.cell 4).bind fun c_4 =>
 (y.cell 5).bind fun c_5 =>
 (y.cell 6).bind fun c_6 =>
 br (decide (0 ≤ x06) && true)
 (x03[x06.toNat]?.bind fun y =>
 br (CVal.fits false 1 y)
 ((y.cell 0).bind fun c_7 =>
 (C f_i_things [AVal.v c_7] []).bind fun r =>
 r.1.asSl.bind fun xs =>
 r.1.asSl.bind fun xs_1 =>
 r.1.asSl.bind fun xs_2 =>
 (CVal.asInt i64 c).bind fun n =>
 (CVal.asInt i64 c_1).bind fun n_1 =>
 (CVal.asInt i64 c_2).bind fun n_2 =>
 (CVal.asInt i64 c_3).bind fun n_3 =>
 (CVal.asInt i64 c_4).bind fun n_4 =>
 c_5.asSl.bind fun xs_3 =>
 (CVal.asInt i64 c_6).bind fun n_5 =>
 (L f_i_clashes 4 lc_i_clashes_4 [] k_i_clashes_4
 ((x00, (), (), x03, x06, (), xs_1,
 x04, x05, x06, xs_2, (↑xs.length : Int), 0,
 ()),
 ((), ()), x2,
 (n, n_1, n_2, n_3, n_4, xs_3, n_5, ()),
 ())).bind
 fun r =>
 loK r (fun r => some (LO.ret r)) fun j p =>
 br (j == 4)
 ((C f_i_Writes
 [AVal.v
 (CVal.agg
 [CVal.int i64 p.snd.snd.snd.fst.1,
 CVal.int i64
 p.snd.snd.snd.fst.snd.1,
 CVal.int i64
 p.snd.snd.snd.fst.snd.snd.1,
 CVal.int i64
 p.snd.snd.snd.fst.snd.snd.snd.1,
 CVal.int i64
 p.snd.snd.snd.fst.snd.snd.snd.snd.1,
 CVal.sl
 p.snd.snd.snd.fst.snd.snd.snd.snd.snd.1,
 CVal.int i64
 p.snd.snd.snd.fst.snd.snd.snd.snd.snd.snd.1])]
 []).bind
 fun r =>
 (CVal.asInt i64 r.1).bind fun n =>
 br (decide (0 ≤ n))
 ((CVal.asFp p.fst.1).bind fun y =>
 (y.1.sub y.2 4).bind fun y =>
 (C f_i_behind
 [AVal.v y,
 AVal.v
 (CVal.int i64
 p.fst.snd.snd.snd.snd.1),
 AVal.v (CVal.sl p.fst.snd.snd.snd.1)]
 []).bind
 fun r_1 =>
 r_1.1.asSl.bind fun xs =>
 (CVal.asInt i64 r.1).bind fun n =>
 r_1.1.asSl.bind fun xs_4 =>
 (L f_i_clashes 8 lc_i_clashes_8
 [] k_i_clashes_8
 ((p.fst.1, (), (),
 p.fst.snd.snd.snd.1,
 (), n,
 p.fst.snd.snd.snd.snd.snd.snd.snd.1,
 p.fst.snd.snd.snd.snd.snd.snd.snd.snd.1,
 p.fst.snd.snd.snd.snd.snd.snd.snd.snd.snd.1,
 xs_4, (↑xs.length : Int),
 0, ()),
 ((), ()),
 p.snd.snd.1,
 (p.snd.snd.snd.fst.1,
 p.snd.snd.snd.fst.snd.1,
 p.snd.snd.snd.fst.snd.snd.1,
 p.snd.snd.snd.fst.snd.snd.snd.1,
 p.snd.snd.snd.fst.snd.snd.snd.snd.1,
 p.snd.snd.snd.fst.snd.snd.snd.snd.snd.1,
 p.snd.snd.snd.fst.snd.snd.snd.snd.snd.snd.1,
 ()),
 ())).bind
 fun r =>
 loK r (fun r => some (LO.ret r))
 fun j p =>
 br (j == 8)
 (br
 (decide
 (p.snd.snd.snd.fst.1 =
 17))
 (br
 (decide
 (0 ≤
 p.snd.snd.snd.fst.snd.snd.snd.snd.snd.snd.1) &&
 true)
 (p.fst.snd.snd.snd.1[Int.toNat
 p.snd.snd.snd.fst.snd.snd.snd.snd.snd.snd.1]?.bind
 fun y =>
 br
 (CVal.fits false 1
 y)
 ((y.cell 0).bind
 fun c =>
 (C f_i_things [AVal.v c]
 []).bind
 fun r =>
 r.1.asSl.bind
 fun xs =>
 r.1.asSl.bind
 fun xs_5 =>
 (L f_i_clashes
 10
 lc_i_clashes_10
 []
 k_i_clashes_10
 ((p.fst.1,
 (),
 (),
 p.fst.snd.snd.snd.1,
 (),
 p.fst.snd.snd.snd.snd.snd.snd.1,
 p.fst.snd.snd.snd.snd.snd.snd.snd.1,
 p.fst.snd.snd.snd.snd.snd.snd.snd.snd.1,
 xs_5,
 (↑xs.length :
 Int),
 (0 :
 Int),
 ()),
 ((),
 ()),
 p.snd.snd.1,
 (p.snd.snd.snd.fst.1,
 p.snd.snd.snd.fst.snd.1,
 p.snd.snd.snd.fst.snd.snd.1,
 p.snd.snd.snd.fst.snd.snd.snd.1,
 p.snd.snd.snd.fst.snd.snd.snd.snd.1,
 p.snd.snd.snd.fst.snd.snd.snd.snd.snd.1,
 p.snd.snd.snd.fst.snd.snd.snd.snd.snd.snd.1,
 ()),
 ())).bind
 fun r =>
 loK r
 (fun r =>
 some
 (LO.ret
 r))
 fun j p =>
 br
 (j ==
 (10 :
 Nat))
 (L
 f_i_clashes
 2
 lc_i_clashes_2
 []
 k_i_clashes_2
 ((p.fst.1,
 (),
 (),
 p.fst.snd.snd.snd.1,
 p.fst.snd.snd.snd.snd.snd.1,
 p.fst.snd.snd.snd.snd.snd.snd.1,
 i64.wrap
 (p.fst.snd.snd.snd.snd.snd.snd.snd.1 +
 (1 :
 Int)),
 ()),
 ((),
 ()),
 p.snd.snd.1,
 ()))
 (br
 (j ==
 (3 :
 Nat))
 (L
 f_i_clashes
 (2 :
 Nat)
 lc_i_clashes_2
 []
 k_i_clashes_2
 ((p.fst.1,
 (),
 (),
 p.fst.snd.snd.snd.1,
 p.fst.snd.snd.snd.snd.snd.1,
 p.fst.snd.snd.snd.snd.snd.snd.1,
 i64.wrap
 (p.fst.snd.snd.snd.snd.snd.snd.snd.1 +
 (1 :
 Int)),
 ()),
 ((),
 ()),
 p.snd.snd.1,
 ()))
 (some
 (LO.out
 j
 ((p.fst.1,
 (),
 (),
 p.fst.snd.snd.snd.1,
 p.fst.snd.snd.snd.snd.snd.1,
 p.fst.snd.snd.snd.snd.snd.snd.1,
 p.fst.snd.snd.snd.snd.snd.snd.snd.1,
 ()),
 ((),
 ()),
 p.snd.snd.1,
 ())))))
 none)
 none)
 (L f_i_clashes 2
 lc_i_clashes_2 []
 k_i_clashes_2
 ((p.fst.1, (),
 (),
 p.fst.snd.snd.snd.1,
 p.fst.snd.snd.snd.snd.snd.snd.1,
 p.fst.snd.snd.snd.snd.snd.snd.snd.1,
 i64.wrap
 (p.fst.snd.snd.snd.snd.snd.snd.snd.snd.1 +
 1),
 ()),
 ((), ()),
 p.snd.snd.1, ())))
 (br (j == 3)
 (L f_i_clashes 2
 lc_i_clashes_2 []
 k_i_clashes_2
 ((p.fst.1, (),
 (),
 p.fst.snd.snd.snd.1,
 p.fst.snd.snd.snd.snd.snd.snd.1,
 p.fst.snd.snd.snd.snd.snd.snd.snd.1,
 i64.wrap
 (p.fst.snd.snd.snd.snd.snd.snd.snd.snd.1 +
 1),
 ()),
 ((), ()),
 p.snd.snd.1, ()))
 (some
 (LO.out j
 ((p.fst.1, (),
 (),
 p.fst.snd.snd.snd.1,
 p.fst.snd.snd.snd.snd.snd.snd.1,
 p.fst.snd.snd.snd.snd.snd.snd.snd.1,
 p.fst.snd.snd.snd.snd.snd.snd.snd.snd.1,
 ()),
 ((), ()),
 p.snd.snd.1,
 ())))))
 (br (decide (p.snd.snd.snd.fst.1 = 17))
 (br
 (decide
 (0 ≤
 p.snd.snd.snd.fst.snd.snd.snd.snd.snd.snd.1) &&
 true)
 (p.fst.snd.snd.snd.1[Int.toNat
 p.snd.snd.snd.fst.snd.snd.snd.snd.snd.snd.1]?.bind
 fun y =>
 br (CVal.fits false 1 y)
 ((y.cell 0).bind fun c =>
 (C f_i_things [AVal.v c] []).bind fun r =>
 r.1.asSl.bind fun xs =>
 r.1.asSl.bind fun xs_4 =>
 (L f_i_clashes 10
 lc_i_clashes_10 []
 k_i_clashes_10
 ((p.fst.1, (),
 (),
 p.fst.snd.snd.snd.1,
 (),
 p.fst.snd.snd.snd.snd.snd.snd.snd.1,
 p.fst.snd.snd.snd.snd.snd.snd.snd.snd.1,
 p.fst.snd.snd.snd.snd.snd.snd.snd.snd.snd.1,
 xs_4, (↑xs.length : Int),
 0, ()),
 ((), ()),
 p.snd.snd.1,
 (p.snd.snd.snd.fst.1,
 p.snd.snd.snd.fst.snd.1,
 p.snd.snd.snd.fst.snd.snd.1,
 p.snd.snd.snd.fst.snd.snd.snd.1,
 p.snd.snd.snd.fst.snd.snd.snd.snd.1,
 p.snd.snd.snd.fst.snd.snd.snd.snd.snd.1,
 p.snd.snd.snd.fst.snd.snd.snd.snd.snd.snd.1,
 ()),
 ())).bind
 fun r =>
 loK r (fun r => some (LO.ret r))
 fun j p =>
 br (j == 10)
 (L f_i_clashes 2
 lc_i_clashes_2 []
 k_i_clashes_2
 ((p.fst.1, (),
 (),
 p.fst.snd.snd.snd.1,
 p.fst.snd.snd.snd.snd.snd.1,
 p.fst.snd.snd.snd.snd.snd.snd.1,
 i64.wrap
 (p.fst.snd.snd.snd.snd.snd.snd.snd.1 +
 1),
 ()),
 ((), ()),
 p.snd.snd.1, ()))
 (br (j == 3)
 (L f_i_clashes 2
 lc_i_clashes_2 []
 k_i_clashes_2
 ((p.fst.1, (),
 (),
 p.fst.snd.snd.snd.1,
 p.fst.snd.snd.snd.snd.snd.1,
 p.fst.snd.snd.snd.snd.snd.snd.1,
 i64.wrap
 (p.fst.snd.snd.snd.snd.snd.snd.snd.1 +
 1),
 ()),
 ((),
 ()),
 p.snd.snd.1,
 ()))
 (some
 (LO.out j
 ((p.fst.1, (),
 (),
 p.fst.snd.snd.snd.1,
 p.fst.snd.snd.snd.snd.snd.1,
 p.fst.snd.snd.snd.snd.snd.snd.1,
 p.fst.snd.snd.snd.snd.snd.snd.snd.1,
 ()),
 ((),
 ()),
 p.snd.snd.1,
 ())))))
 none)
 none)
 (L f_i_clashes 2 lc_i_clashes_2 []
 k_i_clashes_2
 ((p.fst.1, (), (),
 p.fst.snd.snd.snd.1,
 p.fst.snd.snd.snd.snd.snd.snd.snd.1,
 p.fst.snd.snd.snd.snd.snd.snd.snd.snd.1,
 i64.wrap
 (p.fst.snd.snd.snd.snd.snd.snd.snd.snd.snd.1 +
 1),
 ()),
 ((), ()), p.snd.snd.1,
 ()))))
 (br (j == 3)
 (L f_i_clashes 2 lc_i_clashes_2 [] k_i_clashes_2
 ((p.fst.1, (), (),
 p.fst.snd.snd.snd.1,
 p.fst.snd.snd.snd.snd.snd.snd.snd.1,
 p.fst.snd.snd.snd.snd.snd.snd.snd.snd.1,
 i64.wrap
 (p.fst.snd.snd.snd.snd.snd.snd.snd.snd.snd.1 +
 1),
 ()),
 ((), ()), p.snd.snd.1, ()))
 (some
 (LO.out j
 ((p.fst.1, (), (),
 p.fst.snd.snd.snd.1,
 p.fst.snd.snd.snd.snd.snd.snd.snd.1,
 p.fst.snd.snd.snd.snd.snd.snd.snd.snd.1,
 p.fst.snd.snd.snd.snd.snd.snd.snd.snd.snd.1,
 ()),
 ((), ()), p.snd.snd.1,
 ())))))
 none)
 none)
 none)
 none)
 none)
 (some
 (LO.out 2
 ((x00, (), (), x03, x04, x05, x06, ()), ((), ()), x2, ())))
theorem gl_i_clashes_2 (x00 : CVal) (x03 : List CVal) (x04 : List CVal) (x05 : Int) (x06 : Int) (x2 : List CVal) (R : LO k_i_clashes_2.T) (h : nl_i_clashes_2 CC LL x00 x03 x04 x05 x06 x2 = some R) : LL f_i_clashes 2 lc_i_clashes_2 [] k_i_clashes_2 ((x00, (), (), x03, x04, x05, x06, ()), ((), ()), x2, ()) = some R := loopW (Eq.trans (b := nl_i_clashes_2 CC LL x00 x03 x04 x05 x06 x2) (by kernel_rfl) h)
noncomputable def nl_s_l9Ins_1 (C : CallT) (L : LoopT) (x02 : Int) (x10 : Int) (x11 : Int) (x12 : Int) (x13 : List CVal) (x20 : Int) (x21 : Int) (x22 : Int) (x23 : Int) (x24 : Int) (x25 : List CVal) (x26 : Int) : Option (LO k_s_l9Ins_1.T) :=
 br (decide (x02 < (↑x25.length : Int)))
 (br (decide (0 ≤ x02) && true)
 (x25[x02.toNat]?.bind fun y =>
 br (CVal.fits false 1 y)
 ((y.cell 0).bind fun c =>
 (C f_s_l1In
 [AVal.v c, AVal.v (CVal.int i64 0),
 AVal.v (CVal.int i64 (i64.wrap (x12 - 1)))]
 []).bind
 fun r =>
 r.1.asBool.bind fun b =>
 br (!b) (some (LO.ret (CVal.bool false, [])))
 (L f_s_l9Ins 1 lc_s_l9Ins_1 [] k_s_l9Ins_1
 (((), (), i64.wrap (x02 + 1), ()),
 (x10, x11, x12, x13, ()), (x20, x21, x22, x23, x24, x25, x26, ()), ())))
 none)
 none)
 (some
 (LO.out 1
 (((), (), x02, ()), (x10, x11, x12, x13, ()),
 (x20, x21, x22, x23, x24, x25, x26, ()), ())))
theorem gl_s_l9Ins_1 (x02 : Int) (x10 : Int) (x11 : Int) (x12 : Int) (x13 : List CVal) (x20 : Int) (x21 : Int) (x22 : Int) (x23 : Int) (x24 : Int) (x25 : List CVal) (x26 : Int) (R : LO k_s_l9Ins_1.T) (h : nl_s_l9Ins_1 CC LL x02 x10 x11 x12 x13 x20 x21 x22 x23 x24 x25 x26 = some R) : LL f_s_l9Ins 1 lc_s_l9Ins_1 [] k_s_l9Ins_1 (((), (), x02, ()), (x10, x11, x12, x13, ()), (x20, x21, x22, x23, x24, x25, x26, ()), ()) = some R := loopW (Eq.trans (b := nl_s_l9Ins_1 CC LL x02 x10 x11 x12 x13 x20 x21 x22 x23 x24 x25 x26) (by kernel_rfl) h)
noncomputable def nl_s_l11All_0 (C : CallT) (L : LoopT) (x01 : List CVal) (x02 : Int) (x1 : List CVal) : Option (LO k_s_l11All_0.T) :=
 br (decide (x02 < (↑x01.length : Int)))
 ((L f_s_l11All 2 lc_s_l11All_2 [PSh.arr (Md.mk true true 0) false 1] k_s_l11All_2
 (((), x01, x02, 0, ()), x1, ())).bind
 fun r =>
 loK r (fun r => some (LO.ret r)) fun j p =>
 br (j == 2)
 (L f_s_l11All 0 lc_s_l11All_0 [PSh.arr (Md.mk true true 0) false 1] k_s_l11All_0
 (((), p.fst.snd.1, i64.wrap (p.fst.snd.snd.1 + 1), ()), p.snd.1, ()))
 (br (j == 1)
 (L f_s_l11All 0 lc_s_l11All_0 [PSh.arr (Md.mk true true 0) false 1] k_s_l11All_0
 (((), p.fst.snd.1, i64.wrap (p.fst.snd.snd.1 + 1), ()), p.snd.1,
 ()))
 (some (LO.out j (((), p.fst.snd.1, p.fst.snd.snd.1, ()), p.snd.1, ())))))
 (some (LO.out 0 (((), x01, x02, ()), x1, ())))
theorem gl_s_l11All_0 (x01 : List CVal) (x02 : Int) (x1 : List CVal) (R : LO k_s_l11All_0.T) (h : nl_s_l11All_0 CC LL x01 x02 x1 = some R) : LL f_s_l11All 0 lc_s_l11All_0 [PSh.arr (Md.mk true true 0) false 1] k_s_l11All_0 (((), x01, x02, ()), x1, ()) = some R := loopW (Eq.trans (b := nl_s_l11All_0 CC LL x01 x02 x1) (by kernel_rfl) h)
noncomputable def nl_i_behind_2 (C : CallT) (L : LoopT) (x00 : List CVal) (x02 : List CVal) (x03 : Int) (x04 : Int) (x05 : List CVal) (x06 : Int) (x07 : Int) (x1 : List CVal) : Option (LO k_i_behind_2.T) :=
 br (decide (x07 < x06))
 (br (decide (0 ≤ x07) && true)
 (x05[x07.toNat]?.bind fun y =>
 br (CVal.fits false 1 y)
 ((y.cell 0).bind fun c =>
 br (decide (0 ≤ x07) && true)
 (br (decide (x07.toNat < x1.length) && true)
 (x1[x07.toNat]?.bind fun y =>
 (y.cell 0).bind fun c_1 =>
 c_1.asBool.bind fun b =>
 br b
 (br (decide (0 ≤ x07) && true)
 (br (decide (x07.toNat < x1.length) && true)
 (x1[x07.toNat]?.bind fun y =>
 br (CVal.fits false 1 y)
 (L f_i_behind 2 lc_i_behind_2 [] k_i_behind_2
 ((x00, (), x02, x03, x04, x05, x06, i64.wrap (x07 + 1),
 ()),
 x1.set x07.toNat (CVal.bool true), ()))
 (br (y.isAgg && decide (1 ≤ y.cells.length))
 (L f_i_behind 2 lc_i_behind_2 [] k_i_behind_2
 ((x00, (), x02, x03, x04, x05, x06, i64.wrap (x07 + 1),
 ()),
 x1.set x07.toNat (CVal.agg (CVal.bool true :: List.drop 1 y.cells)),
 ()))
 none))
 none)
 none)
 (br (decide (0 ≤ x07) && true)
 (br (decide (x07.toNat < x1.length) && true)
 (br (c.isFlat && true)
 (c.asBool.bind fun b =>
 x1[x07.toNat]?.bind fun y =>
 br (CVal.fits false 1 y)
 (L f_i_behind 2 lc_i_behind_2 [] k_i_behind_2
 ((x00, (), x02, x03, x04, x05, x06, i64.wrap (x07 + 1),
 ()),
 x1.set x07.toNat (CVal.bool b), ()))
 (br (y.isAgg && decide (1 ≤ y.cells.length))
 (L f_i_behind 2 lc_i_behind_2 [] k_i_behind_2
 ((x00, (), x02, x03, x04, x05, x06, i64.wrap (x07 + 1),
 ()),
 x1.set x07.toNat (CVal.agg (CVal.bool b :: List.drop 1 y.cells)),
 ()))
 none))
 none)
 none)
 none))
 none)
 none)
 none)
 none)
 (some (LO.out 2 ((x00, (), x02, x03, x04, x05, x06, x07, ()), x1, ())))
theorem gl_i_behind_2 (x00 : List CVal) (x02 : List CVal) (x03 : Int) (x04 : Int) (x05 : List CVal) (x06 : Int) (x07 : Int) (x1 : List CVal) (R : LO k_i_behind_2.T) (h : nl_i_behind_2 CC LL x00 x02 x03 x04 x05 x06 x07 x1 = some R) : LL f_i_behind 2 lc_i_behind_2 [] k_i_behind_2 ((x00, (), x02, x03, x04, x05, x06, x07, ()), x1, ()) = some R := loopW (Eq.trans (b := nl_i_behind_2 CC LL x00 x02 x03 x04 x05 x06 x07 x1) (by kernel_rfl) h)
noncomputable def nl_s_l10Node_2 (C : CallT) (L : LoopT) (x01 : Int) (x02 : Int) (x03 : List CVal) (x04 : Int) (x10 : Int) (x11 : Int) (x12 : Int) (x13 : List CVal) (x15 : Bool) (x3 : List CVal) : Option (LO k_s_l10Node_2.T) :=
 br (decide (x04 < (↑x03.length : Int)))
 (br (decide (0 ≤ x04) && true)
 (x03[x04.toNat]?.bind fun y =>
 br (CVal.fits false 1 y)
 ((y.cell 0).bind fun c =>
 (C f_s_l10From
 [AVal.lptr 0 0, AVal.v (CVal.int i64 x01), AVal.v c,
 AVal.v (CVal.int i64 x02)]
 [PB.box
 [AVal.v (CVal.int i64 x10), AVal.v (CVal.int i64 x11),
 AVal.v (CVal.int i64 x12), AVal.v (CVal.sl x13), AVal.lref 1 0,
 AVal.v (CVal.bool x15)],
 PB.arr (Md.mk true false 0) true 1 x3]).bind
 fun r =>
 r.2[0]?.bind fun y =>
 r.2[1]?.bind fun y_1 =>
 y[0]?.bind fun y_2 =>
 y[1]?.bind fun y_3 =>
 y[2]?.bind fun y_4 =>
 y[3]?.bind fun y_5 =>
 y[4]?.bind fun y_6 =>
 y[5]?.bind fun y =>
 y_6.asSl.bind fun xs =>
 (CVal.asInt i64 y_2).bind fun n =>
 (CVal.asInt i64 y_3).bind fun n_1 =>
 (CVal.asInt i64 y_4).bind fun n_2 =>
 y_5.asSl.bind fun xs_1 =>
 y.asBool.bind fun b =>
 L f_s_l10Node 2 lc_s_l10Node_2
 [PSh.box [none, none, none, none, some 1, none],
 PSh.arr (Md.mk true false 0) true 1]
 k_s_l10Node_2
 (((), x01, x02, x03, i64.wrap (x04 + 1), ()),
 (n, n_1, n_2, xs_1, (), b, ()), (), xs, ()))
 none)
 none)
 (some
 (LO.out 2
 (((), x01, x02, x03, x04, ()), (x10, x11, x12, x13, (), x15, ()), (), x3,
 ())))
theorem gl_s_l10Node_2 (x01 : Int) (x02 : Int) (x03 : List CVal) (x04 : Int) (x10 : Int) (x11 : Int) (x12 : Int) (x13 : List CVal) (x15 : Bool) (x3 : List CVal) (R : LO k_s_l10Node_2.T) (h : nl_s_l10Node_2 CC LL x01 x02 x03 x04 x10 x11 x12 x13 x15 x3 = some R) : LL f_s_l10Node 2 lc_s_l10Node_2 [PSh.box [none, none, none, none, some 1, none], PSh.arr (Md.mk true false 0) true 1] k_s_l10Node_2 (((), x01, x02, x03, x04, ()), (x10, x11, x12, x13, (), x15, ()), (), x3, ()) = some R := loopW (Eq.trans (b := nl_s_l10Node_2 CC LL x01 x02 x03 x04 x10 x11 x12 x13 x15 x3) (by kernel_rfl) h)
noncomputable def nl_i_wanted_0 (C : CallT) (L : LoopT) (x00 : Int) (x040 : CVal) (x05 : List CVal) (x06 : Int) (x07 : Int) (x10 : Int) (x11 : Int) (x12 : Int) (x13 : List CVal) (x3 : List CVal) (x40 : Int) (x41 : Int) (x42 : Int) (x43 : Int) (x44 : Int) (x45 : List CVal) (x46 : Int) : Option (LO k_i_wanted_0.T) :=
 br (decide (x07 < x06))
 (br (decide (0 ≤ x07) && true)
 (x05[x07.toNat]?.bind fun y =>
 br (CVal.fits false 1 y)
 ((y.cell 0).bind fun c =>
 (C f_i_Writes
 [AVal.v
 (CVal.agg
 [CVal.int i64 x40, CVal.int i64 x41, CVal.int i64 x42,
 CVal.int i64 x43, CVal.int i64 x44, CVal.sl x45, CVal.int i64 x46])]
 []).bind
 fun r =>
 (C f_i_wanted_1 [AVal.v c, AVal.v r.1, AVal.v x040, AVal.lptr 0 0]
 [PB.box [AVal.lref 1 0], PB.arr (Md.mk true false 0) true 1 x3]).bind
 fun r =>
 r.2[0]?.bind fun y =>
 r.2[1]?.bind fun y_1 =>
 y[0]?.bind fun y =>
 y.asSl.bind fun xs =>
 L f_i_wanted 0 lc_i_wanted_0 [] k_i_wanted_0
 ((x00, (), (), (), (x040, ()), x05, x06,
 i64.wrap (x07 + 1), ()),
 (x10, x11, x12, x13, ()), ((), ()), xs,
 (x40, x41, x42, x43, x44, x45, x46, ()), ()))
 none)
 none)
 (some
 (LO.out 0
 ((x00, (), (), (), (x040, ()), x05, x06, x07, ()),
 (x10, x11, x12, x13, ()), ((), ()), x3, (x40, x41, x42, x43, x44, x45, x46, ()),
 ())))
theorem gl_i_wanted_0 (x00 : Int) (x040 : CVal) (x05 : List CVal) (x06 : Int) (x07 : Int) (x10 : Int) (x11 : Int) (x12 : Int) (x13 : List CVal) (x3 : List CVal) (x40 : Int) (x41 : Int) (x42 : Int) (x43 : Int) (x44 : Int) (x45 : List CVal) (x46 : Int) (R : LO k_i_wanted_0.T) (h : nl_i_wanted_0 CC LL x00 x040 x05 x06 x07 x10 x11 x12 x13 x3 x40 x41 x42 x43 x44 x45 x46 = some R) : LL f_i_wanted 0 lc_i_wanted_0 [] k_i_wanted_0 ((x00, (), (), (), (x040, ()), x05, x06, x07, ()), (x10, x11, x12, x13, ()), ((), ()), x3,
 (x40, x41, x42, x43, x44, x45, x46, ()), ()) = some R := loopW (Eq.trans (b := nl_i_wanted_0 CC LL x00 x040 x05 x06 x07 x10 x11 x12 x13 x3 x40 x41 x42 x43 x44 x45 x46) (by kernel_rfl) h)
noncomputable def nl_s_l10Guard_0 (C : CallT) (L : LoopT) (x00 : Int) (x03 : Int) (x10 : Int) (x11 : Int) (x12 : Int) (x13 : List CVal) (x2 : List CVal) : Option (LO k_s_l10Guard_0.T) :=
 (br (decide (x03 < x00)) (some (decide (x03 < (↑x13.length : Int)), ())) (some (false, ()))).bind
 fun y =>
 br y.1
 (br (decide (0 ≤ x03) && true)
 (x13[x03.toNat]?.bind fun y =>
 br (CVal.fits true 7 y)
 ((y.cell 0).bind fun c =>
 (CVal.asInt i64 c).bind fun n =>
 br (decide (n = 17))
 (br (decide (x2.length + 1 ≤ 4294967296) && true && true)
 (L f_s_l10Guard 0 lc_s_l10Guard_0 [] k_s_l10Guard_0
 ((x00, (), (), i64.wrap (x03 + 1), ()),
 (x10, x11, x12, x13, ()), x2 ++ [CVal.int i64 x03], ()))
 none)
 ((CVal.asInt i64 c).bind fun n =>
 br (decide (n = 18))
 (br (decide (0 < (↑x2.length : Int)))
 (br
 (decide (0 ≤ i64.wrap ((↑x2.length : Int) - 1)) &&
 decide (i64.wrap ((↑x2.length : Int) - 1) ≤ (↑x2.length : Int)) &&
 true)
 (L f_s_l10Guard 0 lc_s_l10Guard_0 [] k_s_l10Guard_0
 ((x00, (), (), i64.wrap (x03 + 1), ()),
 (x10, x11, x12, x13, ()),
 List.take (i64.wrap ((↑x2.length : Int) - 1)).toNat x2, ()))
 none)
 (L f_s_l10Guard 0 lc_s_l10Guard_0 [] k_s_l10Guard_0
 ((x00, (), (), i64.wrap (x03 + 1), ()),
 (x10, x11, x12, x13, ()), x2, ())))
 (L f_s_l10Guard 0 lc_s_l10Guard_0 [] k_s_l10Guard_0
 ((x00, (), (), i64.wrap (x03 + 1), ()),
 (x10, x11, x12, x13, ()), x2, ()))))
 none)
 none)
 (some
 (LO.out 0
 ((x00, (), (), x03, ()), (x10, x11, x12, x13, ()), x2, ())))
theorem gl_s_l10Guard_0 (x00 : Int) (x03 : Int) (x10 : Int) (x11 : Int) (x12 : Int) (x13 : List CVal) (x2 : List CVal) (R : LO k_s_l10Guard_0.T) (h : nl_s_l10Guard_0 CC LL x00 x03 x10 x11 x12 x13 x2 = some R) : LL f_s_l10Guard 0 lc_s_l10Guard_0 [] k_s_l10Guard_0 ((x00, (), (), x03, ()), (x10, x11, x12, x13, ()), x2, ()) = some R := loopW (Eq.trans (b := nl_s_l10Guard_0 CC LL x00 x03 x10 x11 x12 x13 x2) (by kernel_rfl) h)
noncomputable def nl_slices_Index_byte_0 (C : CallT) (L : LoopT) (x00 : List CVal) (x01 : Int) (x02 : Int) (x03 : Int) : Option (LO k_slices_Index_byte_0.T) :=
 br (decide (x03 < x02))
 (br (decide (0 ≤ x03) && true)
 (x00[x03.toNat]?.bind fun y =>
 br (CVal.fits false 1 y)
 ((y.cell 0).bind fun c =>
 (CVal.asInt IntKind.u8 c).bind fun n =>
 br (decide (x01 = n)) (some (LO.ret (CVal.int i64 x03, [])))
 (L f_slices_Index_byte 0 lc_slices_Index_byte_0 [] k_slices_Index_byte_0
 ((x00, x01, x02, i64.wrap (x03 + 1), ()), ())))
 none)
 none)
 (some (LO.out 0 ((x00, x01, x02, x03, ()), ())))
theorem gl_slices_Index_byte_0 (x00 : List CVal) (x01 : Int) (x02 : Int) (x03 : Int) (R : LO k_slices_Index_byte_0.T) (h : nl_slices_Index_byte_0 CC LL x00 x01 x02 x03 = some R) : LL f_slices_Index_byte 0 lc_slices_Index_byte_0 [] k_slices_Index_byte_0 ((x00, x01, x02, x03, ()), ()) = some R := loopW (Eq.trans (b := nl_slices_Index_byte_0 CC LL x00 x01 x02 x03) (by kernel_rfl) h)
end Go.Proofs.Ytmjjaoffeajcbaa.Abs
