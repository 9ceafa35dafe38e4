/- What the functions come to in the abstract machine. -/
import Derived.Test.YtbimglfmmmlicaaH1Ann
import Derived.KernelRfl
set_option linter.unusedVariables false
set_option maxRecDepth 100000
namespace Go.Proofs.Ytbimglfmmmlicaa.Abs
open Go Go.Proofs
noncomputable def nf_l_FnExactFreeOf (C : CallT) (L : LoopT) (a0 : Int) (a1 : Int) (a2 : List UInt8) (a3 : List UInt8) (a40 : Int) (a41 : Int) (a42 : List CVal) (a5 : List CVal) (a6 : List CVal) : Option Ret :=
 (C f_l_szTerm
 [AVal.v
 (CVal.agg
 [CVal.int IntKind.i64 a0, CVal.int IntKind.i64 a1, CVal.str a2, CVal.str a3, CVal.int IntKind.i64 a40,
 CVal.int IntKind.i64 a41, CVal.sl a42, CVal.sl a5, CVal.sl a6]),
 AVal.v (CVal.int IntKind.i64 (1048576 : Int))]
 []).bind
 fun r =>
 (CVal.asInt IntKind.i64 r.1).bind fun n =>
 br (decide (n < (0 : Int))) (some (CVal.bool true, []))
 ((C f_l_toTerm
 [AVal.v
 (CVal.agg
 [CVal.int IntKind.i64 a0, CVal.int IntKind.i64 a1, CVal.str a2, CVal.str a3, CVal.int IntKind.i64 a40,
 CVal.int IntKind.i64 a41, CVal.sl a42, CVal.sl a5, CVal.sl a6])]
 []).bind
 fun r =>
 (C f_s_FreeOf [AVal.v r.1] []).bind fun r =>
 (C f_l_toTerm
 [AVal.v
 (CVal.agg
 [CVal.int IntKind.i64 a0, CVal.int IntKind.i64 a1, CVal.str a2, CVal.str a3,
 CVal.int IntKind.i64 a40, CVal.int IntKind.i64 a41, CVal.sl a42, CVal.sl a5, CVal.sl a6])]
 []).bind
 fun r_1 =>
 br (CVal.isAggN (9 : Nat) r_1.1)
 ((r_1.1.cell (0 : Nat)).bind fun c =>
 (r_1.1.cell (1 : Nat)).bind fun c_1 =>
 (r_1.1.cell (2 : Nat)).bind fun c_2 =>
 (r_1.1.cell (3 : Nat)).bind fun c_3 =>
 (r_1.1.cell (4 : Nat)).bind fun c_4 =>
 (r_1.1.cell (5 : Nat)).bind fun c_5 =>
 (r_1.1.cell (6 : Nat)).bind fun c_6 =>
 (r_1.1.cell (7 : Nat)).bind fun c_7 =>
 (r_1.1.cell (8 : Nat)).bind fun c_8 =>
 c_6.asSl.bind fun xs =>
 c_7.asSl.bind fun xs_1 =>
 c_8.asSl.bind fun xs_2 =>
 (C f_i_FreeOf
 [AVal.v
 (CVal.agg
 [c, c_1, c_2, c_3, c_4, c_5, CVal.sl xs, CVal.sl xs_1, CVal.sl xs_2])]
 []).bind
 fun r_2 =>
 br (!r_2.1.plain) none
 (br r_2.1.isFlat
 (r_2.1.asSl.bind fun xs_3 =>
 (C f_l_eqStringS [AVal.v (CVal.sl xs_3), AVal.v r.1] []).bind fun r_3 =>
 br (!scalar r_3.1) none
 (r_3.1.asBool.bind fun b =>
 br (!b) (some (CVal.bool false, []))
 ((C f_l_toTerm
 [AVal.v
 (CVal.agg
 [CVal.int IntKind.i64 a0, CVal.int IntKind.i64 a1,
 CVal.str a2, CVal.str a3, CVal.int IntKind.i64 a40,
 CVal.int IntKind.i64 a41, CVal.sl a42, CVal.sl a5,
 CVal.sl a6])]
 []).bind
 fun r_4 =>
 (C f_l_eqTerm
 [AVal.v
 (CVal.agg
 [c, c_1, c_2, c_3, c_4, c_5, CVal.sl xs,
 CVal.sl xs_1, CVal.sl xs_2]),
 AVal.v r_4.1]
 []).bind
 fun r_5 =>
 br (!scalar r_5.1) none
 (r_5.1.asBool.bind fun b =>
 br (!b) (some (CVal.bool false, []))
 ((C f_l_markTerm
 [AVal.agg
 [AVal.v c, AVal.v c_1, AVal.v c_2, AVal.v c_3,
 AVal.v c_4, AVal.v c_5,
 AVal.lref (0 : Nat) (0 : Nat),
 AVal.lref (1 : Nat) (0 : Nat),
 AVal.lref (2 : Nat) (0 : Nat)],
 AVal.v (CVal.int IntKind.i64 (1 : Int))]
 [PB.arr (Md.mk true true (0 : Nat)) false
 (3 : Nat) xs,
 PB.arr (Md.mk true true (0 : Nat)) false
 (3 : Nat) xs_1,
 PB.arr (Md.mk true true (0 : Nat)) false
 (9 : Nat) xs_2]).bind
 fun r_6 =>
 r_6.2[(0 : Nat)]?.bind fun y =>
 r_6.2[(1 : Nat)]?.bind fun y =>
 r_6.2[(2 : Nat)]?.bind fun y =>
 ((CVal.asInt IntKind.i64 r_6.1).bind fun n =>
 br (decide (n < (0 : Int)))
 (some (true, PUnit.unit))
 ((C f_l_eqStringS
 [AVal.v (CVal.sl xs_3),
 AVal.v r.1]
 []).bind
 fun r =>
 br (!scalar r.1) none
 (r.1.asBool.bind fun b =>
 some (!b, PUnit.unit)))).bind
 fun y =>
 br y.1 (some (CVal.bool false, []))
 ((C f_l_markStringS
 [AVal.lref (0 : Nat) (0 : Nat),
 AVal.v
 (CVal.int IntKind.i64 (1 : Int))]
 [PB.arr (Md.mk true true (0 : Nat))
 false (1 : Nat) xs_3]).bind
 fun r_7 =>
 r_7.2[(0 : Nat)]?.bind fun y =>
 (C f_l_heldStringS
 [AVal.v (CVal.sl y),
 AVal.v
 (CVal.int IntKind.i64
 (1 : Int))]
 []).bind
 fun r_8 =>
 br (!scalar r_8.1) none
 ((CVal.asInt IntKind.i64 r_8.1).bind
 fun n =>
 br (decide (n < (0 : Int)))
 (some (CVal.bool false, []))
 ((CVal.asInt IntKind.i64
 r_8.1).bind
 fun n =>
 (CVal.asInt IntKind.i64
 r_7.1).bind
 fun n_1 =>
 br (!decide (n = n_1))
 (some
 (CVal.bool false, []))
 ((C f_l_toTerm
 [AVal.v
 (CVal.agg
 [CVal.int
 IntKind.i64
 a0,
 CVal.int
 IntKind.i64
 a1,
 CVal.str a2,
 CVal.str a3,
 CVal.int
 IntKind.i64
 a40,
 CVal.int
 IntKind.i64
 a41,
 CVal.sl a42,
 CVal.sl a5,
 CVal.sl
 a6])]
 []).bind
 fun r_9 =>
 (C f_i_FreeOf
 [AVal.v r_9.1]
 []).bind
 fun r_10 =>
 br r_10.1.isFlat
 (r_10.1.asSl.bind
 fun xs =>
 (C f_l_eqStringS
 [AVal.v
 (CVal.sl
 xs),
 AVal.v
 r.1]
 []).bind
 fun r =>
 br (!scalar r.1)
 none
 (r.1.asBool.bind
 fun b =>
 br (!b)
 (some
 (CVal.bool
 false,
 []))
 ((C
 f_l_heldStringS
 [AVal.v
 (CVal.sl
 y),
 AVal.v
 (CVal.int
 IntKind.i64
 (1 :
 Int))]
 []).bind
 fun r =>
 br
 (!scalar
 r.1)
 none
 ((CVal.asInt
 IntKind.i64
 r.1).bind
 fun
 n =>
 br
 (decide
 (n <
 (0 :
 Int)))
 (some
 (CVal.bool
 false,
 []))
 ((CVal.asInt
 IntKind.i64
 r.1).bind
 fun
 n =>
 (CVal.asInt
 IntKind.i64
 r_7.1).bind
 fun
 n_2 =>
 br
 (!decide
 (n =
 n_2))
 (some
 (CVal.bool
 false,
 []))
 (some
 (CVal.bool
 true,
 [])))))))
 none)))))))))
 none))
 none)
theorem eq_l_FnExactFreeOf (C : CallT) (L : LoopT) (a0 : Int) (a1 : Int) (a2 : List UInt8) (a3 : List UInt8) (a40 : Int) (a41 : Int) (a42 : List CVal) (a5 : List CVal) (a6 : List CVal) : evF E N C L f_l_FnExactFreeOf [AVal.v
 (CVal.agg
 [CVal.int IntKind.i64 a0, CVal.int IntKind.i64 a1, CVal.str a2, CVal.str a3, CVal.int IntKind.i64 a40,
 CVal.int IntKind.i64 a41, CVal.sl a42, CVal.sl a5, CVal.sl a6])] [] = nf_l_FnExactFreeOf C L a0 a1 a2 a3 a40 a41 a42 a5 a6 := by kernel_rfl
theorem go_l_FnExactFreeOf (a0 : Int) (a1 : Int) (a2 : List UInt8) (a3 : List UInt8) (a40 : Int) (a41 : Int) (a42 : List CVal) (a5 : List CVal) (a6 : List CVal) (R : Ret) (h : nf_l_FnExactFreeOf CC LL a0 a1 a2 a3 a40 a41 a42 a5 a6 = some R) : CC f_l_FnExactFreeOf [AVal.v
 (CVal.agg
 [CVal.int IntKind.i64 a0, CVal.int IntKind.i64 a1, CVal.str a2, CVal.str a3, CVal.int IntKind.i64 a40,
 CVal.int IntKind.i64 a41, CVal.sl a42, CVal.sl a5, CVal.sl a6])] [] = some R := fnW (by decide) rfl ((eq_l_FnExactFreeOf CC LL a0 a1 a2 a3 a40 a41 a42 a5 a6).trans h)
noncomputable def nf_l_eqTerm (C : CallT) (L : LoopT) (a0 : Int) (a1 : Int) (a2 : List UInt8) (a3 : List UInt8) (a40 : Int) (a41 : Int) (a42 : List CVal) (a5 : List CVal) (a6 : List CVal) (b0 : Int) (b1 : Int) (b2 : List UInt8) (b3 : List UInt8) (b40 : Int) (b41 : Int) (b42 : List CVal) (b5 : List CVal) (b6 : List CVal) : Option Ret :=
 br (!decide (a0 = b0)) (some (CVal.bool false, []))
 (br (!decide (a1 = b1)) (some (CVal.bool false, []))
 (br (!decide (a2 = b2)) (some (CVal.bool false, []))
 (br (!decide (a3 = b3)) (some (CVal.bool false, []))
 ((C f_l_eqTy
 [AVal.v (CVal.agg [CVal.int IntKind.i64 a40, CVal.int IntKind.i64 a41, CVal.sl a42]),
 AVal.v (CVal.agg [CVal.int IntKind.i64 b40, CVal.int IntKind.i64 b41, CVal.sl b42])]
 []).bind
 fun r =>
 r.1.asBool.bind fun b =>
 br (!b) (some (CVal.bool false, []))
 ((C f_l_eqTyS [AVal.v (CVal.sl a5), AVal.v (CVal.sl b5)] []).bind fun r =>
 r.1.asBool.bind fun b =>
 br (!b) (some (CVal.bool false, []))
 ((C f_l_eqTermS [AVal.v (CVal.sl a6), AVal.v (CVal.sl b6)] []).bind fun r =>
 r.1.asBool.bind fun b => br (!b) (some (CVal.bool false, [])) (some (CVal.bool true, []))))))))
theorem eq_l_eqTerm (C : CallT) (L : LoopT) (a0 : Int) (a1 : Int) (a2 : List UInt8) (a3 : List UInt8) (a40 : Int) (a41 : Int) (a42 : List CVal) (a5 : List CVal) (a6 : List CVal) (b0 : Int) (b1 : Int) (b2 : List UInt8) (b3 : List UInt8) (b40 : Int) (b41 : Int) (b42 : List CVal) (b5 : List CVal) (b6 : List CVal) : evF E N C L f_l_eqTerm [AVal.v
 (CVal.agg
 [CVal.int IntKind.i64 a0, CVal.int IntKind.i64 a1, CVal.str a2, CVal.str a3, CVal.int IntKind.i64 a40,
 CVal.int IntKind.i64 a41, CVal.sl a42, CVal.sl a5, CVal.sl a6]),
 AVal.v
 (CVal.agg
 [CVal.int IntKind.i64 b0, CVal.int IntKind.i64 b1, CVal.str b2, CVal.str b3, CVal.int IntKind.i64 b40,
 CVal.int IntKind.i64 b41, CVal.sl b42, CVal.sl b5, CVal.sl b6])] [] = nf_l_eqTerm C L a0 a1 a2 a3 a40 a41 a42 a5 a6 b0 b1 b2 b3 b40 b41 b42 b5 b6 := by kernel_rfl
theorem go_l_eqTerm (a0 : Int) (a1 : Int) (a2 : List UInt8) (a3 : List UInt8) (a40 : Int) (a41 : Int) (a42 : List CVal) (a5 : List CVal) (a6 : List CVal) (b0 : Int) (b1 : Int) (b2 : List UInt8) (b3 : List UInt8) (b40 : Int) (b41 : Int) (b42 : List CVal) (b5 : List CVal) (b6 : List CVal) (R : Ret) (h : nf_l_eqTerm CC LL a0 a1 a2 a3 a40 a41 a42 a5 a6 b0 b1 b2 b3 b40 b41 b42 b5 b6 = some R) : CC f_l_eqTerm [AVal.v
 (CVal.agg
 [CVal.int IntKind.i64 a0, CVal.int IntKind.i64 a1, CVal.str a2, CVal.str a3, CVal.int IntKind.i64 a40,
 CVal.int IntKind.i64 a41, CVal.sl a42, CVal.sl a5, CVal.sl a6]),
 AVal.v
 (CVal.agg
 [CVal.int IntKind.i64 b0, CVal.int IntKind.i64 b1, CVal.str b2, CVal.str b3, CVal.int IntKind.i64 b40,
 CVal.int IntKind.i64 b41, CVal.sl b42, CVal.sl b5, CVal.sl b6])] [] = some R := fnW (by decide) rfl ((eq_l_eqTerm CC LL a0 a1 a2 a3 a40 a41 a42 a5 a6 b0 b1 b2 b3 b40 b41 b42 b5 b6).trans h)
noncomputable def nf_l_szTermS (C : CallT) (L : LoopT) (a : List CVal) (b : Int) : Option Ret :=
 br (decide (IntKind.i64.wrap (b - (↑a.length : Int)) < (0 : Int))) (some (CVal.int IntKind.i64 (-1 : Int), []))
 ((L f_l_szTermS (0 : Nat) lc_l_szTermS_0 [] k_l_szTermS_0
 ((a, IntKind.i64.wrap (b - (↑a.length : Int)), (0 : Int), PUnit.unit), PUnit.unit)).bind
 fun r => loK r (fun r => some r) fun j p => br (j == (0 : Nat)) (some (CVal.int IntKind.i64 p.fst.snd.1, [])) none)
theorem eq_l_szTermS (C : CallT) (L : LoopT) (a : List CVal) (b : Int) : evF E N C L f_l_szTermS [AVal.v (CVal.sl a), AVal.v (CVal.int IntKind.i64 b)] [] = nf_l_szTermS C L a b := by kernel_rfl
theorem go_l_szTermS (a : List CVal) (b : Int) (R : Ret) (h : nf_l_szTermS CC LL a b = some R) : CC f_l_szTermS [AVal.v (CVal.sl a), AVal.v (CVal.int IntKind.i64 b)] [] = some R := fnW (by decide) rfl ((eq_l_szTermS CC LL a b).trans h)
noncomputable def nf_i_TermOk (C : CallT) (L : LoopT) (a0 : Int) (a1 : Int) (a2 : List UInt8) (a3 : List UInt8) (a40 : Int) (a41 : Int) (a42 : List CVal) (a5 : List CVal) (a6 : List CVal) : Option Ret :=
 (C f_i_termSize
 [AVal.v
 (CVal.agg
 [CVal.int IntKind.i64 a0, CVal.int IntKind.i64 a1, CVal.str a2, CVal.str a3, CVal.int IntKind.i64 a40,
 CVal.int IntKind.i64 a41, CVal.sl a42, CVal.sl a5, CVal.sl a6])]
 []).bind
 fun r =>
 r.1.asTup.bind fun y =>
 y[(0 : Nat)]?.bind fun y =>
 r.1.asTup.bind fun y_1 =>
 y_1[(1 : Nat)]?.bind fun y_2 =>
 r.1.asTup.bind fun y_3 =>
 y_3[(2 : Nat)]?.bind fun y_4 =>
 (y_4.asBool.bind fun b =>
 br b
 ((CVal.asInt IntKind.i64 y).bind fun n =>
 br (decide (n ≤ (24 : Int)))
 ((CVal.asInt IntKind.i64 y_2).bind fun n => some (decide (n ≤ (150 : Int)), PUnit.unit))
 (some (false, PUnit.unit)))
 (some (false, PUnit.unit))).bind
 fun y => some (CVal.bool y.1, [])
theorem eq_i_TermOk (C : CallT) (L : LoopT) (a0 : Int) (a1 : Int) (a2 : List UInt8) (a3 : List UInt8) (a40 : Int) (a41 : Int) (a42 : List CVal) (a5 : List CVal) (a6 : List CVal) : evF E N C L f_i_TermOk [AVal.v
 (CVal.agg
 [CVal.int IntKind.i64 a0, CVal.int IntKind.i64 a1, CVal.str a2, CVal.str a3, CVal.int IntKind.i64 a40,
 CVal.int IntKind.i64 a41, CVal.sl a42, CVal.sl a5, CVal.sl a6])] [] = nf_i_TermOk C L a0 a1 a2 a3 a40 a41 a42 a5 a6 := by kernel_rfl
theorem go_i_TermOk (a0 : Int) (a1 : Int) (a2 : List UInt8) (a3 : List UInt8) (a40 : Int) (a41 : Int) (a42 : List CVal) (a5 : List CVal) (a6 : List CVal) (R : Ret) (h : nf_i_TermOk CC LL a0 a1 a2 a3 a40 a41 a42 a5 a6 = some R) : CC f_i_TermOk [AVal.v
 (CVal.agg
 [CVal.int IntKind.i64 a0, CVal.int IntKind.i64 a1, CVal.str a2, CVal.str a3, CVal.int IntKind.i64 a40,
 CVal.int IntKind.i64 a41, CVal.sl a42, CVal.sl a5, CVal.sl a6])] [] = some R := fnW (by decide) rfl ((eq_i_TermOk CC LL a0 a1 a2 a3 a40 a41 a42 a5 a6).trans h)
noncomputable def nf_l_markTyS (C : CallT) (L : LoopT) (a : List CVal) (b : Int) : Option Ret :=
 (L f_l_markTyS (0 : Nat) lc_l_markTyS_0 [PSh.arr (Md.mk true true (0 : Nat)) false (3 : Nat)] k_l_markTyS_0
 ((PUnit.unit, b, (0 : Int), PUnit.unit), a, PUnit.unit)).bind
 fun r =>
 loK r (fun r => some r) fun j p => br (j == (0 : Nat)) (some (CVal.int IntKind.i64 p.fst.snd.1, [p.snd.1])) none
theorem eq_l_markTyS (C : CallT) (L : LoopT) (a : List CVal) (b : Int) : evF E N C L f_l_markTyS [AVal.lref (0 : Nat) (0 : Nat), AVal.v (CVal.int IntKind.i64 b)] [PB.arr (Md.mk true true (0 : Nat)) false (3 : Nat) a] = nf_l_markTyS C L a b := by kernel_rfl
theorem go_l_markTyS (a : List CVal) (b : Int) (R : Ret) (h : nf_l_markTyS CC LL a b = some R) : CC f_l_markTyS [AVal.lref (0 : Nat) (0 : Nat), AVal.v (CVal.int IntKind.i64 b)] [PB.arr (Md.mk true true (0 : Nat)) false (3 : Nat) a] = some R := fnW (by decide) rfl ((eq_l_markTyS CC LL a b).trans h)
noncomputable def nf_i_termSize (C : CallT) (L : LoopT) (a0 : Int) (a1 : Int) (a2 : List UInt8) (a3 : List UInt8) (a40 : Int) (a41 : Int) (a42 : List CVal) (a5 : List CVal) (a6 : List CVal) : Option Ret :=
 (C f_i_headOk
 [AVal.v
 (CVal.agg
 [CVal.int IntKind.i64 a0, CVal.int IntKind.i64 a1, CVal.str a2, CVal.str a3, CVal.int IntKind.i64 a40,
 CVal.int IntKind.i64 a41, CVal.sl a42, CVal.sl a5, CVal.sl a6])]
 []).bind
 fun r =>
 r.1.asBool.bind fun b =>
 br (!b) (some (CVal.tup [CVal.int IntKind.i64 (0 : Int), CVal.int IntKind.i64 (0 : Int), CVal.bool false], []))
 ((L f_i_termSize (0 : Nat) lc_i_termSize_0 [] k_i_termSize_0
 (((0 : Int), (1 : Int), a6, (↑a6.length : Int), (0 : Int), PUnit.unit), PUnit.unit)).bind
 fun r =>
 loK r (fun r => some r) fun j p =>
 br (j == (0 : Nat))
 (some
 (CVal.tup
 [CVal.int IntKind.i64 (IntKind.i64.wrap (p.fst.1 + (1 : Int))), CVal.int IntKind.i64 p.fst.snd.1,
 CVal.bool true],
 []))
 none)
theorem eq_i_termSize (C : CallT) (L : LoopT) (a0 : Int) (a1 : Int) (a2 : List UInt8) (a3 : List UInt8) (a40 : Int) (a41 : Int) (a42 : List CVal) (a5 : List CVal) (a6 : List CVal) : evF E N C L f_i_termSize [AVal.v
 (CVal.agg
 [CVal.int IntKind.i64 a0, CVal.int IntKind.i64 a1, CVal.str a2, CVal.str a3, CVal.int IntKind.i64 a40,
 CVal.int IntKind.i64 a41, CVal.sl a42, CVal.sl a5, CVal.sl a6])] [] = nf_i_termSize C L a0 a1 a2 a3 a40 a41 a42 a5 a6 := by kernel_rfl
theorem go_i_termSize (a0 : Int) (a1 : Int) (a2 : List UInt8) (a3 : List UInt8) (a40 : Int) (a41 : Int) (a42 : List CVal) (a5 : List CVal) (a6 : List CVal) (R : Ret) (h : nf_i_termSize CC LL a0 a1 a2 a3 a40 a41 a42 a5 a6 = some R) : CC f_i_termSize [AVal.v
 (CVal.agg
 [CVal.int IntKind.i64 a0, CVal.int IntKind.i64 a1, CVal.str a2, CVal.str a3, CVal.int IntKind.i64 a40,
 CVal.int IntKind.i64 a41, CVal.sl a42, CVal.sl a5, CVal.sl a6])] [] = some R := fnW (by decide) rfl ((eq_i_termSize CC LL a0 a1 a2 a3 a40 a41 a42 a5 a6).trans h)
noncomputable def nf_slices_Index_string (C : CallT) (L : LoopT) (a : List CVal) (b : List UInt8) : Option Ret :=
 (L f_slices_Index_string (0 : Nat) lc_slices_Index_string_0 [] k_slices_Index_string_0
 ((a, b, (↑a.length : Int), (0 : Int), PUnit.unit), PUnit.unit)).bind
 fun r => loK r (fun r => some r) fun j p => br (j == (0 : Nat)) (some (CVal.int IntKind.i64 (-1 : Int), [])) none
theorem eq_slices_Index_string (C : CallT) (L : LoopT) (a : List CVal) (b : List UInt8) : evF E N C L f_slices_Index_string [AVal.v (CVal.sl a), AVal.v (CVal.str b)] [] = nf_slices_Index_string C L a b := by kernel_rfl
theorem go_slices_Index_string (a : List CVal) (b : List UInt8) (R : Ret) (h : nf_slices_Index_string CC LL a b = some R) : CC f_slices_Index_string [AVal.v (CVal.sl a), AVal.v (CVal.str b)] [] = some R := fnW (by decide) rfl ((eq_slices_Index_string CC LL a b).trans h)
noncomputable def nf_i_parts (C : CallT) (L : LoopT) (a : Int) : Option Ret :=
 br (decide (a = (1 : Int))) (some (CVal.int IntKind.i64 (0 : Int), []))
 (br (decide (a = (2 : Int))) (some (CVal.int IntKind.i64 (0 : Int), []))
 (br (decide (a = (3 : Int))) (some (CVal.int IntKind.i64 (0 : Int), []))
 (br (decide (a = (12 : Int))) (some (CVal.int IntKind.i64 (0 : Int), []))
 (br (decide (a = (4 : Int))) (some (CVal.int IntKind.i64 (1 : Int), []))
 (br (decide (a = (10 : Int))) (some (CVal.int IntKind.i64 (1 : Int), []))
 (br (decide (a = (11 : Int))) (some (CVal.int IntKind.i64 (1 : Int), []))
 (br (decide (a = (16 : Int))) (some (CVal.int IntKind.i64 (1 : Int), []))
 (br (decide (a = (5 : Int))) (some (CVal.int IntKind.i64 (2 : Int), []))
 (br (decide (a = (6 : Int))) (some (CVal.int IntKind.i64 (2 : Int), []))
 (br (decide (a = (7 : Int))) (some (CVal.int IntKind.i64 (2 : Int), []))
 (br (decide (a = (9 : Int))) (some (CVal.int IntKind.i64 (2 : Int), []))
 (br (decide (a = (13 : Int))) (some (CVal.int IntKind.i64 (2 : Int), []))
 (br (decide (a = (15 : Int))) (some (CVal.int IntKind.i64 (2 : Int), []))
 (br (decide (a = (17 : Int))) (some (CVal.int IntKind.i64 (2 : Int), []))
 (br (decide (a = (8 : Int))) (some (CVal.int IntKind.i64 (3 : Int), []))
 (br (decide (a = (14 : Int))) (some (CVal.int IntKind.i64 (3 : Int), []))
 (some (CVal.int IntKind.i64 (-1 : Int), []))))))))))))))))))
theorem eq_i_parts (C : CallT) (L : LoopT) (a : Int) : evF E N C L f_i_parts [AVal.v (CVal.int IntKind.i64 a)] [] = nf_i_parts C L a := by kernel_rfl
theorem go_i_parts (a : Int) (R : Ret) (h : nf_i_parts CC LL a = some R) : CC f_i_parts [AVal.v (CVal.int IntKind.i64 a)] [] = some R := fnW (by decide) rfl ((eq_i_parts CC LL a).trans h)
noncomputable def nf_slices_ContainsFunc_Ty (C : CallT) (L : LoopT) (a : List CVal) (b : CVal) : Option Ret :=
 (C f_slices_IndexFunc_Ty [AVal.v (CVal.sl a), AVal.v b] []).bind fun r =>
 (CVal.asInt IntKind.i64 r.1).bind fun n => some (CVal.bool (decide ((0 : Int) ≤ n)), [])
theorem eq_slices_ContainsFunc_Ty (C : CallT) (L : LoopT) (a : List CVal) (b : CVal) : evF E N C L f_slices_ContainsFunc_Ty [AVal.v (CVal.sl a), AVal.v b] [] = nf_slices_ContainsFunc_Ty C L a b := by kernel_rfl
theorem go_slices_ContainsFunc_Ty (a : List CVal) (b : CVal) (R : Ret) (h : nf_slices_ContainsFunc_Ty CC LL a b = some R) : CC f_slices_ContainsFunc_Ty [AVal.v (CVal.sl a), AVal.v b] [] = some R := fnW (by decide) rfl ((eq_slices_ContainsFunc_Ty CC LL a b).trans h)
noncomputable def nf_i_bindsS (C : CallT) (L : LoopT) (a : Int) : Option Ret :=
 (br (decide (a = (4 : Int))) (some (true, PUnit.unit))
 (br (decide (a = (6 : Int))) (some (true, PUnit.unit))
 (br (decide (a = (7 : Int))) (some (true, PUnit.unit))
 (br (decide (a = (14 : Int))) (some (true, PUnit.unit)) (some (decide (a = (17 : Int)), PUnit.unit)))))).bind
 fun y => some (CVal.bool y.1, [])
theorem eq_i_bindsS (C : CallT) (L : LoopT) (a : Int) : evF E N C L f_i_bindsS [AVal.v (CVal.int IntKind.i64 a)] [] = nf_i_bindsS C L a := by kernel_rfl
theorem go_i_bindsS (a : Int) (R : Ret) (h : nf_i_bindsS CC LL a = some R) : CC f_i_bindsS [AVal.v (CVal.int IntKind.i64 a)] [] = some R := fnW (by decide) rfl ((eq_i_bindsS CC LL a).trans h)
noncomputable def nl_l_eqStringS_0 (C : CallT) (L : LoopT) (x00 : List CVal) (x01 : List CVal) (x02 : Int) : Option (LO k_l_eqStringS_0.T) :=
 br (decide (x02 < (↑x00.length : Int)))
 (br (decide ((0 : Int) ≤ x02) && true)
 (x00[x02.toNat]?.bind fun y =>
 br (CVal.fits false (1 : Nat) y)
 ((y.cell (0 : Nat)).bind fun c =>
 br (decide ((0 : Int) ≤ x02) && true)
 (x01[x02.toNat]?.bind fun y =>
 br (CVal.fits false (1 : Nat) y)
 ((y.cell (0 : Nat)).bind fun c_1 =>
 c.asStr.bind fun s =>
 c_1.asStr.bind fun s_1 =>
 br (!decide (s = s_1)) (some (LO.ret (CVal.bool false, [])))
 (L f_l_eqStringS (0 : Nat) lc_l_eqStringS_0 [] k_l_eqStringS_0
 ((x00, x01, IntKind.i64.wrap (x02 + (1 : Int)), PUnit.unit), PUnit.unit)))
 none)
 none)
 none)
 none)
 (some (LO.out (0 : Nat) ((x00, x01, x02, PUnit.unit), PUnit.unit)))
theorem el_l_eqStringS_0 (C : CallT) (L : LoopT) (x00 : List CVal) (x01 : List CVal) (x02 : Int) : evL E N C L f_l_eqStringS 0 lc_l_eqStringS_0 [] k_l_eqStringS_0 ((x00, x01, x02, ()), ()) = nl_l_eqStringS_0 C L x00 x01 x02 := by kernel_rfl
theorem gl_l_eqStringS_0 (x00 : List CVal) (x01 : List CVal) (x02 : Int) (R : LO k_l_eqStringS_0.T) (h : nl_l_eqStringS_0 CC LL x00 x01 x02 = some R) : LL f_l_eqStringS 0 lc_l_eqStringS_0 [] k_l_eqStringS_0 ((x00, x01, x02, ()), ()) = some R := loopW ((el_l_eqStringS_0 CC LL x00 x01 x02).trans h)
noncomputable def nl_l_toTermS_0 (C : CallT) (L : LoopT) (x00 : List CVal) (x02 : Int) (x1 : List CVal) : Option (LO k_l_toTermS_0.T) :=
 br (decide (x02 < (↑x00.length : Int)))
 (br (decide ((0 : Int) ≤ x02) && true)
 (x00[x02.toNat]?.bind fun y =>
 br (CVal.fits true (9 : Nat) y)
 ((y.sub (0 : Nat) (9 : Nat)).bind fun y =>
 (C f_l_toTerm [AVal.v y] []).bind fun r =>
 br (CVal.isAggN (9 : Nat) r.1)
 ((r.1.cell (0 : Nat)).bind fun c =>
 (r.1.cell (1 : Nat)).bind fun c_1 =>
 (r.1.cell (2 : Nat)).bind fun c_2 =>
 (r.1.cell (3 : Nat)).bind fun c_3 =>
 (r.1.cell (4 : Nat)).bind fun c_4 =>
 (r.1.cell (5 : Nat)).bind fun c_5 =>
 (r.1.cell (6 : Nat)).bind fun c_6 =>
 (r.1.cell (7 : Nat)).bind fun c_7 =>
 (r.1.cell (8 : Nat)).bind fun c_8 =>
 c_6.asSl.bind fun xs =>
 c_7.asSl.bind fun xs_1 =>
 c_8.asSl.bind fun xs_2 =>
 br (decide ((0 : Int) ≤ x02) && true)
 (br (decide (x02.toNat < x1.length) && true)
 ((CVal.asInt IntKind.i64 c).bind fun n =>
 (CVal.asInt IntKind.i64 c_1).bind fun n_1 =>
 c_2.asStr.bind fun s =>
 c_3.asStr.bind fun s_1 =>
 (CVal.asInt IntKind.i64 c_4).bind fun n_2 =>
 (CVal.asInt IntKind.i64 c_5).bind fun n_3 =>
 x1[x02.toNat]?.bind fun y =>
 br (CVal.fits true (9 : Nat) y)
 (L f_l_toTermS (0 : Nat) lc_l_toTermS_0 [] k_l_toTermS_0
 ((x00, PUnit.unit, IntKind.i64.wrap (x02 + (1 : Int)),
 PUnit.unit),
 x1.set x02.toNat
 (CVal.agg
 [CVal.int IntKind.i64 n, CVal.int IntKind.i64 n_1,
 CVal.str s, CVal.str s_1, CVal.int IntKind.i64 n_2,
 CVal.int IntKind.i64 n_3, CVal.sl xs, CVal.sl xs_1,
 CVal.sl xs_2]),
 PUnit.unit))
 (br (y.isAgg && decide ((9 : Nat) ≤ y.cells.length))
 (L f_l_toTermS (0 : Nat) lc_l_toTermS_0 [] k_l_toTermS_0
 ((x00, PUnit.unit, IntKind.i64.wrap (x02 + (1 : Int)),
 PUnit.unit),
 x1.set x02.toNat
 (CVal.agg
 (CVal.int IntKind.i64 n ::
 CVal.int IntKind.i64 n_1 ::
 CVal.str s ::
 CVal.str s_1 ::
 CVal.int IntKind.i64 n_2 ::
 CVal.int IntKind.i64 n_3 ::
 CVal.sl xs ::
 CVal.sl xs_1 ::
 CVal.sl xs_2 ::
 List.drop (9 : Nat) y.cells)),
 PUnit.unit))
 none))
 none)
 none)
 none)
 none)
 none)
 (some (LO.out (0 : Nat) ((x00, PUnit.unit, x02, PUnit.unit), x1, PUnit.unit)))
theorem el_l_toTermS_0 (C : CallT) (L : LoopT) (x00 : List CVal) (x02 : Int) (x1 : List CVal) : evL E N C L f_l_toTermS 0 lc_l_toTermS_0 [] k_l_toTermS_0 ((x00, (), x02, ()), x1, ()) = nl_l_toTermS_0 C L x00 x02 x1 := by kernel_rfl
theorem gl_l_toTermS_0 (x00 : List CVal) (x02 : Int) (x1 : List CVal) (R : LO k_l_toTermS_0.T) (h : nl_l_toTermS_0 CC LL x00 x02 x1 = some R) : LL f_l_toTermS 0 lc_l_toTermS_0 [] k_l_toTermS_0 ((x00, (), x02, ()), x1, ()) = some R := loopW ((el_l_toTermS_0 CC LL x00 x02 x1).trans h)
noncomputable def nl_l_markTermS_0 (C : CallT) (L : LoopT) (x01 : Int) (x02 : Int) (x1 : List CVal) : Option (LO k_l_markTermS_0.T) :=
 br (decide (x02 < (↑x1.length : Int)))
 (br (decide ((0 : Int) ≤ x02) && true)
 (br (decide (x02.toNat < x1.length) && true)
 (x1[x02.toNat]?.bind fun y =>
 br (CVal.fits false (1 : Nat) y)
 (br (decide ((0 : Int) ≤ x02) && true)
 (br (decide (x02.toNat < (x1.set x02.toNat (CVal.int IntKind.i64 x01)).length) && true)
 ((x1.set x02.toNat (CVal.int IntKind.i64 x01))[x02.toNat]?.bind fun y =>
 br (y.isAgg && decide ((2 : Nat) ≤ y.cells.length))
 ((C f_l_markText
 [AVal.v
 (CVal.int IntKind.i64 (IntKind.i64.wrap (IntKind.i64.wrap (x01 + (1 : Int)) + (1 : Int))))]
 []).bind
 fun r =>
 br (decide ((0 : Int) ≤ x02) && true)
 (br
 (decide
 (x02.toNat <
 ((x1.set x02.toNat (CVal.int IntKind.i64 x01)).set x02.toNat
 (CVal.agg
 (splice y.cells (1 : Nat)
 [CVal.int IntKind.i64 (IntKind.i64.wrap (x01 + (1 : Int)))]))).length) &&
 true)
 (br (r.1.isFlat && true)
 (r.1.asStr.bind fun s =>
 ((x1.set x02.toNat (CVal.int IntKind.i64 x01)).set x02.toNat
 (CVal.agg
 (splice y.cells (1 : Nat)
 [CVal.int IntKind.i64 (IntKind.i64.wrap (x01 + (1 : Int)))])))[x02.toNat]?.bind
 fun y_1 =>
 br (y_1.isAgg && decide ((3 : Nat) ≤ y_1.cells.length))
 ((C f_l_markText
 [AVal.v
 (CVal.int IntKind.i64
 (IntKind.i64.wrap
 (IntKind.i64.wrap (IntKind.i64.wrap (x01 + (1 : Int)) + (1 : Int)) +
 (1 : Int))))]
 []).bind
 fun r =>
 br (decide ((0 : Int) ≤ x02) && true)
 (br
 (decide
 (x02.toNat <
 (((x1.set x02.toNat (CVal.int IntKind.i64 x01)).set x02.toNat
 (CVal.agg
 (splice y.cells (1 : Nat)
 [CVal.int IntKind.i64
 (IntKind.i64.wrap (x01 + (1 : Int)))]))).set
 x02.toNat
 (CVal.agg (splice y_1.cells (2 : Nat) [CVal.str s]))).length) &&
 true)
 (br (r.1.isFlat && true)
 (r.1.asStr.bind fun s_1 =>
 (((x1.set x02.toNat (CVal.int IntKind.i64 x01)).set x02.toNat
 (CVal.agg
 (splice y.cells (1 : Nat)
 [CVal.int IntKind.i64
 (IntKind.i64.wrap (x01 + (1 : Int)))]))).set
 x02.toNat
 (CVal.agg (splice y_1.cells (2 : Nat) [CVal.str s])))[x02.toNat]?.bind
 fun y_2 =>
 br (y_2.isAgg && decide ((4 : Nat) ≤ y_2.cells.length))
 (br (decide ((0 : Int) ≤ x02) && true)
 (br
 (decide
 (x02.toNat <
 ((((x1.set x02.toNat (CVal.int IntKind.i64 x01)).set x02.toNat
 (CVal.agg
 (splice y.cells (1 : Nat)
 [CVal.int IntKind.i64
 (IntKind.i64.wrap (x01 + (1 : Int)))]))).set
 x02.toNat
 (CVal.agg
 (splice y_1.cells (2 : Nat) [CVal.str s]))).set
 x02.toNat
 (CVal.agg
 (splice y_2.cells (3 : Nat) [CVal.str s_1]))).length) &&
 true)
 (((((x1.set x02.toNat (CVal.int IntKind.i64 x01)).set x02.toNat
 (CVal.agg
 (splice y.cells (1 : Nat)
 [CVal.int IntKind.i64
 (IntKind.i64.wrap (x01 + (1 : Int)))]))).set
 x02.toNat
 (CVal.agg (splice y_1.cells (2 : Nat) [CVal.str s]))).set
 x02.toNat
 (CVal.agg
 (splice y_2.cells (3 : Nat)
 [CVal.str s_1])))[x02.toNat]?.bind
 fun y_3 =>
 br (y_3.isAgg && decide ((5 : Nat) ≤ y_3.cells.length))
 (br (decide ((0 : Int) ≤ x02) && true)
 (br
 (decide
 (x02.toNat <
 (((((x1.set x02.toNat (CVal.int IntKind.i64 x01)).set
 x02.toNat
 (CVal.agg
 (splice y.cells (1 : Nat)
 [CVal.int IntKind.i64
 (IntKind.i64.wrap
 (x01 + (1 : Int)))]))).set
 x02.toNat
 (CVal.agg
 (splice y_1.cells (2 : Nat)
 [CVal.str s]))).set
 x02.toNat
 (CVal.agg
 (splice y_2.cells (3 : Nat)
 [CVal.str s_1]))).set
 x02.toNat
 (CVal.agg
 (splice y_3.cells (4 : Nat)
 [CVal.int IntKind.i64
 (IntKind.i64.wrap
 (IntKind.i64.wrap
 (IntKind.i64.wrap
 (IntKind.i64.wrap
 (x01 + (1 : Int)) +
 (1 : Int)) +
 (1 : Int)) +
 (1 : Int)))]))).length) &&
 true)
 ((((((x1.set x02.toNat (CVal.int IntKind.i64 x01)).set
 x02.toNat
 (CVal.agg
 (splice y.cells (1 : Nat)
 [CVal.int IntKind.i64
 (IntKind.i64.wrap
 (x01 + (1 : Int)))]))).set
 x02.toNat
 (CVal.agg
 (splice y_1.cells (2 : Nat)
 [CVal.str s]))).set
 x02.toNat
 (CVal.agg
 (splice y_2.cells (3 : Nat)
 [CVal.str s_1]))).set
 x02.toNat
 (CVal.agg
 (splice y_3.cells (4 : Nat)
 [CVal.int IntKind.i64
 (IntKind.i64.wrap
 (IntKind.i64.wrap
 (IntKind.i64.wrap
 (IntKind.i64.wrap
 (x01 + (1 : Int)) +
 (1 : Int)) +
 (1 : Int)) +
 (1 : Int)))])))[x02.toNat]?.bind
 fun y_4 =>
 br (y_4.isAgg && decide ((6 : Nat) ≤ y_4.cells.length))
 (br (decide ((0 : Int) ≤ x02) && true)
 (br
 (decide
 (x02.toNat <
 ((((((x1.set x02.toNat
 (CVal.int IntKind.i64
 x01)).set
 x02.toNat
 (CVal.agg
 (splice y.cells (1 : Nat)
 [CVal.int IntKind.i64
 (IntKind.i64.wrap
 (x01 +
 (1 :
 Int)))]))).set
 x02.toNat
 (CVal.agg
 (splice y_1.cells (2 : Nat)
 [CVal.str s]))).set
 x02.toNat
 (CVal.agg
 (splice y_2.cells (3 : Nat)
 [CVal.str s_1]))).set
 x02.toNat
 (CVal.agg
 (splice y_3.cells (4 : Nat)
 [CVal.int IntKind.i64
 (IntKind.i64.wrap
 (IntKind.i64.wrap
 (IntKind.i64.wrap
 (IntKind.i64.wrap
 (x01 +
 (1 : Int)) +
 (1 : Int)) +
 (1 : Int)) +
 (1 : Int)))]))).set
 x02.toNat
 (CVal.agg
 (splice y_4.cells (5 : Nat)
 [CVal.int IntKind.i64
 (IntKind.i64.wrap
 (IntKind.i64.wrap
 (IntKind.i64.wrap
 (IntKind.i64.wrap
 (IntKind.i64.wrap
 (x01 +
 (1 : Int)) +
 (1 : Int)) +
 (1 : Int)) +
 (1 : Int)) +
 (1 : Int)))]))).length) &&
 true)
 (((((((x1.set x02.toNat
 (CVal.int IntKind.i64
 x01)).set
 x02.toNat
 (CVal.agg
 (splice y.cells (1 : Nat)
 [CVal.int IntKind.i64
 (IntKind.i64.wrap
 (x01 +
 (1 :
 Int)))]))).set
 x02.toNat
 (CVal.agg
 (splice y_1.cells (2 : Nat)
 [CVal.str s]))).set
 x02.toNat
 (CVal.agg
 (splice y_2.cells (3 : Nat)
 [CVal.str s_1]))).set
 x02.toNat
 (CVal.agg
 (splice y_3.cells (4 : Nat)
 [CVal.int IntKind.i64
 (IntKind.i64.wrap
 (IntKind.i64.wrap
 (IntKind.i64.wrap
 (IntKind.i64.wrap
 (x01 + (1 : Int)) +
 (1 : Int)) +
 (1 : Int)) +
 (1 : Int)))]))).set
 x02.toNat
 (CVal.agg
 (splice y_4.cells (5 : Nat)
 [CVal.int IntKind.i64
 (IntKind.i64.wrap
 (IntKind.i64.wrap
 (IntKind.i64.wrap
 (IntKind.i64.wrap
 (IntKind.i64.wrap
 (x01 + (1 : Int)) +
 (1 : Int)) +
 (1 : Int)) +
 (1 : Int)) +
 (1 : Int)))])))[x02.toNat]?.bind
 fun y_5 =>
 (y_5.cell (6 : Nat)).bind fun c =>
 c.asSl.bind fun xs =>
 ((((((x1.set x02.toNat
 (CVal.int
 IntKind.i64
 x01)).set
 x02.toNat
 (CVal.agg
 (splice y.cells
 (1 : Nat)
 [CVal.int
 IntKind.i64
 (IntKind.i64.wrap
 (x01 +
 (1 :
 Int)))]))).set
 x02.toNat
 (CVal.agg
 (splice y_1.cells
 (2 : Nat)
 [CVal.str s]))).set
 x02.toNat
 (CVal.agg
 (splice y_2.cells (3 : Nat)
 [CVal.str s_1]))).set
 x02.toNat
 (CVal.agg
 (splice y_3.cells (4 : Nat)
 [CVal.int IntKind.i64
 (IntKind.i64.wrap
 (IntKind.i64.wrap
 (IntKind.i64.wrap
 (IntKind.i64.wrap
 (x01 +
 (1 : Int)) +
 (1 : Int)) +
 (1 : Int)) +
 (1 : Int)))]))).set
 x02.toNat
 (CVal.agg
 (splice y_4.cells (5 : Nat)
 [CVal.int IntKind.i64
 (IntKind.i64.wrap
 (IntKind.i64.wrap
 (IntKind.i64.wrap
 (IntKind.i64.wrap
 (IntKind.i64.wrap
 (x01 +
 (1 : Int)) +
 (1 : Int)) +
 (1 : Int)) +
 (1 : Int)) +
 (1 :
 Int)))])))[x02.toNat]?.bind
 fun y_6 =>
 (y_6.cell (6 : Nat)).bind fun c =>
 c.asSl.bind fun xs =>
 br (xs.all (CVal.fits true (3 : Nat)))
 ((C f_l_markTyS
 [AVal.lref (0 : Nat) (0 : Nat),
 AVal.v
 (CVal.int IntKind.i64
 (IntKind.i64.wrap
 (IntKind.i64.wrap
 (IntKind.i64.wrap
 (IntKind.i64.wrap
 (IntKind.i64.wrap
 (IntKind.i64.wrap
 (x01 +
 (1 :
 Int)) +
 (1 :
 Int)) +
 (1 : Int)) +
 (1 : Int)) +
 (1 : Int)) +
 (1 : Int))))]
 [PB.arr
 (Md.mk true true (0 : Nat))
 false (3 : Nat) xs]).bind
 fun r =>
 r.2[(0 : Nat)]?.bind fun y_7 =>
 br
 (decide ((0 : Int) ≤ x02) && true)
 (br
 (decide
 (x02.toNat <
 (((((((x1.set x02.toNat
 (CVal.int
 IntKind.i64
 x01)).set
 x02.toNat
 (CVal.agg
 (splice
 y.cells
 (1 :
 Nat)
 [CVal.int
 IntKind.i64
 (IntKind.i64.wrap
 (x01 +
 (1 :
 Int)))]))).set
 x02.toNat
 (CVal.agg
 (splice
 y_1.cells
 (2 :
 Nat)
 [CVal.str
 s]))).set
 x02.toNat
 (CVal.agg
 (splice
 y_2.cells
 (3 :
 Nat)
 [CVal.str
 s_1]))).set
 x02.toNat
 (CVal.agg
 (splice
 y_3.cells
 (4 : Nat)
 [CVal.int
 IntKind.i64
 (IntKind.i64.wrap
 (IntKind.i64.wrap
 (IntKind.i64.wrap
 (IntKind.i64.wrap
 (x01 +
 (1 :
 Int)) +
 (1 :
 Int)) +
 (1 :
 Int)) +
 (1 :
 Int)))]))).set
 x02.toNat
 (CVal.agg
 (splice
 y_4.cells
 (5 : Nat)
 [CVal.int
 IntKind.i64
 (IntKind.i64.wrap
 (IntKind.i64.wrap
 (IntKind.i64.wrap
 (IntKind.i64.wrap
 (IntKind.i64.wrap
 (x01 +
 (1 :
 Int)) +
 (1 :
 Int)) +
 (1 :
 Int)) +
 (1 :
 Int)) +
 (1 :
 Int)))]))).set
 x02.toNat
 (y_6.putCell (6 : Nat)
 (CVal.sl
 y_7))).length) &&
 true)
 ((((((((x1.set x02.toNat
 (CVal.int
 IntKind.i64
 x01)).set
 x02.toNat
 (CVal.agg
 (splice
 y.cells
 (1 :
 Nat)
 [CVal.int
 IntKind.i64
 (IntKind.i64.wrap
 (x01 +
 (1 :
 Int)))]))).set
 x02.toNat
 (CVal.agg
 (splice
 y_1.cells
 (2 :
 Nat)
 [CVal.str
 s]))).set
 x02.toNat
 (CVal.agg
 (splice
 y_2.cells
 (3 :
 Nat)
 [CVal.str
 s_1]))).set
 x02.toNat
 (CVal.agg
 (splice
 y_3.cells
 (4 : Nat)
 [CVal.int
 IntKind.i64
 (IntKind.i64.wrap
 (IntKind.i64.wrap
 (IntKind.i64.wrap
 (IntKind.i64.wrap
 (x01 +
 (1 :
 Int)) +
 (1 :
 Int)) +
 (1 :
 Int)) +
 (1 :
 Int)))]))).set
 x02.toNat
 (CVal.agg
 (splice y_4.cells
 (5 : Nat)
 [CVal.int
 IntKind.i64
 (IntKind.i64.wrap
 (IntKind.i64.wrap
 (IntKind.i64.wrap
 (IntKind.i64.wrap
 (IntKind.i64.wrap
 (x01 +
 (1 :
 Int)) +
 (1 :
 Int)) +
 (1 :
 Int)) +
 (1 :
 Int)) +
 (1 :
 Int)))]))).set
 x02.toNat
 (y_6.putCell (6 : Nat)
 (CVal.sl
 y_7)))[x02.toNat]?.bind
 fun y_8 =>
 (y_8.cell (7 : Nat)).bind
 fun c =>
 c.asSl.bind fun xs =>
 (((((((x1.set x02.toNat
 (CVal.int
 IntKind.i64
 x01)).set
 x02.toNat
 (CVal.agg
 (splice
 y.cells
 (1 :
 Nat)
 [CVal.int
 IntKind.i64
 (IntKind.i64.wrap
 (x01 +
 (1 :
 Int)))]))).set
 x02.toNat
 (CVal.agg
 (splice
 y_1.cells
 (2 :
 Nat)
 [CVal.str
 s]))).set
 x02.toNat
 (CVal.agg
 (splice
 y_2.cells
 (3 :
 Nat)
 [CVal.str
 s_1]))).set
 x02.toNat
 (CVal.agg
 (splice
 y_3.cells
 (4 :
 Nat)
 [CVal.int
 IntKind.i64
 (IntKind.i64.wrap
 (IntKind.i64.wrap
 (IntKind.i64.wrap
 (IntKind.i64.wrap
 (x01 +
 (1 :
 Int)) +
 (1 :
 Int)) +
 (1 :
 Int)) +
 (1 :
 Int)))]))).set
 x02.toNat
 (CVal.agg
 (splice
 y_4.cells
 (5 : Nat)
 [CVal.int
 IntKind.i64
 (IntKind.i64.wrap
 (IntKind.i64.wrap
 (IntKind.i64.wrap
 (IntKind.i64.wrap
 (IntKind.i64.wrap
 (x01 +
 (1 :
 Int)) +
 (1 :
 Int)) +
 (1 :
 Int)) +
 (1 :
 Int)) +
 (1 :
 Int)))]))).set
 x02.toNat
 (y_6.putCell
 (6 : Nat)
 (CVal.sl
 y_7)))[x02.toNat]?.bind
 fun y_9 =>
 (y_9.cell
 (7 : Nat)).bind
 fun c =>
 c.asSl.bind fun xs =>
 br
 (xs.all
 (CVal.fits true
 (3 : Nat)))
 ((C f_l_markTyS
 [AVal.lref
 (0 :
 Nat)
 (0 :
 Nat),
 AVal.v
 r.1]
 [PB.arr
 (Md.mk
 true
 true
 (0 :
 Nat))
 false
 (3 :
 Nat)
 xs]).bind
 fun r =>
 r.2[(0 :
 Nat)]?.bind
 fun y_10 =>
 br
 (decide
 ((0 :
 Int) ≤
 x02) &&
 true)
 (br
 (decide
 (x02.toNat <
 ((((((((x1.set
 x02.toNat
 (CVal.int
 IntKind.i64
 x01)).set
 x02.toNat
 (CVal.agg
 (splice
 y.cells
 (1 :
 Nat)
 [CVal.int
 IntKind.i64
 (IntKind.i64.wrap
 (x01 +
 (1 :
 Int)))]))).set
 x02.toNat
 (CVal.agg
 (splice
 y_1.cells
 (2 :
 Nat)
 [CVal.str
 s]))).set
 x02.toNat
 (CVal.agg
 (splice
 y_2.cells
 (3 :
 Nat)
 [CVal.str
 s_1]))).set
 x02.toNat
 (CVal.agg
 (splice
 y_3.cells
 (4 :
 Nat)
 [CVal.int
 IntKind.i64
 (IntKind.i64.wrap
 (IntKind.i64.wrap
 (IntKind.i64.wrap
 (IntKind.i64.wrap
 (x01 +
 (1 :
 Int)) +
 (1 :
 Int)) +
 (1 :
 Int)) +
 (1 :
 Int)))]))).set
 x02.toNat
 (CVal.agg
 (splice
 y_4.cells
 (5 :
 Nat)
 [CVal.int
 IntKind.i64
 (IntKind.i64.wrap
 (IntKind.i64.wrap
 (IntKind.i64.wrap
 (IntKind.i64.wrap
 (IntKind.i64.wrap
 (x01 +
 (1 :
 Int)) +
 (1 :
 Int)) +
 (1 :
 Int)) +
 (1 :
 Int)) +
 (1 :
 Int)))]))).set
 x02.toNat
 (y_6.putCell
 (6 :
 Nat)
 (CVal.sl
 y_7))).set
 x02.toNat
 (y_9.putCell
 (7 :
 Nat)
 (CVal.sl
 y_10))).length) &&
 true)
 (((((((((x1.set
 x02.toNat
 (CVal.int
 IntKind.i64
 x01)).set
 x02.toNat
 (CVal.agg
 (splice
 y.cells
 (1 :
 Nat)
 [CVal.int
 IntKind.i64
 (IntKind.i64.wrap
 (x01 +
 (1 :
 Int)))]))).set
 x02.toNat
 (CVal.agg
 (splice
 y_1.cells
 (2 :
 Nat)
 [CVal.str
 s]))).set
 x02.toNat
 (CVal.agg
 (splice
 y_2.cells
 (3 :
 Nat)
 [CVal.str
 s_1]))).set
 x02.toNat
 (CVal.agg
 (splice
 y_3.cells
 (4 :
 Nat)
 [CVal.int
 IntKind.i64
 (IntKind.i64.wrap
 (IntKind.i64.wrap
 (IntKind.i64.wrap
 (IntKind.i64.wrap
 (x01 +
 (1 :
 Int)) +
 (1 :
 Int)) +
 (1 :
 Int)) +
 (1 :
 Int)))]))).set
 x02.toNat
 (CVal.agg
 (splice
 y_4.cells
 (5 :
 Nat)
 [CVal.int
 IntKind.i64
 (IntKind.i64.wrap
 (IntKind.i64.wrap
 (IntKind.i64.wrap
 (IntKind.i64.wrap
 (IntKind.i64.wrap
 (x01 +
 (1 :
 Int)) +
 (1 :
 Int)) +
 (1 :
 Int)) +
 (1 :
 Int)) +
 (1 :
 Int)))]))).set
 x02.toNat
 (y_6.putCell
 (6 :
 Nat)
 (CVal.sl
 y_7))).set
 x02.toNat
 (y_9.putCell
 (7 :
 Nat)
 (CVal.sl
 y_10)))[x02.toNat]?.bind
 fun
 y_11 =>
 (y_11.cell
 (8 :
 Nat)).bind
 fun
 c =>
 c.asSl.bind
 fun
 xs =>
 ((((((((x1.set
 x02.toNat
 (CVal.int
 IntKind.i64
 x01)).set
 x02.toNat
 (CVal.agg
 (splice
 y.cells
 (1 :
 Nat)
 [CVal.int
 IntKind.i64
 (IntKind.i64.wrap
 (x01 +
 (1 :
 Int)))]))).set
 x02.toNat
 (CVal.agg
 (splice
 y_1.cells
 (2 :
 Nat)
 [CVal.str
 s]))).set
 x02.toNat
 (CVal.agg
 (splice
 y_2.cells
 (3 :
 Nat)
 [CVal.str
 s_1]))).set
 x02.toNat
 (CVal.agg
 (splice
 y_3.cells
 (4 :
 Nat)
 [CVal.int
 IntKind.i64
 (IntKind.i64.wrap
 (IntKind.i64.wrap
 (IntKind.i64.wrap
 (IntKind.i64.wrap
 (x01 +
 (1 :
 Int)) +
 (1 :
 Int)) +
 (1 :
 Int)) +
 (1 :
 Int)))]))).set
 x02.toNat
 (CVal.agg
 (splice
 y_4.cells
 (5 :
 Nat)
 [CVal.int
 IntKind.i64
 (IntKind.i64.wrap
 (IntKind.i64.wrap
 (IntKind.i64.wrap
 (IntKind.i64.wrap
 (IntKind.i64.wrap
 (x01 +
 (1 :
 Int)) +
 (1 :
 Int)) +
 (1 :
 Int)) +
 (1 :
 Int)) +
 (1 :
 Int)))]))).set
 x02.toNat
 (y_6.putCell
 (6 :
 Nat)
 (CVal.sl
 y_7))).set
 x02.toNat
 (y_9.putCell
 (7 :
 Nat)
 (CVal.sl
 y_10)))[x02.toNat]?.bind
 fun
 y_12 =>
 (y_12.cell
 (8 :
 Nat)).bind
 fun
 c =>
 c.asSl.bind
 fun
 xs =>
 br
 (xs.all
 (CVal.fits
 true
 (9 :
 Nat)))
 ((C
 f_l_markTermS
 [AVal.lref
 (0 :
 Nat)
 (0 :
 Nat),
 AVal.v
 r.1]
 [PB.arr
 (Md.mk
 true
 true
 (0 :
 Nat))
 false
 (9 :
 Nat)
 xs]).bind
 fun
 r =>
 r.2[(0 :
 Nat)]?.bind
 fun
 y_13 =>
 (CVal.asInt
 IntKind.i64
 r.1).bind
 fun
 n =>
 L
 f_l_markTermS
 (0 :
 Nat)
 lc_l_markTermS_0
 [PSh.arr
 (Md.mk
 true
 true
 (0 :
 Nat))
 false
 (9 :
 Nat)]
 k_l_markTermS_0
 ((PUnit.unit,
 n,
 IntKind.i64.wrap
 (x02 +
 (1 :
 Int)),
 PUnit.unit),
 ((((((((x1.set
 x02.toNat
 (CVal.int
 IntKind.i64
 x01)).set
 x02.toNat
 (CVal.agg
 (splice
 y.cells
 (1 :
 Nat)
 [CVal.int
 IntKind.i64
 (IntKind.i64.wrap
 (x01 +
 (1 :
 Int)))]))).set
 x02.toNat
 (CVal.agg
 (splice
 y_1.cells
 (2 :
 Nat)
 [CVal.str
 s]))).set
 x02.toNat
 (CVal.agg
 (splice
 y_2.cells
 (3 :
 Nat)
 [CVal.str
 s_1]))).set
 x02.toNat
 (CVal.agg
 (splice
 y_3.cells
 (4 :
 Nat)
 [CVal.int
 IntKind.i64
 (IntKind.i64.wrap
 (IntKind.i64.wrap
 (IntKind.i64.wrap
 (IntKind.i64.wrap
 (x01 +
 (1 :
 Int)) +
 (1 :
 Int)) +
 (1 :
 Int)) +
 (1 :
 Int)))]))).set
 x02.toNat
 (CVal.agg
 (splice
 y_4.cells
 (5 :
 Nat)
 [CVal.int
 IntKind.i64
 (IntKind.i64.wrap
 (IntKind.i64.wrap
 (IntKind.i64.wrap
 (IntKind.i64.wrap
 (IntKind.i64.wrap
 (x01 +
 (1 :
 Int)) +
 (1 :
 Int)) +
 (1 :
 Int)) +
 (1 :
 Int)) +
 (1 :
 Int)))]))).set
 x02.toNat
 (y_6.putCell
 (6 :
 Nat)
 (CVal.sl
 y_7))).set
 x02.toNat
 (y_9.putCell
 (7 :
 Nat)
 (CVal.sl
 y_10))).set
 x02.toNat
 (y_12.putCell
 (8 :
 Nat)
 (CVal.sl
 y_13)),
 PUnit.unit))
 none)
 none)
 none)
 none)
 none)
 none)
 none)
 none)
 none)
 none)
 none)
 none)
 none)
 none)
 none)
 none)
 none)
 none)
 none)
 none)
 none)
 none)
 none)
 none)
 none)
 none)
 (br (y.isAgg && decide ((1 : Nat) ≤ y.cells.length))
 (br (decide ((0 : Int) ≤ x02) && true)
 (br
 (decide
 (x02.toNat <
 (x1.set x02.toNat (CVal.agg (CVal.int IntKind.i64 x01 :: List.drop (1 : Nat) y.cells))).length) &&
 true)
 ((x1.set x02.toNat
 (CVal.agg (CVal.int IntKind.i64 x01 :: List.drop (1 : Nat) y.cells)))[x02.toNat]?.bind
 fun y_1 =>
 br (y_1.isAgg && decide ((2 : Nat) ≤ y_1.cells.length))
 ((C f_l_markText
 [AVal.v
 (CVal.int IntKind.i64
 (IntKind.i64.wrap (IntKind.i64.wrap (x01 + (1 : Int)) + (1 : Int))))]
 []).bind
 fun r =>
 br (decide ((0 : Int) ≤ x02) && true)
 (br
 (decide
 (x02.toNat <
 ((x1.set x02.toNat
 (CVal.agg (CVal.int IntKind.i64 x01 :: List.drop (1 : Nat) y.cells))).set
 x02.toNat
 (CVal.agg
 (splice y_1.cells (1 : Nat)
 [CVal.int IntKind.i64 (IntKind.i64.wrap (x01 + (1 : Int)))]))).length) &&
 true)
 (br (r.1.isFlat && true)
 (r.1.asStr.bind fun s =>
 ((x1.set x02.toNat
 (CVal.agg (CVal.int IntKind.i64 x01 :: List.drop (1 : Nat) y.cells))).set
 x02.toNat
 (CVal.agg
 (splice y_1.cells (1 : Nat)
 [CVal.int IntKind.i64
 (IntKind.i64.wrap (x01 + (1 : Int)))])))[x02.toNat]?.bind
 fun y_2 =>
 br (y_2.isAgg && decide ((3 : Nat) ≤ y_2.cells.length))
 ((C f_l_markText
 [AVal.v
 (CVal.int IntKind.i64
 (IntKind.i64.wrap
 (IntKind.i64.wrap (IntKind.i64.wrap (x01 + (1 : Int)) + (1 : Int)) +
 (1 : Int))))]
 []).bind
 fun r =>
 br (decide ((0 : Int) ≤ x02) && true)
 (br
 (decide
 (x02.toNat <
 (((x1.set x02.toNat
 (CVal.agg
 (CVal.int IntKind.i64 x01 ::
 List.drop (1 : Nat) y.cells))).set
 x02.toNat
 (CVal.agg
 (splice y_1.cells (1 : Nat)
 [CVal.int IntKind.i64
 (IntKind.i64.wrap (x01 + (1 : Int)))]))).set
 x02.toNat
 (CVal.agg (splice y_2.cells (2 : Nat) [CVal.str s]))).length) &&
 true)
 (br (r.1.isFlat && true)
 (r.1.asStr.bind fun s_1 =>
 (((x1.set x02.toNat
 (CVal.agg
 (CVal.int IntKind.i64 x01 ::
 List.drop (1 : Nat) y.cells))).set
 x02.toNat
 (CVal.agg
 (splice y_1.cells (1 : Nat)
 [CVal.int IntKind.i64
 (IntKind.i64.wrap (x01 + (1 : Int)))]))).set
 x02.toNat
 (CVal.agg
 (splice y_2.cells (2 : Nat) [CVal.str s])))[x02.toNat]?.bind
 fun y_3 =>
 br (y_3.isAgg && decide ((4 : Nat) ≤ y_3.cells.length))
 (br (decide ((0 : Int) ≤ x02) && true)
 (br
 (decide
 (x02.toNat <
 ((((x1.set x02.toNat
 (CVal.agg
 (CVal.int IntKind.i64 x01 ::
 List.drop (1 : Nat) y.cells))).set
 x02.toNat
 (CVal.agg
 (splice y_1.cells (1 : Nat)
 [CVal.int IntKind.i64
 (IntKind.i64.wrap
 (x01 + (1 : Int)))]))).set
 x02.toNat
 (CVal.agg
 (splice y_2.cells (2 : Nat) [CVal.str s]))).set
 x02.toNat
 (CVal.agg
 (splice y_3.cells (3 : Nat) [CVal.str s_1]))).length) &&
 true)
 (((((x1.set x02.toNat
 (CVal.agg
 (CVal.int IntKind.i64 x01 ::
 List.drop (1 : Nat) y.cells))).set
 x02.toNat
 (CVal.agg
 (splice y_1.cells (1 : Nat)
 [CVal.int IntKind.i64
 (IntKind.i64.wrap (x01 + (1 : Int)))]))).set
 x02.toNat
 (CVal.agg
 (splice y_2.cells (2 : Nat) [CVal.str s]))).set
 x02.toNat
 (CVal.agg
 (splice y_3.cells (3 : Nat)
 [CVal.str s_1])))[x02.toNat]?.bind
 fun y_4 =>
 br (y_4.isAgg && decide ((5 : Nat) ≤ y_4.cells.length))
 (br (decide ((0 : Int) ≤ x02) && true)
 (br
 (decide
 (x02.toNat <
 (((((x1.set x02.toNat
 (CVal.agg
 (CVal.int IntKind.i64 x01 ::
 List.drop (1 : Nat)
 y.cells))).set
 x02.toNat
 (CVal.agg
 (splice y_1.cells (1 : Nat)
 [CVal.int IntKind.i64
 (IntKind.i64.wrap
 (x01 + (1 : Int)))]))).set
 x02.toNat
 (CVal.agg
 (splice y_2.cells (2 : Nat)
 [CVal.str s]))).set
 x02.toNat
 (CVal.agg
 (splice y_3.cells (3 : Nat)
 [CVal.str s_1]))).set
 x02.toNat
 (CVal.agg
 (splice y_4.cells (4 : Nat)
 [CVal.int IntKind.i64
 (IntKind.i64.wrap
 (IntKind.i64.wrap
 (IntKind.i64.wrap
 (IntKind.i64.wrap
 (x01 + (1 : Int)) +
 (1 : Int)) +
 (1 : Int)) +
 (1 : Int)))]))).length) &&
 true)
 ((((((x1.set x02.toNat
 (CVal.agg
 (CVal.int IntKind.i64 x01 ::
 List.drop (1 : Nat)
 y.cells))).set
 x02.toNat
 (CVal.agg
 (splice y_1.cells (1 : Nat)
 [CVal.int IntKind.i64
 (IntKind.i64.wrap
 (x01 + (1 : Int)))]))).set
 x02.toNat
 (CVal.agg
 (splice y_2.cells (2 : Nat)
 [CVal.str s]))).set
 x02.toNat
 (CVal.agg
 (splice y_3.cells (3 : Nat)
 [CVal.str s_1]))).set
 x02.toNat
 (CVal.agg
 (splice y_4.cells (4 : Nat)
 [CVal.int IntKind.i64
 (IntKind.i64.wrap
 (IntKind.i64.wrap
 (IntKind.i64.wrap
 (IntKind.i64.wrap
 (x01 + (1 : Int)) +
 (1 : Int)) +
 (1 : Int)) +
 (1 : Int)))])))[x02.toNat]?.bind
 fun y_5 =>
 br (y_5.isAgg && decide ((6 : Nat) ≤ y_5.cells.length))
 (br (decide ((0 : Int) ≤ x02) && true)
 (br
 (decide
 (x02.toNat <
 ((((((x1.set x02.toNat
 (CVal.agg
 (CVal.int
 IntKind.i64
 x01 ::
 List.drop
 (1 : Nat)
 y.cells))).set
 x02.toNat
 (CVal.agg
 (splice y_1.cells
 (1 : Nat)
 [CVal.int IntKind.i64
 (IntKind.i64.wrap
 (x01 +
 (1 :
 Int)))]))).set
 x02.toNat
 (CVal.agg
 (splice y_2.cells (2 : Nat)
 [CVal.str s]))).set
 x02.toNat
 (CVal.agg
 (splice y_3.cells (3 : Nat)
 [CVal.str s_1]))).set
 x02.toNat
 (CVal.agg
 (splice y_4.cells (4 : Nat)
 [CVal.int IntKind.i64
 (IntKind.i64.wrap
 (IntKind.i64.wrap
 (IntKind.i64.wrap
 (IntKind.i64.wrap
 (x01 +
 (1 : Int)) +
 (1 : Int)) +
 (1 : Int)) +
 (1 : Int)))]))).set
 x02.toNat
 (CVal.agg
 (splice y_5.cells (5 : Nat)
 [CVal.int IntKind.i64
 (IntKind.i64.wrap
 (IntKind.i64.wrap
 (IntKind.i64.wrap
 (IntKind.i64.wrap
 (IntKind.i64.wrap
 (x01 +
 (1 : Int)) +
 (1 : Int)) +
 (1 : Int)) +
 (1 : Int)) +
 (1 : Int)))]))).length) &&
 true)
 (((((((x1.set x02.toNat
 (CVal.agg
 (CVal.int IntKind.i64
 x01 ::
 List.drop (1 : Nat)
 y.cells))).set
 x02.toNat
 (CVal.agg
 (splice y_1.cells
 (1 : Nat)
 [CVal.int IntKind.i64
 (IntKind.i64.wrap
 (x01 +
 (1 :
 Int)))]))).set
 x02.toNat
 (CVal.agg
 (splice y_2.cells (2 : Nat)
 [CVal.str s]))).set
 x02.toNat
 (CVal.agg
 (splice y_3.cells (3 : Nat)
 [CVal.str s_1]))).set
 x02.toNat
 (CVal.agg
 (splice y_4.cells (4 : Nat)
 [CVal.int IntKind.i64
 (IntKind.i64.wrap
 (IntKind.i64.wrap
 (IntKind.i64.wrap
 (IntKind.i64.wrap
 (x01 +
 (1 : Int)) +
 (1 : Int)) +
 (1 : Int)) +
 (1 : Int)))]))).set
 x02.toNat
 (CVal.agg
 (splice y_5.cells (5 : Nat)
 [CVal.int IntKind.i64
 (IntKind.i64.wrap
 (IntKind.i64.wrap
 (IntKind.i64.wrap
 (IntKind.i64.wrap
 (IntKind.i64.wrap
 (x01 +
 (1 : Int)) +
 (1 : Int)) +
 (1 : Int)) +
 (1 : Int)) +
 (1 : Int)))])))[x02.toNat]?.bind
 fun y_6 =>
 (y_6.cell (6 : Nat)).bind fun c =>
 c.asSl.bind fun xs =>
 ((((((x1.set x02.toNat
 (CVal.agg
 (CVal.int
 IntKind.i64
 x01 ::
 List.drop
 (1 : Nat)
 y.cells))).set
 x02.toNat
 (CVal.agg
 (splice y_1.cells
 (1 : Nat)
 [CVal.int
 IntKind.i64
 (IntKind.i64.wrap
 (x01 +
 (1 :
 Int)))]))).set
 x02.toNat
 (CVal.agg
 (splice y_2.cells
 (2 : Nat)
 [CVal.str s]))).set
 x02.toNat
 (CVal.agg
 (splice y_3.cells (3 : Nat)
 [CVal.str s_1]))).set
 x02.toNat
 (CVal.agg
 (splice y_4.cells (4 : Nat)
 [CVal.int IntKind.i64
 (IntKind.i64.wrap
 (IntKind.i64.wrap
 (IntKind.i64.wrap
 (IntKind.i64.wrap
 (x01 +
 (1 :
 Int)) +
 (1 : Int)) +
 (1 : Int)) +
 (1 : Int)))]))).set
 x02.toNat
 (CVal.agg
 (splice y_5.cells (5 : Nat)
 [CVal.int IntKind.i64
 (IntKind.i64.wrap
 (IntKind.i64.wrap
 (IntKind.i64.wrap
 (IntKind.i64.wrap
 (IntKind.i64.wrap
 (x01 +
 (1 :
 Int)) +
 (1 : Int)) +
 (1 : Int)) +
 (1 : Int)) +
 (1 :
 Int)))])))[x02.toNat]?.bind
 fun y_7 =>
 (y_7.cell (6 : Nat)).bind fun c =>
 c.asSl.bind fun xs =>
 br (xs.all (CVal.fits true (3 : Nat)))
 ((C f_l_markTyS
 [AVal.lref (0 : Nat) (0 : Nat),
 AVal.v
 (CVal.int IntKind.i64
 (IntKind.i64.wrap
 (IntKind.i64.wrap
 (IntKind.i64.wrap
 (IntKind.i64.wrap
 (IntKind.i64.wrap
 (IntKind.i64.wrap
 (x01 +
 (1 :
 Int)) +
 (1 :
 Int)) +
 (1 :
 Int)) +
 (1 : Int)) +
 (1 : Int)) +
 (1 : Int))))]
 [PB.arr
 (Md.mk true true (0 : Nat))
 false (3 : Nat) xs]).bind
 fun r =>
 r.2[(0 : Nat)]?.bind fun y_8 =>
 br
 (decide ((0 : Int) ≤ x02) &&
 true)
 (br
 (decide
 (x02.toNat <
 (((((((x1.set x02.toNat
 (CVal.agg
 (CVal.int
 IntKind.i64
 x01 ::
 List.drop
 (1 :
 Nat)
 y.cells))).set
 x02.toNat
 (CVal.agg
 (splice
 y_1.cells
 (1 :
 Nat)
 [CVal.int
 IntKind.i64
 (IntKind.i64.wrap
 (x01 +
 (1 :
 Int)))]))).set
 x02.toNat
 (CVal.agg
 (splice
 y_2.cells
 (2 :
 Nat)
 [CVal.str
 s]))).set
 x02.toNat
 (CVal.agg
 (splice
 y_3.cells
 (3 :
 Nat)
 [CVal.str
 s_1]))).set
 x02.toNat
 (CVal.agg
 (splice
 y_4.cells
 (4 :
 Nat)
 [CVal.int
 IntKind.i64
 (IntKind.i64.wrap
 (IntKind.i64.wrap
 (IntKind.i64.wrap
 (IntKind.i64.wrap
 (x01 +
 (1 :
 Int)) +
 (1 :
 Int)) +
 (1 :
 Int)) +
 (1 :
 Int)))]))).set
 x02.toNat
 (CVal.agg
 (splice
 y_5.cells
 (5 : Nat)
 [CVal.int
 IntKind.i64
 (IntKind.i64.wrap
 (IntKind.i64.wrap
 (IntKind.i64.wrap
 (IntKind.i64.wrap
 (IntKind.i64.wrap
 (x01 +
 (1 :
 Int)) +
 (1 :
 Int)) +
 (1 :
 Int)) +
 (1 :
 Int)) +
 (1 :
 Int)))]))).set
 x02.toNat
 (y_7.putCell
 (6 : Nat)
 (CVal.sl
 y_8))).length) &&
 true)
 ((((((((x1.set x02.toNat
 (CVal.agg
 (CVal.int
 IntKind.i64
 x01 ::
 List.drop
 (1 :
 Nat)
 y.cells))).set
 x02.toNat
 (CVal.agg
 (splice
 y_1.cells
 (1 :
 Nat)
 [CVal.int
 IntKind.i64
 (IntKind.i64.wrap
 (x01 +
 (1 :
 Int)))]))).set
 x02.toNat
 (CVal.agg
 (splice
 y_2.cells
 (2 :
 Nat)
 [CVal.str
 s]))).set
 x02.toNat
 (CVal.agg
 (splice
 y_3.cells
 (3 :
 Nat)
 [CVal.str
 s_1]))).set
 x02.toNat
 (CVal.agg
 (splice
 y_4.cells
 (4 : Nat)
 [CVal.int
 IntKind.i64
 (IntKind.i64.wrap
 (IntKind.i64.wrap
 (IntKind.i64.wrap
 (IntKind.i64.wrap
 (x01 +
 (1 :
 Int)) +
 (1 :
 Int)) +
 (1 :
 Int)) +
 (1 :
 Int)))]))).set
 x02.toNat
 (CVal.agg
 (splice
 y_5.cells
 (5 : Nat)
 [CVal.int
 IntKind.i64
 (IntKind.i64.wrap
 (IntKind.i64.wrap
 (IntKind.i64.wrap
 (IntKind.i64.wrap
 (IntKind.i64.wrap
 (x01 +
 (1 :
 Int)) +
 (1 :
 Int)) +
 (1 :
 Int)) +
 (1 :
 Int)) +
 (1 :
 Int)))]))).set
 x02.toNat
 (y_7.putCell (6 : Nat)
 (CVal.sl
 y_8)))[x02.toNat]?.bind
 fun y_9 =>
 (y_9.cell (7 : Nat)).bind
 fun c =>
 c.asSl.bind fun xs =>
 (((((((x1.set x02.toNat
 (CVal.agg
 (CVal.int
 IntKind.i64
 x01 ::
 List.drop
 (1 :
 Nat)
 y.cells))).set
 x02.toNat
 (CVal.agg
 (splice
 y_1.cells
 (1 :
 Nat)
 [CVal.int
 IntKind.i64
 (IntKind.i64.wrap
 (x01 +
 (1 :
 Int)))]))).set
 x02.toNat
 (CVal.agg
 (splice
 y_2.cells
 (2 :
 Nat)
 [CVal.str
 s]))).set
 x02.toNat
 (CVal.agg
 (splice
 y_3.cells
 (3 :
 Nat)
 [CVal.str
 s_1]))).set
 x02.toNat
 (CVal.agg
 (splice
 y_4.cells
 (4 :
 Nat)
 [CVal.int
 IntKind.i64
 (IntKind.i64.wrap
 (IntKind.i64.wrap
 (IntKind.i64.wrap
 (IntKind.i64.wrap
 (x01 +
 (1 :
 Int)) +
 (1 :
 Int)) +
 (1 :
 Int)) +
 (1 :
 Int)))]))).set
 x02.toNat
 (CVal.agg
 (splice
 y_5.cells
 (5 :
 Nat)
 [CVal.int
 IntKind.i64
 (IntKind.i64.wrap
 (IntKind.i64.wrap
 (IntKind.i64.wrap
 (IntKind.i64.wrap
 (IntKind.i64.wrap
 (x01 +
 (1 :
 Int)) +
 (1 :
 Int)) +
 (1 :
 Int)) +
 (1 :
 Int)) +
 (1 :
 Int)))]))).set
 x02.toNat
 (y_7.putCell
 (6 : Nat)
 (CVal.sl
 y_8)))[x02.toNat]?.bind
 fun y_10 =>
 (y_10.cell
 (7 : Nat)).bind
 fun c =>
 c.asSl.bind
 fun xs =>
 br
 (xs.all
 (CVal.fits
 true
 (3 : Nat)))
 ((C f_l_markTyS
 [AVal.lref
 (0 :
 Nat)
 (0 :
 Nat),
 AVal.v
 r.1]
 [PB.arr
 (Md.mk
 true
 true
 (0 :
 Nat))
 false
 (3 :
 Nat)
 xs]).bind
 fun r =>
 r.2[(0 :
 Nat)]?.bind
 fun y_11 =>
 br
 (decide
 ((0 :
 Int) ≤
 x02) &&
 true)
 (br
 (decide
 (x02.toNat <
 ((((((((x1.set
 x02.toNat
 (CVal.agg
 (CVal.int
 IntKind.i64
 x01 ::
 List.drop
 (1 :
 Nat)
 y.cells))).set
 x02.toNat
 (CVal.agg
 (splice
 y_1.cells
 (1 :
 Nat)
 [CVal.int
 IntKind.i64
 (IntKind.i64.wrap
 (x01 +
 (1 :
 Int)))]))).set
 x02.toNat
 (CVal.agg
 (splice
 y_2.cells
 (2 :
 Nat)
 [CVal.str
 s]))).set
 x02.toNat
 (CVal.agg
 (splice
 y_3.cells
 (3 :
 Nat)
 [CVal.str
 s_1]))).set
 x02.toNat
 (CVal.agg
 (splice
 y_4.cells
 (4 :
 Nat)
 [CVal.int
 IntKind.i64
 (IntKind.i64.wrap
 (IntKind.i64.wrap
 (IntKind.i64.wrap
 (IntKind.i64.wrap
 (x01 +
 (1 :
 Int)) +
 (1 :
 Int)) +
 (1 :
 Int)) +
 (1 :
 Int)))]))).set
 x02.toNat
 (CVal.agg
 (splice
 y_5.cells
 (5 :
 Nat)
 [CVal.int
 IntKind.i64
 (IntKind.i64.wrap
 (IntKind.i64.wrap
 (IntKind.i64.wrap
 (IntKind.i64.wrap
 (IntKind.i64.wrap
 (x01 +
 (1 :
 Int)) +
 (1 :
 Int)) +
 (1 :
 Int)) +
 (1 :
 Int)) +
 (1 :
 Int)))]))).set
 x02.toNat
 (y_7.putCell
 (6 :
 Nat)
 (CVal.sl
 y_8))).set
 x02.toNat
 (y_10.putCell
 (7 :
 Nat)
 (CVal.sl
 y_11))).length) &&
 true)
 (((((((((x1.set
 x02.toNat
 (CVal.agg
 (CVal.int
 IntKind.i64
 x01 ::
 List.drop
 (1 :
 Nat)
 y.cells))).set
 x02.toNat
 (CVal.agg
 (splice
 y_1.cells
 (1 :
 Nat)
 [CVal.int
 IntKind.i64
 (IntKind.i64.wrap
 (x01 +
 (1 :
 Int)))]))).set
 x02.toNat
 (CVal.agg
 (splice
 y_2.cells
 (2 :
 Nat)
 [CVal.str
 s]))).set
 x02.toNat
 (CVal.agg
 (splice
 y_3.cells
 (3 :
 Nat)
 [CVal.str
 s_1]))).set
 x02.toNat
 (CVal.agg
 (splice
 y_4.cells
 (4 :
 Nat)
 [CVal.int
 IntKind.i64
 (IntKind.i64.wrap
 (IntKind.i64.wrap
 (IntKind.i64.wrap
 (IntKind.i64.wrap
 (x01 +
 (1 :
 Int)) +
 (1 :
 Int)) +
 (1 :
 Int)) +
 (1 :
 Int)))]))).set
 x02.toNat
 (CVal.agg
 (splice
 y_5.cells
 (5 :
 Nat)
 [CVal.int
 IntKind.i64
 (IntKind.i64.wrap
 (IntKind.i64.wrap
 (IntKind.i64.wrap
 (IntKind.i64.wrap
 (IntKind.i64.wrap
 (x01 +
 (1 :
 Int)) +
 (1 :
 Int)) +
 (1 :
 Int)) +
 (1 :
 Int)) +
 (1 :
 Int)))]))).set
 x02.toNat
 (y_7.putCell
 (6 :
 Nat)
 (CVal.sl
 y_8))).set
 x02.toNat
 (y_10.putCell
 (7 :
 Nat)
 (CVal.sl
 y_11)))[x02.toNat]?.bind
 fun
 y_12 =>
 (y_12.cell
 (8 :
 Nat)).bind
 fun
 c =>
 c.asSl.bind
 fun
 xs =>
 ((((((((x1.set
 x02.toNat
 (CVal.agg
 (CVal.int
 IntKind.i64
 x01 ::
 List.drop
 (1 :
 Nat)
 y.cells))).set
 x02.toNat
 (CVal.agg
 (splice
 y_1.cells
 (1 :
 Nat)
 [CVal.int
 IntKind.i64
 (IntKind.i64.wrap
 (x01 +
 (1 :
 Int)))]))).set
 x02.toNat
 (CVal.agg
 (splice
 y_2.cells
 (2 :
 Nat)
 [CVal.str
 s]))).set
 x02.toNat
 (CVal.agg
 (splice
 y_3.cells
 (3 :
 Nat)
 [CVal.str
 s_1]))).set
 x02.toNat
 (CVal.agg
 (splice
 y_4.cells
 (4 :
 Nat)
 [CVal.int
 IntKind.i64
 (IntKind.i64.wrap
 (IntKind.i64.wrap
 (IntKind.i64.wrap
 (IntKind.i64.wrap
 (x01 +
 (1 :
 Int)) +
 (1 :
 Int)) +
 (1 :
 Int)) +
 (1 :
 Int)))]))).set
 x02.toNat
 (CVal.agg
 (splice
 y_5.cells
 (5 :
 Nat)
 [CVal.int
 IntKind.i64
 (IntKind.i64.wrap
 (IntKind.i64.wrap
 (IntKind.i64.wrap
 (IntKind.i64.wrap
 (IntKind.i64.wrap
 (x01 +
 (1 :
 Int)) +
 (1 :
 Int)) +
 (1 :
 Int)) +
 (1 :
 Int)) +
 (1 :
 Int)))]))).set
 x02.toNat
 (y_7.putCell
 (6 :
 Nat)
 (CVal.sl
 y_8))).set
 x02.toNat
 (y_10.putCell
 (7 :
 Nat)
 (CVal.sl
 y_11)))[x02.toNat]?.bind
 fun
 y_13 =>
 (y_13.cell
 (8 :
 Nat)).bind
 fun
 c =>
 c.asSl.bind
 fun
 xs =>
 br
 (xs.all
 (CVal.fits
 true
 (9 :
 Nat)))
 ((C
 f_l_markTermS
 [AVal.lref
 (0 :
 Nat)
 (0 :
 Nat),
 AVal.v
 r.1]
 [PB.arr
 (Md.mk
 true
 true
 (0 :
 Nat))
 false
 (9 :
 Nat)
 xs]).bind
 fun
 r =>
 r.2[(0 :
 Nat)]?.bind
 fun
 y_14 =>
 (CVal.asInt
 IntKind.i64
 r.1).bind
 fun
 n =>
 L
 f_l_markTermS
 (0 :
 Nat)
 lc_l_markTermS_0
 [PSh.arr
 (Md.mk
 true
 true
 (0 :
 Nat))
 false
 (9 :
 Nat)]
 k_l_markTermS_0
 ((PUnit.unit,
 n,
 IntKind.i64.wrap
 (x02 +
 (1 :
 Int)),
 PUnit.unit),
 ((((((((x1.set
 x02.toNat
 (CVal.agg
 (CVal.int
 IntKind.i64
 x01 ::
 List.drop
 (1 :
 Nat)
 y.cells))).set
 x02.toNat
 (CVal.agg
 (splice
 y_1.cells
 (1 :
 Nat)
 [CVal.int
 IntKind.i64
 (IntKind.i64.wrap
 (x01 +
 (1 :
 Int)))]))).set
 x02.toNat
 (CVal.agg
 (splice
 y_2.cells
 (2 :
 Nat)
 [CVal.str
 s]))).set
 x02.toNat
 (CVal.agg
 (splice
 y_3.cells
 (3 :
 Nat)
 [CVal.str
 s_1]))).set
 x02.toNat
 (CVal.agg
 (splice
 y_4.cells
 (4 :
 Nat)
 [CVal.int
 IntKind.i64
 (IntKind.i64.wrap
 (IntKind.i64.wrap
 (IntKind.i64.wrap
 (IntKind.i64.wrap
 (x01 +
 (1 :
 Int)) +
 (1 :
 Int)) +
 (1 :
 Int)) +
 (1 :
 Int)))]))).set
 x02.toNat
 (CVal.agg
 (splice
 y_5.cells
 (5 :
 Nat)
 [CVal.int
 IntKind.i64
 (IntKind.i64.wrap
 (IntKind.i64.wrap
 (IntKind.i64.wrap
 (IntKind.i64.wrap
 (IntKind.i64.wrap
 (x01 +
 (1 :
 Int)) +
 (1 :
 Int)) +
 (1 :
 Int)) +
 (1 :
 Int)) +
 (1 :
 Int)))]))).set
 x02.toNat
 (y_7.putCell
 (6 :
 Nat)
 (CVal.sl
 y_8))).set
 x02.toNat
 (y_10.putCell
 (7 :
 Nat)
 (CVal.sl
 y_11))).set
 x02.toNat
 (y_13.putCell
 (8 :
 Nat)
 (CVal.sl
 y_14)),
 PUnit.unit))
 none)
 none)
 none)
 none)
 none)
 none)
 none)
 none)
 none)
 none)
 none)
 none)
 none)
 none)
 none)
 none)
 none)
 none)
 none)
 none)
 none)
 none)
 none)
 none)
 none)
 none)
 none))
 none)
 none)
 (some (LO.out (0 : Nat) ((PUnit.unit, x01, x02, PUnit.unit), x1, PUnit.unit)))
theorem el_l_markTermS_0 (C : CallT) (L : LoopT) (x01 : Int) (x02 : Int) (x1 : List CVal) : evL E N C L f_l_markTermS 0 lc_l_markTermS_0 [PSh.arr (Md.mk true true (0 : Nat)) false (9 : Nat)] k_l_markTermS_0 (((), x01, x02, ()), x1, ()) = nl_l_markTermS_0 C L x01 x02 x1 := by kernel_rfl
theorem gl_l_markTermS_0 (x01 : Int) (x02 : Int) (x1 : List CVal) (R : LO k_l_markTermS_0.T) (h : nl_l_markTermS_0 CC LL x01 x02 x1 = some R) : LL f_l_markTermS 0 lc_l_markTermS_0 [PSh.arr (Md.mk true true (0 : Nat)) false (9 : Nat)] k_l_markTermS_0 (((), x01, x02, ()), x1, ()) = some R := loopW ((el_l_markTermS_0 CC LL x01 x02 x1).trans h)
noncomputable def nl_slices_Concat_string_0 (C : CallT) (L : LoopT) (x00 : List CVal) (x01 : Int) (x02 : List CVal) (x03 : Int) (x04 : Int) : Option (LO k_slices_Concat_string_0.T) :=
 br (decide (x04 < x03))
 (br (decide ((0 : Int) ≤ x04) && true)
 (x02[x04.toNat]?.bind fun y =>
 br (CVal.fits false (1 : Nat) y)
 ((y.cell (0 : Nat)).bind fun c =>
 c.asSl.bind fun xs =>
 br (decide (IntKind.i64.wrap (x01 + (↑xs.length : Int)) < (0 : Int))) none
 (L f_slices_Concat_string (0 : Nat) lc_slices_Concat_string_0 [] k_slices_Concat_string_0
 ((x00, IntKind.i64.wrap (x01 + (↑xs.length : Int)), x02, x03, IntKind.i64.wrap (x04 + (1 : Int)),
 PUnit.unit),
 PUnit.unit)))
 none)
 none)
 (some (LO.out (0 : Nat) ((x00, x01, x02, x03, x04, PUnit.unit), PUnit.unit)))
theorem el_slices_Concat_string_0 (C : CallT) (L : LoopT) (x00 : List CVal) (x01 : Int) (x02 : List CVal) (x03 : Int) (x04 : Int) : evL E N C L f_slices_Concat_string 0 lc_slices_Concat_string_0 [] k_slices_Concat_string_0 ((x00, x01, x02, x03, x04, ()), ()) = nl_slices_Concat_string_0 C L x00 x01 x02 x03 x04 := by kernel_rfl
theorem gl_slices_Concat_string_0 (x00 : List CVal) (x01 : Int) (x02 : List CVal) (x03 : Int) (x04 : Int) (R : LO k_slices_Concat_string_0.T) (h : nl_slices_Concat_string_0 CC LL x00 x01 x02 x03 x04 = some R) : LL f_slices_Concat_string 0 lc_slices_Concat_string_0 [] k_slices_Concat_string_0 ((x00, x01, x02, x03, x04, ()), ()) = some R := loopW ((el_slices_Concat_string_0 CC LL x00 x01 x02 x03 x04).trans h)
noncomputable def nl_i_isName_0 (C : CallT) (L : LoopT) (x00 : List UInt8) (x01 : Int) (x02 : Int) : Option (LO k_i_isName_0.T) :=
 br (decide (x02 < x01))
 (br (decide ((0 : Int) ≤ x02))
 (x00[x02.toNat]?.bind fun y =>
 (br (decide ((97 : Int) ≤ (↑y.toNat : Int))) (some (decide ((↑y.toNat : Int) ≤ (122 : Int)), PUnit.unit))
 (some (false, PUnit.unit))).bind
 fun y_1 =>
 (br (!y_1.1)
 (br (decide (x02 = (0 : Int))) (some (true, PUnit.unit))
 (br (decide ((↑y.toNat : Int) < (48 : Int)))
 (some (!decide ((↑y.toNat : Int) = (46 : Int)), PUnit.unit))
 (br (decide ((57 : Int) < (↑y.toNat : Int)))
 (some (!decide ((↑y.toNat : Int) = (46 : Int)), PUnit.unit)) (some (false, PUnit.unit)))))
 (some (false, PUnit.unit))).bind
 fun y =>
 br y.1 (some (LO.ret (CVal.bool false, [])))
 (L f_i_isName (0 : Nat) lc_i_isName_0 [] k_i_isName_0
 ((x00, x01, IntKind.i64.wrap (x02 + (1 : Int)), PUnit.unit), PUnit.unit)))
 none)
 (some (LO.out (0 : Nat) ((x00, x01, x02, PUnit.unit), PUnit.unit)))
theorem el_i_isName_0 (C : CallT) (L : LoopT) (x00 : List UInt8) (x01 : Int) (x02 : Int) : evL E N C L f_i_isName 0 lc_i_isName_0 [] k_i_isName_0 ((x00, x01, x02, ()), ()) = nl_i_isName_0 C L x00 x01 x02 := by kernel_rfl
theorem gl_i_isName_0 (x00 : List UInt8) (x01 : Int) (x02 : Int) (R : LO k_i_isName_0.T) (h : nl_i_isName_0 CC LL x00 x01 x02 = some R) : LL f_i_isName 0 lc_i_isName_0 [] k_i_isName_0 ((x00, x01, x02, ()), ()) = some R := loopW ((el_i_isName_0 CC LL x00 x01 x02).trans h)
end Go.Proofs.Ytbimglfmmmlicaa.Abs
