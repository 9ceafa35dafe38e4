/- What the functions come to in the abstract machine. -/
import Derived.Test.YtbimglfmmmlicaaP1Ann
import Derived.KernelRfl
set_option linter.unusedVariables false
set_option maxRecDepth 100000
namespace Go.Proofs.Ytbimglfmmmlicaa.Abs
open Go Go.Proofs
noncomputable def nf_l_FnExactBinders (C : CallT) (L : LoopT) (a0 : Int) (a1 : Int) (a2 : List UInt8) (a3 : List UInt8) (a40 : Int) (a41 : Int) (a42 : List CVal) (a5 : List CVal) (a6 : List CVal) : Option Ret :=
 (C f_l_szTerm
 [AVal.v
 (CVal.agg
 [CVal.int IntKind.i64 a0, CVal.int IntKind.i64 a1, CVal.str a2, CVal.str a3, CVal.int IntKind.i64 a40,
 CVal.int IntKind.i64 a41, CVal.sl a42, CVal.sl a5, CVal.sl a6]),
 AVal.v (CVal.int IntKind.i64 (1048576 : Int))]
 []).bind
 fun r =>
 (CVal.asInt IntKind.i64 r.1).bind fun n =>
 br (decide (n < (0 : Int))) (some (CVal.bool true, []))
 ((C f_l_toTerm
 [AVal.v
 (CVal.agg
 [CVal.int IntKind.i64 a0, CVal.int IntKind.i64 a1, CVal.str a2, CVal.str a3, CVal.int IntKind.i64 a40,
 CVal.int IntKind.i64 a41, CVal.sl a42, CVal.sl a5, CVal.sl a6])]
 []).bind
 fun r =>
 (C f_s_Binders [AVal.v r.1] []).bind fun r =>
 (C f_l_toTerm
 [AVal.v
 (CVal.agg
 [CVal.int IntKind.i64 a0, CVal.int IntKind.i64 a1, CVal.str a2, CVal.str a3,
 CVal.int IntKind.i64 a40, CVal.int IntKind.i64 a41, CVal.sl a42, CVal.sl a5, CVal.sl a6])]
 []).bind
 fun r_1 =>
 br (CVal.isAggN (9 : Nat) r_1.1)
 ((r_1.1.cell (0 : Nat)).bind fun c =>
 (r_1.1.cell (1 : Nat)).bind fun c_1 =>
 (r_1.1.cell (2 : Nat)).bind fun c_2 =>
 (r_1.1.cell (3 : Nat)).bind fun c_3 =>
 (r_1.1.cell (4 : Nat)).bind fun c_4 =>
 (r_1.1.cell (5 : Nat)).bind fun c_5 =>
 (r_1.1.cell (6 : Nat)).bind fun c_6 =>
 (r_1.1.cell (7 : Nat)).bind fun c_7 =>
 (r_1.1.cell (8 : Nat)).bind fun c_8 =>
 c_6.asSl.bind fun xs =>
 c_7.asSl.bind fun xs_1 =>
 c_8.asSl.bind fun xs_2 =>
 (C f_i_Binders
 [AVal.v
 (CVal.agg
 [c, c_1, c_2, c_3, c_4, c_5, CVal.sl xs, CVal.sl xs_1, CVal.sl xs_2])]
 []).bind
 fun r_2 =>
 br (!r_2.1.plain) none
 (br r_2.1.isFlat
 (r_2.1.asSl.bind fun xs_3 =>
 (C f_l_eqStringS [AVal.v (CVal.sl xs_3), AVal.v r.1] []).bind fun r_3 =>
 br (!scalar r_3.1) none
 (r_3.1.asBool.bind fun b =>
 br (!b) (some (CVal.bool false, []))
 ((C f_l_toTerm
 [AVal.v
 (CVal.agg
 [CVal.int IntKind.i64 a0, CVal.int IntKind.i64 a1,
 CVal.str a2, CVal.str a3, CVal.int IntKind.i64 a40,
 CVal.int IntKind.i64 a41, CVal.sl a42, CVal.sl a5,
 CVal.sl a6])]
 []).bind
 fun r_4 =>
 (C f_l_eqTerm
 [AVal.v
 (CVal.agg
 [c, c_1, c_2, c_3, c_4, c_5, CVal.sl xs,
 CVal.sl xs_1, CVal.sl xs_2]),
 AVal.v r_4.1]
 []).bind
 fun r_5 =>
 br (!scalar r_5.1) none
 (r_5.1.asBool.bind fun b =>
 br (!b) (some (CVal.bool false, []))
 ((C f_l_markTerm
 [AVal.agg
 [AVal.v c, AVal.v c_1, AVal.v c_2, AVal.v c_3,
 AVal.v c_4, AVal.v c_5,
 AVal.lref (0 : Nat) (0 : Nat),
 AVal.lref (1 : Nat) (0 : Nat),
 AVal.lref (2 : Nat) (0 : Nat)],
 AVal.v (CVal.int IntKind.i64 (1 : Int))]
 [PB.arr (Md.mk true true (0 : Nat)) false
 (3 : Nat) xs,
 PB.arr (Md.mk true true (0 : Nat)) false
 (3 : Nat) xs_1,
 PB.arr (Md.mk true true (0 : Nat)) false
 (9 : Nat) xs_2]).bind
 fun r_6 =>
 r_6.2[(0 : Nat)]?.bind fun y =>
 r_6.2[(1 : Nat)]?.bind fun y =>
 r_6.2[(2 : Nat)]?.bind fun y =>
 ((CVal.asInt IntKind.i64 r_6.1).bind fun n =>
 br (decide (n < (0 : Int)))
 (some (true, PUnit.unit))
 ((C f_l_eqStringS
 [AVal.v (CVal.sl xs_3),
 AVal.v r.1]
 []).bind
 fun r =>
 br (!scalar r.1) none
 (r.1.asBool.bind fun b =>
 some (!b, PUnit.unit)))).bind
 fun y =>
 br y.1 (some (CVal.bool false, []))
 ((C f_l_markStringS
 [AVal.lref (0 : Nat) (0 : Nat),
 AVal.v
 (CVal.int IntKind.i64 (1 : Int))]
 [PB.arr (Md.mk true true (0 : Nat))
 false (1 : Nat) xs_3]).bind
 fun r_7 =>
 r_7.2[(0 : Nat)]?.bind fun y =>
 (C f_l_heldStringS
 [AVal.v (CVal.sl y),
 AVal.v
 (CVal.int IntKind.i64
 (1 : Int))]
 []).bind
 fun r_8 =>
 br (!scalar r_8.1) none
 ((CVal.asInt IntKind.i64 r_8.1).bind
 fun n =>
 br (decide (n < (0 : Int)))
 (some (CVal.bool false, []))
 ((CVal.asInt IntKind.i64
 r_8.1).bind
 fun n =>
 (CVal.asInt IntKind.i64
 r_7.1).bind
 fun n_1 =>
 br (!decide (n = n_1))
 (some
 (CVal.bool false, []))
 ((C f_l_toTerm
 [AVal.v
 (CVal.agg
 [CVal.int
 IntKind.i64
 a0,
 CVal.int
 IntKind.i64
 a1,
 CVal.str a2,
 CVal.str a3,
 CVal.int
 IntKind.i64
 a40,
 CVal.int
 IntKind.i64
 a41,
 CVal.sl a42,
 CVal.sl a5,
 CVal.sl
 a6])]
 []).bind
 fun r_9 =>
 (C f_i_Binders
 [AVal.v r_9.1]
 []).bind
 fun r_10 =>
 br r_10.1.isFlat
 (r_10.1.asSl.bind
 fun xs =>
 (C f_l_eqStringS
 [AVal.v
 (CVal.sl
 xs),
 AVal.v
 r.1]
 []).bind
 fun r =>
 br (!scalar r.1)
 none
 (r.1.asBool.bind
 fun b =>
 br (!b)
 (some
 (CVal.bool
 false,
 []))
 ((C
 f_l_heldStringS
 [AVal.v
 (CVal.sl
 y),
 AVal.v
 (CVal.int
 IntKind.i64
 (1 :
 Int))]
 []).bind
 fun r =>
 br
 (!scalar
 r.1)
 none
 ((CVal.asInt
 IntKind.i64
 r.1).bind
 fun
 n =>
 br
 (decide
 (n <
 (0 :
 Int)))
 (some
 (CVal.bool
 false,
 []))
 ((CVal.asInt
 IntKind.i64
 r.1).bind
 fun
 n =>
 (CVal.asInt
 IntKind.i64
 r_7.1).bind
 fun
 n_2 =>
 br
 (!decide
 (n =
 n_2))
 (some
 (CVal.bool
 false,
 []))
 (some
 (CVal.bool
 true,
 [])))))))
 none)))))))))
 none))
 none)
theorem eq_l_FnExactBinders (C : CallT) (L : LoopT) (a0 : Int) (a1 : Int) (a2 : List UInt8) (a3 : List UInt8) (a40 : Int) (a41 : Int) (a42 : List CVal) (a5 : List CVal) (a6 : List CVal) : evF E N C L f_l_FnExactBinders [AVal.v
 (CVal.agg
 [CVal.int IntKind.i64 a0, CVal.int IntKind.i64 a1, CVal.str a2, CVal.str a3, CVal.int IntKind.i64 a40,
 CVal.int IntKind.i64 a41, CVal.sl a42, CVal.sl a5, CVal.sl a6])] [] = nf_l_FnExactBinders C L a0 a1 a2 a3 a40 a41 a42 a5 a6 := by kernel_rfl
theorem go_l_FnExactBinders (a0 : Int) (a1 : Int) (a2 : List UInt8) (a3 : List UInt8) (a40 : Int) (a41 : Int) (a42 : List CVal) (a5 : List CVal) (a6 : List CVal) (R : Ret) (h : nf_l_FnExactBinders CC LL a0 a1 a2 a3 a40 a41 a42 a5 a6 = some R) : CC f_l_FnExactBinders [AVal.v
 (CVal.agg
 [CVal.int IntKind.i64 a0, CVal.int IntKind.i64 a1, CVal.str a2, CVal.str a3, CVal.int IntKind.i64 a40,
 CVal.int IntKind.i64 a41, CVal.sl a42, CVal.sl a5, CVal.sl a6])] [] = some R := fnW (by decide) rfl ((eq_l_FnExactBinders CC LL a0 a1 a2 a3 a40 a41 a42 a5 a6).trans h)
noncomputable def nf_i_Binders (C : CallT) (L : LoopT) (a0 : Int) (a1 : Int) (a2 : List UInt8) (a3 : List UInt8) (a40 : Int) (a41 : Int) (a42 : List CVal) (a5 : List CVal) (a6 : List CVal) : Option Ret :=
 (C f_i_TermOk
 [AVal.v
 (CVal.agg
 [CVal.int IntKind.i64 a0, CVal.int IntKind.i64 a1, CVal.str a2, CVal.str a3, CVal.int IntKind.i64 a40,
 CVal.int IntKind.i64 a41, CVal.sl a42, CVal.sl a5, CVal.sl a6])]
 []).bind
 fun r =>
 r.1.asBool.bind fun b =>
 br (!b) (some (CVal.sl [], []))
 ((C f_i_bindersIn
 [AVal.v
 (CVal.agg
 [CVal.int IntKind.i64 a0, CVal.int IntKind.i64 a1, CVal.str a2, CVal.str a3, CVal.int IntKind.i64 a40,
 CVal.int IntKind.i64 a41, CVal.sl a42, CVal.sl a5, CVal.sl a6]),
 AVal.lref (0 : Nat) (0 : Nat)]
 [PB.arr (Md.mk true false (0 : Nat)) false (1 : Nat) []]).bind
 fun r => r.2[(0 : Nat)]?.bind fun y => some (CVal.sl y, []))
theorem eq_i_Binders (C : CallT) (L : LoopT) (a0 : Int) (a1 : Int) (a2 : List UInt8) (a3 : List UInt8) (a40 : Int) (a41 : Int) (a42 : List CVal) (a5 : List CVal) (a6 : List CVal) : evF E N C L f_i_Binders [AVal.v
 (CVal.agg
 [CVal.int IntKind.i64 a0, CVal.int IntKind.i64 a1, CVal.str a2, CVal.str a3, CVal.int IntKind.i64 a40,
 CVal.int IntKind.i64 a41, CVal.sl a42, CVal.sl a5, CVal.sl a6])] [] = nf_i_Binders C L a0 a1 a2 a3 a40 a41 a42 a5 a6 := by kernel_rfl
theorem go_i_Binders (a0 : Int) (a1 : Int) (a2 : List UInt8) (a3 : List UInt8) (a40 : Int) (a41 : Int) (a42 : List CVal) (a5 : List CVal) (a6 : List CVal) (R : Ret) (h : nf_i_Binders CC LL a0 a1 a2 a3 a40 a41 a42 a5 a6 = some R) : CC f_i_Binders [AVal.v
 (CVal.agg
 [CVal.int IntKind.i64 a0, CVal.int IntKind.i64 a1, CVal.str a2, CVal.str a3, CVal.int IntKind.i64 a40,
 CVal.int IntKind.i64 a41, CVal.sl a42, CVal.sl a5, CVal.sl a6])] [] = some R := fnW (by decide) rfl ((eq_i_Binders CC LL a0 a1 a2 a3 a40 a41 a42 a5 a6).trans h)
noncomputable def nf_l_markStringS (C : CallT) (L : LoopT) (a : List CVal) (b : Int) : Option Ret :=
 (L f_l_markStringS (0 : Nat) lc_l_markStringS_0 [PSh.arr (Md.mk true true (0 : Nat)) false (1 : Nat)] k_l_markStringS_0
 ((PUnit.unit, b, (0 : Int), PUnit.unit), a, PUnit.unit)).bind
 fun r =>
 loK r (fun r => some r) fun j p => br (j == (0 : Nat)) (some (CVal.int IntKind.i64 p.fst.snd.1, [p.snd.1])) none
theorem eq_l_markStringS (C : CallT) (L : LoopT) (a : List CVal) (b : Int) : evF E N C L f_l_markStringS [AVal.lref (0 : Nat) (0 : Nat), AVal.v (CVal.int IntKind.i64 b)] [PB.arr (Md.mk true true (0 : Nat)) false (1 : Nat) a] = nf_l_markStringS C L a b := by kernel_rfl
theorem go_l_markStringS (a : List CVal) (b : Int) (R : Ret) (h : nf_l_markStringS CC LL a b = some R) : CC f_l_markStringS [AVal.lref (0 : Nat) (0 : Nat), AVal.v (CVal.int IntKind.i64 b)] [PB.arr (Md.mk true true (0 : Nat)) false (1 : Nat) a] = some R := fnW (by decide) rfl ((eq_l_markStringS CC LL a b).trans h)
noncomputable def nf_l_szTermS (C : CallT) (L : LoopT) (a : List CVal) (b : Int) : Option Ret :=
 br (decide (IntKind.i64.wrap (b - (↑a.length : Int)) < (0 : Int))) (some (CVal.int IntKind.i64 (-1 : Int), []))
 ((L f_l_szTermS (0 : Nat) lc_l_szTermS_0 [] k_l_szTermS_0
 ((a, IntKind.i64.wrap (b - (↑a.length : Int)), (0 : Int), PUnit.unit), PUnit.unit)).bind
 fun r => loK r (fun r => some r) fun j p => br (j == (0 : Nat)) (some (CVal.int IntKind.i64 p.fst.snd.1, [])) none)
theorem eq_l_szTermS (C : CallT) (L : LoopT) (a : List CVal) (b : Int) : evF E N C L f_l_szTermS [AVal.v (CVal.sl a), AVal.v (CVal.int IntKind.i64 b)] [] = nf_l_szTermS C L a b := by kernel_rfl
theorem go_l_szTermS (a : List CVal) (b : Int) (R : Ret) (h : nf_l_szTermS CC LL a b = some R) : CC f_l_szTermS [AVal.v (CVal.sl a), AVal.v (CVal.int IntKind.i64 b)] [] = some R := fnW (by decide) rfl ((eq_l_szTermS CC LL a b).trans h)
noncomputable def nf_s_TermOk (C : CallT) (L : LoopT) (a0 : Int) (a1 : Int) (a2 : List UInt8) (a3 : List UInt8) (a40 : Int) (a41 : Int) (a42 : List CVal) (a5 : List CVal) (a6 : List CVal) : Option Ret :=
 (C f_s_l2Look
 [AVal.v
 (CVal.agg
 [CVal.int IntKind.i64 a0, CVal.int IntKind.i64 a1, CVal.str a2, CVal.str a3, CVal.int IntKind.i64 a40,
 CVal.int IntKind.i64 a41, CVal.sl a42, CVal.sl a5, CVal.sl a6]),
 AVal.v (CVal.int IntKind.i64 (24 : Int)), AVal.lptr (0 : Nat) (0 : Nat)]
 [PB.box [AVal.v (CVal.int IntKind.i64 (0 : Int))]]).bind
 fun r => r.2[(0 : Nat)]?.bind fun y => y[(0 : Nat)]?.bind fun y => some (r.1, [])
theorem eq_s_TermOk (C : CallT) (L : LoopT) (a0 : Int) (a1 : Int) (a2 : List UInt8) (a3 : List UInt8) (a40 : Int) (a41 : Int) (a42 : List CVal) (a5 : List CVal) (a6 : List CVal) : evF E N C L f_s_TermOk [AVal.v
 (CVal.agg
 [CVal.int IntKind.i64 a0, CVal.int IntKind.i64 a1, CVal.str a2, CVal.str a3, CVal.int IntKind.i64 a40,
 CVal.int IntKind.i64 a41, CVal.sl a42, CVal.sl a5, CVal.sl a6])] [] = nf_s_TermOk C L a0 a1 a2 a3 a40 a41 a42 a5 a6 := by kernel_rfl
theorem go_s_TermOk (a0 : Int) (a1 : Int) (a2 : List UInt8) (a3 : List UInt8) (a40 : Int) (a41 : Int) (a42 : List CVal) (a5 : List CVal) (a6 : List CVal) (R : Ret) (h : nf_s_TermOk CC LL a0 a1 a2 a3 a40 a41 a42 a5 a6 = some R) : CC f_s_TermOk [AVal.v
 (CVal.agg
 [CVal.int IntKind.i64 a0, CVal.int IntKind.i64 a1, CVal.str a2, CVal.str a3, CVal.int IntKind.i64 a40,
 CVal.int IntKind.i64 a41, CVal.sl a42, CVal.sl a5, CVal.sl a6])] [] = some R := fnW (by decide) rfl ((eq_s_TermOk CC LL a0 a1 a2 a3 a40 a41 a42 a5 a6).trans h)
noncomputable def nf_l_eqTy (C : CallT) (L : LoopT) (a0 : Int) (a1 : Int) (a2 : List CVal) (b0 : Int) (b1 : Int) (b2 : List CVal) : Option Ret :=
 br (!decide (a0 = b0)) (some (CVal.bool false, []))
 (br (!decide (a1 = b1)) (some (CVal.bool false, []))
 ((C f_l_eqTyS [AVal.v (CVal.sl a2), AVal.v (CVal.sl b2)] []).bind fun r =>
 r.1.asBool.bind fun b => br (!b) (some (CVal.bool false, [])) (some (CVal.bool true, []))))
theorem eq_l_eqTy (C : CallT) (L : LoopT) (a0 : Int) (a1 : Int) (a2 : List CVal) (b0 : Int) (b1 : Int) (b2 : List CVal) : evF E N C L f_l_eqTy [AVal.v (CVal.agg [CVal.int IntKind.i64 a0, CVal.int IntKind.i64 a1, CVal.sl a2]),
 AVal.v (CVal.agg [CVal.int IntKind.i64 b0, CVal.int IntKind.i64 b1, CVal.sl b2])] [] = nf_l_eqTy C L a0 a1 a2 b0 b1 b2 := by kernel_rfl
theorem go_l_eqTy (a0 : Int) (a1 : Int) (a2 : List CVal) (b0 : Int) (b1 : Int) (b2 : List CVal) (R : Ret) (h : nf_l_eqTy CC LL a0 a1 a2 b0 b1 b2 = some R) : CC f_l_eqTy [AVal.v (CVal.agg [CVal.int IntKind.i64 a0, CVal.int IntKind.i64 a1, CVal.sl a2]),
 AVal.v (CVal.agg [CVal.int IntKind.i64 b0, CVal.int IntKind.i64 b1, CVal.sl b2])] [] = some R := fnW (by decide) rfl ((eq_l_eqTy CC LL a0 a1 a2 b0 b1 b2).trans h)
noncomputable def nf_l_markTyS (C : CallT) (L : LoopT) (a : List CVal) (b : Int) : Option Ret :=
 (L f_l_markTyS (0 : Nat) lc_l_markTyS_0 [PSh.arr (Md.mk true true (0 : Nat)) false (3 : Nat)] k_l_markTyS_0
 ((PUnit.unit, b, (0 : Int), PUnit.unit), a, PUnit.unit)).bind
 fun r =>
 loK r (fun r => some r) fun j p => br (j == (0 : Nat)) (some (CVal.int IntKind.i64 p.fst.snd.1, [p.snd.1])) none
theorem eq_l_markTyS (C : CallT) (L : LoopT) (a : List CVal) (b : Int) : evF E N C L f_l_markTyS [AVal.lref (0 : Nat) (0 : Nat), AVal.v (CVal.int IntKind.i64 b)] [PB.arr (Md.mk true true (0 : Nat)) false (3 : Nat) a] = nf_l_markTyS C L a b := by kernel_rfl
theorem go_l_markTyS (a : List CVal) (b : Int) (R : Ret) (h : nf_l_markTyS CC LL a b = some R) : CC f_l_markTyS [AVal.lref (0 : Nat) (0 : Nat), AVal.v (CVal.int IntKind.i64 b)] [PB.arr (Md.mk true true (0 : Nat)) false (3 : Nat) a] = some R := fnW (by decide) rfl ((eq_l_markTyS CC LL a b).trans h)
noncomputable def nf_s_l6Own (C : CallT) (L : LoopT) (a0 : Int) (a1 : Int) (a2 : List UInt8) (a3 : List UInt8) (a40 : Int) (a41 : Int) (a42 : List CVal) (a5 : List CVal) (a6 : List CVal) : Option Ret :=
 br (decide (a0 = (4 : Int))) (some (CVal.sl [CVal.str a2], []))
 (br (decide (a0 = (6 : Int))) (some (CVal.sl [CVal.str a2], []))
 (br (decide (a0 = (7 : Int))) (some (CVal.sl [CVal.str a2], []))
 (br (decide (a0 = (17 : Int))) (some (CVal.sl [CVal.str a2], []))
 (br (decide (a0 = (14 : Int))) (some (CVal.sl [CVal.str a2, CVal.str a3], [])) (some (CVal.sl [], []))))))
theorem eq_s_l6Own (C : CallT) (L : LoopT) (a0 : Int) (a1 : Int) (a2 : List UInt8) (a3 : List UInt8) (a40 : Int) (a41 : Int) (a42 : List CVal) (a5 : List CVal) (a6 : List CVal) : evF E N C L f_s_l6Own [AVal.v
 (CVal.agg
 [CVal.int IntKind.i64 a0, CVal.int IntKind.i64 a1, CVal.str a2, CVal.str a3, CVal.int IntKind.i64 a40,
 CVal.int IntKind.i64 a41, CVal.sl a42, CVal.sl a5, CVal.sl a6])] [] = nf_s_l6Own C L a0 a1 a2 a3 a40 a41 a42 a5 a6 := by kernel_rfl
theorem go_s_l6Own (a0 : Int) (a1 : Int) (a2 : List UInt8) (a3 : List UInt8) (a40 : Int) (a41 : Int) (a42 : List CVal) (a5 : List CVal) (a6 : List CVal) (R : Ret) (h : nf_s_l6Own CC LL a0 a1 a2 a3 a40 a41 a42 a5 a6 = some R) : CC f_s_l6Own [AVal.v
 (CVal.agg
 [CVal.int IntKind.i64 a0, CVal.int IntKind.i64 a1, CVal.str a2, CVal.str a3, CVal.int IntKind.i64 a40,
 CVal.int IntKind.i64 a41, CVal.sl a42, CVal.sl a5, CVal.sl a6])] [] = some R := fnW (by decide) rfl ((eq_s_l6Own CC LL a0 a1 a2 a3 a40 a41 a42 a5 a6).trans h)
noncomputable def nf_i_headOk (C : CallT) (L : LoopT) (a0 : Int) (a1 : Int) (a2 : List UInt8) (a3 : List UInt8) (a40 : Int) (a41 : Int) (a42 : List CVal) (a5 : List CVal) (a6 : List CVal) : Option Ret :=
 ((C f_i_parts [AVal.v (CVal.int IntKind.i64 a0)] []).bind fun r =>
 (CVal.asInt IntKind.i64 r.1).bind fun n =>
 br (!decide ((↑a6.length : Int) = n)) (some (true, PUnit.unit))
 ((C f_i_numberOk [AVal.v (CVal.int IntKind.i64 a0), AVal.v (CVal.int IntKind.i64 a1)] []).bind fun r =>
 r.1.asBool.bind fun b =>
 br (!b) (some (true, PUnit.unit))
 ((C f_i_namesOk [AVal.v (CVal.int IntKind.i64 a0), AVal.v (CVal.str a2), AVal.v (CVal.str a3)] []).bind
 fun r =>
 r.1.asBool.bind fun b =>
 br (!b) (some (true, PUnit.unit))
 (br (decide (a0 = (7 : Int)))
 (a6[(0 : Nat)]?.bind fun y =>
 br (CVal.fits true (9 : Nat) y)
 ((y.cell (0 : Nat)).bind fun c =>
 (CVal.asInt IntKind.i64 c).bind fun n => some (!decide (n = (4 : Int)), PUnit.unit))
 none)
 (some (false, PUnit.unit)))))).bind
 fun y =>
 br y.1 (some (CVal.bool false, []))
 (((C f_i_hasT [AVal.v (CVal.int IntKind.i64 a0)] []).bind fun r =>
 (C f_i_TyOk [AVal.v (CVal.agg [CVal.int IntKind.i64 a40, CVal.int IntKind.i64 a41, CVal.sl a42])] []).bind
 fun r_1 =>
 r.1.asBool.bind fun b =>
 r_1.1.asBool.bind fun b_1 =>
 br (!b == b_1) (some (true, PUnit.unit))
 ((C f_i_hasT [AVal.v (CVal.int IntKind.i64 a0)] []).bind fun r =>
 r.1.asBool.bind fun b =>
 br (!b)
 ((C f_i_SameTy
 [AVal.v (CVal.agg [CVal.int IntKind.i64 a40, CVal.int IntKind.i64 a41, CVal.sl a42]),
 AVal.v
 (CVal.agg
 [CVal.int IntKind.i64 (0 : Int), CVal.int IntKind.i64 (0 : Int), CVal.sl []])]
 []).bind
 fun r => br (!scalar r.1) none (r.1.asBool.bind fun b => some (!b, PUnit.unit)))
 (some (false, PUnit.unit)))).bind
 fun y =>
 br y.1 (some (CVal.bool false, []))
 (br (decide (a0 = (3 : Int)))
 ((br (decide ((↑a5.length : Int) ≤ (2 : Int)))
 ((C f_slices_ContainsFunc_Ty [AVal.v (CVal.sl a5), AVal.v (CVal.func f_i_headOk_1 [])] []).bind fun r =>
 r.1.asBool.bind fun b => some (!b, PUnit.unit))
 (some (false, PUnit.unit))).bind
 fun y => some (CVal.bool y.1, []))
 ((br (decide ((↑a5.length : Int) ≤ (0 : Int)))
 ((C f_slices_ContainsFunc_Ty [AVal.v (CVal.sl a5), AVal.v (CVal.func f_i_headOk_1 [])] []).bind fun r =>
 r.1.asBool.bind fun b => some (!b, PUnit.unit))
 (some (false, PUnit.unit))).bind
 fun y => some (CVal.bool y.1, []))))
theorem eq_i_headOk (C : CallT) (L : LoopT) (a0 : Int) (a1 : Int) (a2 : List UInt8) (a3 : List UInt8) (a40 : Int) (a41 : Int) (a42 : List CVal) (a5 : List CVal) (a6 : List CVal) : evF E N C L f_i_headOk [AVal.v
 (CVal.agg
 [CVal.int IntKind.i64 a0, CVal.int IntKind.i64 a1, CVal.str a2, CVal.str a3, CVal.int IntKind.i64 a40,
 CVal.int IntKind.i64 a41, CVal.sl a42, CVal.sl a5, CVal.sl a6])] [] = nf_i_headOk C L a0 a1 a2 a3 a40 a41 a42 a5 a6 := by kernel_rfl
theorem go_i_headOk (a0 : Int) (a1 : Int) (a2 : List UInt8) (a3 : List UInt8) (a40 : Int) (a41 : Int) (a42 : List CVal) (a5 : List CVal) (a6 : List CVal) (R : Ret) (h : nf_i_headOk CC LL a0 a1 a2 a3 a40 a41 a42 a5 a6 = some R) : CC f_i_headOk [AVal.v
 (CVal.agg
 [CVal.int IntKind.i64 a0, CVal.int IntKind.i64 a1, CVal.str a2, CVal.str a3, CVal.int IntKind.i64 a40,
 CVal.int IntKind.i64 a41, CVal.sl a42, CVal.sl a5, CVal.sl a6])] [] = some R := fnW (by decide) rfl ((eq_i_headOk CC LL a0 a1 a2 a3 a40 a41 a42 a5 a6).trans h)
noncomputable def nf_s_TyOk (C : CallT) (L : LoopT) (a0 : Int) (a1 : Int) (a2 : List CVal) : Option Ret :=
 (C f_s_l1Look
 [AVal.v (CVal.agg [CVal.int IntKind.i64 a0, CVal.int IntKind.i64 a1, CVal.sl a2]),
 AVal.v (CVal.int IntKind.i64 (6 : Int)), AVal.lptr (0 : Nat) (0 : Nat)]
 [PB.box [AVal.v (CVal.int IntKind.i64 (0 : Int))]]).bind
 fun r => r.2[(0 : Nat)]?.bind fun y => y[(0 : Nat)]?.bind fun y => some (r.1, [])
theorem eq_s_TyOk (C : CallT) (L : LoopT) (a0 : Int) (a1 : Int) (a2 : List CVal) : evF E N C L f_s_TyOk [AVal.v (CVal.agg [CVal.int IntKind.i64 a0, CVal.int IntKind.i64 a1, CVal.sl a2])] [] = nf_s_TyOk C L a0 a1 a2 := by kernel_rfl
theorem go_s_TyOk (a0 : Int) (a1 : Int) (a2 : List CVal) (R : Ret) (h : nf_s_TyOk CC LL a0 a1 a2 = some R) : CC f_s_TyOk [AVal.v (CVal.agg [CVal.int IntKind.i64 a0, CVal.int IntKind.i64 a1, CVal.sl a2])] [] = some R := fnW (by decide) rfl ((eq_s_TyOk CC LL a0 a1 a2).trans h)
noncomputable def nf_i_namesOk (C : CallT) (L : LoopT) (a : Int) (b : List UInt8) (c : List UInt8) : Option Ret :=
 br (decide (a = (14 : Int)))
 (((C f_i_isName [AVal.v (CVal.str b)] []).bind fun r =>
 r.1.asBool.bind fun b_1 =>
 br b_1
 ((C f_i_isName [AVal.v (CVal.str c)] []).bind fun r =>
 (bif true then r.1 else CVal.bool false).asBool.bind fun b_2 =>
 br b_2 (some (!decide (b = c), PUnit.unit)) (some (false, PUnit.unit)))
 (some (false, PUnit.unit))).bind
 fun y => some (CVal.bool y.1, []))
 ((br (decide (c = []))
 ((C f_i_isName [AVal.v (CVal.str b)] []).bind fun r =>
 (C f_i_bindsS [AVal.v (CVal.int IntKind.i64 a)] []).bind fun r_1 =>
 r_1.1.asBool.bind fun b_1 =>
 br b_1
 (r.1.asBool.bind fun b_2 =>
 br (b_2 == true)
 (br (decide (b = [])) (some (true, PUnit.unit))
 ((C f_i_isName [AVal.v (CVal.str b)] []).bind fun r =>
 (bif true then bif false then CVal.bool true else r.1 else CVal.bool false).asBool.bind fun b =>
 some (b, PUnit.unit)))
 (some (false, PUnit.unit)))
 (r.1.asBool.bind fun b_2 =>
 br (b_2 == decide (a = (3 : Int)))
 (br (decide (b = [])) (some (true, PUnit.unit))
 ((C f_i_isName [AVal.v (CVal.str b)] []).bind fun r =>
 (bif true then bif false then CVal.bool true else r.1 else CVal.bool false).asBool.bind fun b =>
 some (b, PUnit.unit)))
 (some (false, PUnit.unit))))
 (some (false, PUnit.unit))).bind
 fun y => some (CVal.bool y.1, []))
theorem eq_i_namesOk (C : CallT) (L : LoopT) (a : Int) (b : List UInt8) (c : List UInt8) : evF E N C L f_i_namesOk [AVal.v (CVal.int IntKind.i64 a), AVal.v (CVal.str b), AVal.v (CVal.str c)] [] = nf_i_namesOk C L a b c := by kernel_rfl
theorem go_i_namesOk (a : Int) (b : List UInt8) (c : List UInt8) (R : Ret) (h : nf_i_namesOk CC LL a b c = some R) : CC f_i_namesOk [AVal.v (CVal.int IntKind.i64 a), AVal.v (CVal.str b), AVal.v (CVal.str c)] [] = some R := fnW (by decide) rfl ((eq_i_namesOk CC LL a b c).trans h)
noncomputable def nf_slices_ContainsFunc_Ty (C : CallT) (L : LoopT) (a : List CVal) (b : CVal) : Option Ret :=
 (C f_slices_IndexFunc_Ty [AVal.v (CVal.sl a), AVal.v b] []).bind fun r =>
 (CVal.asInt IntKind.i64 r.1).bind fun n => some (CVal.bool (decide ((0 : Int) ≤ n)), [])
theorem eq_slices_ContainsFunc_Ty (C : CallT) (L : LoopT) (a : List CVal) (b : CVal) : evF E N C L f_slices_ContainsFunc_Ty [AVal.v (CVal.sl a), AVal.v b] [] = nf_slices_ContainsFunc_Ty C L a b := by kernel_rfl
theorem go_slices_ContainsFunc_Ty (a : List CVal) (b : CVal) (R : Ret) (h : nf_slices_ContainsFunc_Ty CC LL a b = some R) : CC f_slices_ContainsFunc_Ty [AVal.v (CVal.sl a), AVal.v b] [] = some R := fnW (by decide) rfl ((eq_slices_ContainsFunc_Ty CC LL a b).trans h)
noncomputable def nf_i_in (C : CallT) (L : LoopT) (a : Int) (b : Int) (c : Int) : Option Ret :=
 (br (decide (b ≤ a)) (some (decide (a ≤ c), PUnit.unit)) (some (false, PUnit.unit))).bind fun y =>
 some (CVal.bool y.1, [])
theorem eq_i_in (C : CallT) (L : LoopT) (a : Int) (b : Int) (c : Int) : evF E N C L f_i_in [AVal.v (CVal.int IntKind.i64 a), AVal.v (CVal.int IntKind.i64 b), AVal.v (CVal.int IntKind.i64 c)] [] = nf_i_in C L a b c := by kernel_rfl
theorem go_i_in (a : Int) (b : Int) (c : Int) (R : Ret) (h : nf_i_in CC LL a b c = some R) : CC f_i_in [AVal.v (CVal.int IntKind.i64 a), AVal.v (CVal.int IntKind.i64 b), AVal.v (CVal.int IntKind.i64 c)] [] = some R := fnW (by decide) rfl ((eq_i_in CC LL a b c).trans h)
noncomputable def nf_slices_IndexFunc_Ty (C : CallT) (L : LoopT) (a : List CVal) (b : CVal) : Option Ret :=
 (L f_slices_IndexFunc_Ty (0 : Nat) lc_slices_IndexFunc_Ty_0 [] k_slices_IndexFunc_Ty_0
 ((a, b, (↑a.length : Int), (0 : Int), PUnit.unit), PUnit.unit)).bind
 fun r => loK r (fun r => some r) fun j p => br (j == (0 : Nat)) (some (CVal.int IntKind.i64 (-1 : Int), [])) none
theorem eq_slices_IndexFunc_Ty (C : CallT) (L : LoopT) (a : List CVal) (b : CVal) : evF E N C L f_slices_IndexFunc_Ty [AVal.v (CVal.sl a), AVal.v b] [] = nf_slices_IndexFunc_Ty C L a b := by kernel_rfl
theorem go_slices_IndexFunc_Ty (a : List CVal) (b : CVal) (R : Ret) (h : nf_slices_IndexFunc_Ty CC LL a b = some R) : CC f_slices_IndexFunc_Ty [AVal.v (CVal.sl a), AVal.v b] [] = some R := fnW (by decide) rfl ((eq_slices_IndexFunc_Ty CC LL a b).trans h)
noncomputable def nl_l_markStringS_0 (C : CallT) (L : LoopT) (x01 : Int) (x02 : Int) (x1 : List CVal) : Option (LO k_l_markStringS_0.T) :=
 br (decide (x02 < (↑x1.length : Int)))
 ((C f_l_markText [AVal.v (CVal.int IntKind.i64 x01)] []).bind fun r =>
 br (decide ((0 : Int) ≤ x02) && true)
 (br (decide (x02.toNat < x1.length) && true)
 (br (r.1.isFlat && true)
 (r.1.asStr.bind fun s =>
 x1[x02.toNat]?.bind fun y =>
 br (CVal.fits false (1 : Nat) y)
 (L f_l_markStringS (0 : Nat) lc_l_markStringS_0 [PSh.arr (Md.mk true true (0 : Nat)) false (1 : Nat)]
 k_l_markStringS_0
 ((PUnit.unit, IntKind.i64.wrap (x01 + (1 : Int)), IntKind.i64.wrap (x02 + (1 : Int)), PUnit.unit),
 x1.set x02.toNat (CVal.str s), PUnit.unit))
 (br (y.isAgg && decide ((1 : Nat) ≤ y.cells.length))
 (L f_l_markStringS (0 : Nat) lc_l_markStringS_0 [PSh.arr (Md.mk true true (0 : Nat)) false (1 : Nat)]
 k_l_markStringS_0
 ((PUnit.unit, IntKind.i64.wrap (x01 + (1 : Int)), IntKind.i64.wrap (x02 + (1 : Int)), PUnit.unit),
 x1.set x02.toNat (CVal.agg (CVal.str s :: List.drop (1 : Nat) y.cells)), PUnit.unit))
 none))
 none)
 none)
 none)
 (some (LO.out (0 : Nat) ((PUnit.unit, x01, x02, PUnit.unit), x1, PUnit.unit)))
theorem el_l_markStringS_0 (C : CallT) (L : LoopT) (x01 : Int) (x02 : Int) (x1 : List CVal) : evL E N C L f_l_markStringS 0 lc_l_markStringS_0 [PSh.arr (Md.mk true true (0 : Nat)) false (1 : Nat)] k_l_markStringS_0 (((), x01, x02, ()), x1, ()) = nl_l_markStringS_0 C L x01 x02 x1 := by kernel_rfl
theorem gl_l_markStringS_0 (x01 : Int) (x02 : Int) (x1 : List CVal) (R : LO k_l_markStringS_0.T) (h : nl_l_markStringS_0 CC LL x01 x02 x1 = some R) : LL f_l_markStringS 0 lc_l_markStringS_0 [PSh.arr (Md.mk true true (0 : Nat)) false (1 : Nat)] k_l_markStringS_0 (((), x01, x02, ()), x1, ()) = some R := loopW ((el_l_markStringS_0 CC LL x01 x02 x1).trans h)
noncomputable def nl_l_toTyS_0 (C : CallT) (L : LoopT) (x00 : List CVal) (x02 : Int) (x1 : List CVal) : Option (LO k_l_toTyS_0.T) :=
 br (decide (x02 < (↑x00.length : Int)))
 (br (decide ((0 : Int) ≤ x02) && true)
 (x00[x02.toNat]?.bind fun y =>
 br (CVal.fits true (3 : Nat) y)
 ((y.sub (0 : Nat) (3 : Nat)).bind fun y =>
 (C f_l_toTy [AVal.v y] []).bind fun r =>
 br (CVal.isAggN (3 : Nat) r.1)
 ((r.1.cell (0 : Nat)).bind fun c =>
 (r.1.cell (1 : Nat)).bind fun c_1 =>
 (r.1.cell (2 : Nat)).bind fun c_2 =>
 c_2.asSl.bind fun xs =>
 br (decide ((0 : Int) ≤ x02) && true)
 (br (decide (x02.toNat < x1.length) && true)
 ((CVal.asInt IntKind.i64 c).bind fun n =>
 (CVal.asInt IntKind.i64 c_1).bind fun n_1 =>
 x1[x02.toNat]?.bind fun y =>
 br (CVal.fits true (3 : Nat) y)
 (L f_l_toTyS (0 : Nat) lc_l_toTyS_0 [] k_l_toTyS_0
 ((x00, PUnit.unit, IntKind.i64.wrap (x02 + (1 : Int)), PUnit.unit),
 x1.set x02.toNat
 (CVal.agg [CVal.int IntKind.i64 n, CVal.int IntKind.i64 n_1, CVal.sl xs]),
 PUnit.unit))
 (br (y.isAgg && decide ((3 : Nat) ≤ y.cells.length))
 (L f_l_toTyS (0 : Nat) lc_l_toTyS_0 [] k_l_toTyS_0
 ((x00, PUnit.unit, IntKind.i64.wrap (x02 + (1 : Int)), PUnit.unit),
 x1.set x02.toNat
 (CVal.agg
 (CVal.int IntKind.i64 n ::
 CVal.int IntKind.i64 n_1 :: CVal.sl xs :: List.drop (3 : Nat) y.cells)),
 PUnit.unit))
 none))
 none)
 none)
 none)
 none)
 none)
 (some (LO.out (0 : Nat) ((x00, PUnit.unit, x02, PUnit.unit), x1, PUnit.unit)))
theorem el_l_toTyS_0 (C : CallT) (L : LoopT) (x00 : List CVal) (x02 : Int) (x1 : List CVal) : evL E N C L f_l_toTyS 0 lc_l_toTyS_0 [] k_l_toTyS_0 ((x00, (), x02, ()), x1, ()) = nl_l_toTyS_0 C L x00 x02 x1 := by kernel_rfl
theorem gl_l_toTyS_0 (x00 : List CVal) (x02 : Int) (x1 : List CVal) (R : LO k_l_toTyS_0.T) (h : nl_l_toTyS_0 CC LL x00 x02 x1 = some R) : LL f_l_toTyS 0 lc_l_toTyS_0 [] k_l_toTyS_0 ((x00, (), x02, ()), x1, ()) = some R := loopW ((el_l_toTyS_0 CC LL x00 x02 x1).trans h)
noncomputable def nl_l_eqTyS_0 (C : CallT) (L : LoopT) (x00 : List CVal) (x01 : List CVal) (x02 : Int) : Option (LO k_l_eqTyS_0.T) :=
 br (decide (x02 < (↑x00.length : Int)))
 (br (decide ((0 : Int) ≤ x02) && true)
 (x00[x02.toNat]?.bind fun y =>
 br (CVal.fits true (3 : Nat) y)
 ((y.sub (0 : Nat) (3 : Nat)).bind fun y =>
 br (decide ((0 : Int) ≤ x02) && true)
 (x01[x02.toNat]?.bind fun y_1 =>
 br (CVal.fits true (3 : Nat) y_1)
 ((y_1.sub (0 : Nat) (3 : Nat)).bind fun y_2 =>
 (C f_l_eqTy [AVal.v y, AVal.v y_2] []).bind fun r =>
 r.1.asBool.bind fun b =>
 br (!b) (some (LO.ret (CVal.bool false, [])))
 (L f_l_eqTyS (0 : Nat) lc_l_eqTyS_0 [] k_l_eqTyS_0
 ((x00, x01, IntKind.i64.wrap (x02 + (1 : Int)), PUnit.unit), PUnit.unit)))
 none)
 none)
 none)
 none)
 (some (LO.out (0 : Nat) ((x00, x01, x02, PUnit.unit), PUnit.unit)))
theorem el_l_eqTyS_0 (C : CallT) (L : LoopT) (x00 : List CVal) (x01 : List CVal) (x02 : Int) : evL E N C L f_l_eqTyS 0 lc_l_eqTyS_0 [] k_l_eqTyS_0 ((x00, x01, x02, ()), ()) = nl_l_eqTyS_0 C L x00 x01 x02 := by kernel_rfl
theorem gl_l_eqTyS_0 (x00 : List CVal) (x01 : List CVal) (x02 : Int) (R : LO k_l_eqTyS_0.T) (h : nl_l_eqTyS_0 CC LL x00 x01 x02 = some R) : LL f_l_eqTyS 0 lc_l_eqTyS_0 [] k_l_eqTyS_0 ((x00, x01, x02, ()), ()) = some R := loopW ((el_l_eqTyS_0 CC LL x00 x01 x02).trans h)
noncomputable def nl_l_markText_0 (C : CallT) (L : LoopT) (x00 : Int) (x01 : List UInt8) : Option (LO k_l_markText_0.T) :=
 br (decide ((0 : Int) < x00))
 (br (decide ((1 : Nat) + x01.length ≤ (1152921504606846976 : Nat)))
 (L f_l_markText (0 : Nat) lc_l_markText_0 [] k_l_markText_0
 ((IntKind.i64.wrap (x00.tdiv (10 : Int)),
 [UInt8.ofNat (IntKind.u8.wrap (IntKind.i64.wrap ((48 : Int) + x00.tmod (10 : Int)))).toNat] ++ x01,
 PUnit.unit),
 PUnit.unit))
 none)
 (some (LO.out (0 : Nat) ((x00, x01, PUnit.unit), PUnit.unit)))
theorem el_l_markText_0 (C : CallT) (L : LoopT) (x00 : Int) (x01 : List UInt8) : evL E N C L f_l_markText 0 lc_l_markText_0 [] k_l_markText_0 ((x00, x01, ()), ()) = nl_l_markText_0 C L x00 x01 := by kernel_rfl
theorem gl_l_markText_0 (x00 : Int) (x01 : List UInt8) (R : LO k_l_markText_0.T) (h : nl_l_markText_0 CC LL x00 x01 = some R) : LL f_l_markText 0 lc_l_markText_0 [] k_l_markText_0 ((x00, x01, ()), ()) = some R := loopW ((el_l_markText_0 CC LL x00 x01).trans h)
noncomputable def nl_s_l2Name_0 (C : CallT) (L : LoopT) (x00 : List UInt8) (x01 : Bool) (x02 : Int) : Option (LO k_s_l2Name_0.T) :=
 br (decide (x02 < (↑x00.length : Int)))
 (br (decide ((0 : Int) ≤ x02))
 (x00[x02.toNat]?.bind fun y =>
 ((C f_s_l1In
 [AVal.v (CVal.int IntKind.i64 (IntKind.i64.wrap (↑y.toNat : Int))),
 AVal.v (CVal.int IntKind.i64 (97 : Int)), AVal.v (CVal.int IntKind.i64 (122 : Int))]
 []).bind
 fun r =>
 r.1.asBool.bind fun b =>
 br (!b)
 ((C f_s_l1In
 [AVal.v (CVal.int IntKind.i64 (IntKind.i64.wrap (↑y.toNat : Int))),
 AVal.v (CVal.int IntKind.i64 (48 : Int)), AVal.v (CVal.int IntKind.i64 (57 : Int))]
 []).bind
 fun r =>
 r.1.asBool.bind fun b =>
 br (!b)
 (br x01 (some (true, PUnit.unit))
 (some (!decide (IntKind.i64.wrap (↑y.toNat : Int) = (46 : Int)), PUnit.unit)))
 (some (false, PUnit.unit)))
 (some (false, PUnit.unit))).bind
 fun y =>
 br y.1 (some (LO.ret (CVal.bool false, [])))
 (L f_s_l2Name (0 : Nat) lc_s_l2Name_0 [] k_s_l2Name_0
 ((x00, x01, IntKind.i64.wrap (x02 + (1 : Int)), PUnit.unit), PUnit.unit)))
 none)
 (some (LO.out (0 : Nat) ((x00, x01, x02, PUnit.unit), PUnit.unit)))
theorem el_s_l2Name_0 (C : CallT) (L : LoopT) (x00 : List UInt8) (x01 : Bool) (x02 : Int) : evL E N C L f_s_l2Name 0 lc_s_l2Name_0 [] k_s_l2Name_0 ((x00, x01, x02, ()), ()) = nl_s_l2Name_0 C L x00 x01 x02 := by kernel_rfl
theorem gl_s_l2Name_0 (x00 : List UInt8) (x01 : Bool) (x02 : Int) (R : LO k_s_l2Name_0.T) (h : nl_s_l2Name_0 CC LL x00 x01 x02 = some R) : LL f_s_l2Name 0 lc_s_l2Name_0 [] k_s_l2Name_0 ((x00, x01, x02, ()), ()) = some R := loopW ((el_s_l2Name_0 CC LL x00 x01 x02).trans h)
noncomputable def nl_i_measure_0 (C : CallT) (L : LoopT) (x00 : Int) (x01 : Int) (x02 : List CVal) (x03 : Int) (x04 : Int) : Option (LO k_i_measure_0.T) :=
 br (decide (x04 < x03))
 (br (decide ((0 : Int) ≤ x04) && true)
 (x02[x04.toNat]?.bind fun y =>
 br (CVal.fits true (3 : Nat) y)
 ((y.sub (0 : Nat) (3 : Nat)).bind fun y =>
 br (CVal.isAggN (3 : Nat) y)
 ((y.cell (0 : Nat)).bind fun c =>
 (y.cell (1 : Nat)).bind fun c_1 =>
 (y.cell (2 : Nat)).bind fun c_2 =>
 (C f_i_measure [AVal.v (CVal.agg [c, c_1, c_2])] []).bind fun r =>
 r.1.asTup.bind fun y =>
 y[(0 : Nat)]?.bind fun y =>
 r.1.asTup.bind fun y_1 =>
 y_1[(1 : Nat)]?.bind fun y_2 =>
 r.1.asTup.bind fun y_3 =>
 y_3[(2 : Nat)]?.bind fun y_4 =>
 y_4.asBool.bind fun b =>
 br (!b)
 (some
 (LO.ret
 (CVal.tup
 [CVal.int IntKind.i64 (0 : Int), CVal.int IntKind.i64 (0 : Int),
 CVal.bool false],
 [])))
 ((CVal.asInt IntKind.i64 y).bind fun n =>
 (CVal.asInt IntKind.i64 y_2).bind fun n_1 =>
 L f_i_measure (0 : Nat) lc_i_measure_0 [] k_i_measure_0
 ((bif decide (x00 < n) then n else x00, IntKind.i64.wrap (x01 + n_1), x02,
 x03, IntKind.i64.wrap (x04 + (1 : Int)), PUnit.unit),
 PUnit.unit)))
 none)
 none)
 none)
 (some (LO.out (0 : Nat) ((x00, x01, x02, x03, x04, PUnit.unit), PUnit.unit)))
theorem el_i_measure_0 (C : CallT) (L : LoopT) (x00 : Int) (x01 : Int) (x02 : List CVal) (x03 : Int) (x04 : Int) : evL E N C L f_i_measure 0 lc_i_measure_0 [] k_i_measure_0 ((x00, x01, x02, x03, x04, ()), ()) = nl_i_measure_0 C L x00 x01 x02 x03 x04 := by kernel_rfl
theorem gl_i_measure_0 (x00 : Int) (x01 : Int) (x02 : List CVal) (x03 : Int) (x04 : Int) (R : LO k_i_measure_0.T) (h : nl_i_measure_0 CC LL x00 x01 x02 x03 x04 = some R) : LL f_i_measure 0 lc_i_measure_0 [] k_i_measure_0 ((x00, x01, x02, x03, x04, ()), ()) = some R := loopW ((el_i_measure_0 CC LL x00 x01 x02 x03 x04).trans h)
end Go.Proofs.Ytbimglfmmmlicaa.Abs
