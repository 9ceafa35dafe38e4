/- What the functions come to in the abstract machine. -/
import Derived.Test.YtbimglfmmmlicaaQ2Ann
import Derived.KernelRfl
set_option linter.unusedVariables false
set_option maxRecDepth 100000
namespace Go.Proofs.Ytbimglfmmmlicaa.Abs
open Go Go.Proofs
noncomputable def nf_l_FnExactAllUnlike (C : CallT) (L : LoopT) (a0 : Int) (a1 : Int) (a2 : List UInt8) (a3 : List UInt8) (a40 : Int) (a41 : Int) (a42 : List CVal) (a5 : List CVal) (a6 : List CVal) : Option Ret :=
 (C f_l_szTerm
 [AVal.v
 (CVal.agg
 [CVal.int IntKind.i64 a0, CVal.int IntKind.i64 a1, CVal.str a2, CVal.str a3, CVal.int IntKind.i64 a40,
 CVal.int IntKind.i64 a41, CVal.sl a42, CVal.sl a5, CVal.sl a6]),
 AVal.v (CVal.int IntKind.i64 (1048576 : Int))]
 []).bind
 fun r =>
 (CVal.asInt IntKind.i64 r.1).bind fun n =>
 br (decide (n < (0 : Int))) (some (CVal.bool true, []))
 ((C f_l_toTerm
 [AVal.v
 (CVal.agg
 [CVal.int IntKind.i64 a0, CVal.int IntKind.i64 a1, CVal.str a2, CVal.str a3, CVal.int IntKind.i64 a40,
 CVal.int IntKind.i64 a41, CVal.sl a42, CVal.sl a5, CVal.sl a6])]
 []).bind
 fun r =>
 (C f_s_AllUnlike [AVal.v r.1] []).bind fun r =>
 (C f_l_toTerm
 [AVal.v
 (CVal.agg
 [CVal.int IntKind.i64 a0, CVal.int IntKind.i64 a1, CVal.str a2, CVal.str a3,
 CVal.int IntKind.i64 a40, CVal.int IntKind.i64 a41, CVal.sl a42, CVal.sl a5, CVal.sl a6])]
 []).bind
 fun r_1 =>
 br (CVal.isAggN (9 : Nat) r_1.1)
 ((r_1.1.cell (0 : Nat)).bind fun c =>
 (r_1.1.cell (1 : Nat)).bind fun c_1 =>
 (r_1.1.cell (2 : Nat)).bind fun c_2 =>
 (r_1.1.cell (3 : Nat)).bind fun c_3 =>
 (r_1.1.cell (4 : Nat)).bind fun c_4 =>
 (r_1.1.cell (5 : Nat)).bind fun c_5 =>
 (r_1.1.cell (6 : Nat)).bind fun c_6 =>
 (r_1.1.cell (7 : Nat)).bind fun c_7 =>
 (r_1.1.cell (8 : Nat)).bind fun c_8 =>
 c_6.asSl.bind fun xs =>
 c_7.asSl.bind fun xs_1 =>
 c_8.asSl.bind fun xs_2 =>
 (C f_i_AllUnlike
 [AVal.v
 (CVal.agg
 [c, c_1, c_2, c_3, c_4, c_5, CVal.sl xs, CVal.sl xs_1, CVal.sl xs_2])]
 []).bind
 fun r_2 =>
 br (!scalar r_2.1) none
 (r_2.1.asBool.bind fun b =>
 r.1.asBool.bind fun b_1 =>
 br (!b == b_1) (some (CVal.bool false, []))
 ((C f_l_toTerm
 [AVal.v
 (CVal.agg
 [CVal.int IntKind.i64 a0, CVal.int IntKind.i64 a1,
 CVal.str a2, CVal.str a3, CVal.int IntKind.i64 a40,
 CVal.int IntKind.i64 a41, CVal.sl a42, CVal.sl a5,
 CVal.sl a6])]
 []).bind
 fun r =>
 (C f_l_eqTerm
 [AVal.v
 (CVal.agg
 [c, c_1, c_2, c_3, c_4, c_5, CVal.sl xs, CVal.sl xs_1,
 CVal.sl xs_2]),
 AVal.v r.1]
 []).bind
 fun r =>
 br (!scalar r.1) none
 (r.1.asBool.bind fun b =>
 br (!b) (some (CVal.bool false, []))
 (some (CVal.bool true, []))))))
 none)
theorem eq_l_FnExactAllUnlike (C : CallT) (L : LoopT) (a0 : Int) (a1 : Int) (a2 : List UInt8) (a3 : List UInt8) (a40 : Int) (a41 : Int) (a42 : List CVal) (a5 : List CVal) (a6 : List CVal) : evF E N C L f_l_FnExactAllUnlike [AVal.v
 (CVal.agg
 [CVal.int IntKind.i64 a0, CVal.int IntKind.i64 a1, CVal.str a2, CVal.str a3, CVal.int IntKind.i64 a40,
 CVal.int IntKind.i64 a41, CVal.sl a42, CVal.sl a5, CVal.sl a6])] [] = nf_l_FnExactAllUnlike C L a0 a1 a2 a3 a40 a41 a42 a5 a6 := by kernel_rfl
theorem go_l_FnExactAllUnlike (a0 : Int) (a1 : Int) (a2 : List UInt8) (a3 : List UInt8) (a40 : Int) (a41 : Int) (a42 : List CVal) (a5 : List CVal) (a6 : List CVal) (R : Ret) (h : nf_l_FnExactAllUnlike CC LL a0 a1 a2 a3 a40 a41 a42 a5 a6 = some R) : CC f_l_FnExactAllUnlike [AVal.v
 (CVal.agg
 [CVal.int IntKind.i64 a0, CVal.int IntKind.i64 a1, CVal.str a2, CVal.str a3, CVal.int IntKind.i64 a40,
 CVal.int IntKind.i64 a41, CVal.sl a42, CVal.sl a5, CVal.sl a6])] [] = some R := fnW (by decide) rfl ((eq_l_FnExactAllUnlike CC LL a0 a1 a2 a3 a40 a41 a42 a5 a6).trans h)
noncomputable def nf_i_AllUnlike (C : CallT) (L : LoopT) (a0 : Int) (a1 : Int) (a2 : List UInt8) (a3 : List UInt8) (a40 : Int) (a41 : Int) (a42 : List CVal) (a5 : List CVal) (a6 : List CVal) : Option Ret :=
 (C f_i_Binders
 [AVal.v
 (CVal.agg
 [CVal.int IntKind.i64 a0, CVal.int IntKind.i64 a1, CVal.str a2, CVal.str a3, CVal.int IntKind.i64 a40,
 CVal.int IntKind.i64 a41, CVal.sl a42, CVal.sl a5, CVal.sl a6])]
 []).bind
 fun r =>
 br r.1.isFlat
 (r.1.asSl.bind fun xs =>
 (C f_slices_Sort_string [AVal.lref (0 : Nat) (0 : Nat)]
 [PB.arr (Md.mk true true (0 : Nat)) false (1 : Nat) xs]).bind
 fun r =>
 r.2[(0 : Nat)]?.bind fun y =>
 (C f_i_TermOk
 [AVal.v
 (CVal.agg
 [CVal.int IntKind.i64 a0, CVal.int IntKind.i64 a1, CVal.str a2, CVal.str a3,
 CVal.int IntKind.i64 a40, CVal.int IntKind.i64 a41, CVal.sl a42, CVal.sl a5, CVal.sl a6])]
 []).bind
 fun r =>
 r.1.asBool.bind fun b =>
 br b
 ((C f_slices_Clone_string [AVal.v (CVal.sl y)] []).bind fun r =>
 br (!r.1.plain) none
 (br r.1.isFlat
 (r.1.asSl.bind fun xs =>
 (C f_slices_Compact_string [AVal.lref (0 : Nat) (0 : Nat)]
 [PB.arr (Md.mk true false (0 : Nat)) false (1 : Nat) xs]).bind
 fun r =>
 r.2[(0 : Nat)]?.bind fun y_1 =>
 some (CVal.bool (decide ((↑y_1.length : Int) = (↑y.length : Int))), []))
 none))
 (some (CVal.bool false, [])))
 none
theorem eq_i_AllUnlike (C : CallT) (L : LoopT) (a0 : Int) (a1 : Int) (a2 : List UInt8) (a3 : List UInt8) (a40 : Int) (a41 : Int) (a42 : List CVal) (a5 : List CVal) (a6 : List CVal) : evF E N C L f_i_AllUnlike [AVal.v
 (CVal.agg
 [CVal.int IntKind.i64 a0, CVal.int IntKind.i64 a1, CVal.str a2, CVal.str a3, CVal.int IntKind.i64 a40,
 CVal.int IntKind.i64 a41, CVal.sl a42, CVal.sl a5, CVal.sl a6])] [] = nf_i_AllUnlike C L a0 a1 a2 a3 a40 a41 a42 a5 a6 := by kernel_rfl
theorem go_i_AllUnlike (a0 : Int) (a1 : Int) (a2 : List UInt8) (a3 : List UInt8) (a40 : Int) (a41 : Int) (a42 : List CVal) (a5 : List CVal) (a6 : List CVal) (R : Ret) (h : nf_i_AllUnlike CC LL a0 a1 a2 a3 a40 a41 a42 a5 a6 = some R) : CC f_i_AllUnlike [AVal.v
 (CVal.agg
 [CVal.int IntKind.i64 a0, CVal.int IntKind.i64 a1, CVal.str a2, CVal.str a3, CVal.int IntKind.i64 a40,
 CVal.int IntKind.i64 a41, CVal.sl a42, CVal.sl a5, CVal.sl a6])] [] = some R := fnW (by decide) rfl ((eq_i_AllUnlike CC LL a0 a1 a2 a3 a40 a41 a42 a5 a6).trans h)
noncomputable def nf_l_szTermS (C : CallT) (L : LoopT) (a : List CVal) (b : Int) : Option Ret :=
 br (decide (IntKind.i64.wrap (b - (↑a.length : Int)) < (0 : Int))) (some (CVal.int IntKind.i64 (-1 : Int), []))
 ((L f_l_szTermS (0 : Nat) lc_l_szTermS_0 [] k_l_szTermS_0
 ((a, IntKind.i64.wrap (b - (↑a.length : Int)), (0 : Int), PUnit.unit), PUnit.unit)).bind
 fun r => loK r (fun r => some r) fun j p => br (j == (0 : Nat)) (some (CVal.int IntKind.i64 p.fst.snd.1, [])) none)
theorem eq_l_szTermS (C : CallT) (L : LoopT) (a : List CVal) (b : Int) : evF E N C L f_l_szTermS [AVal.v (CVal.sl a), AVal.v (CVal.int IntKind.i64 b)] [] = nf_l_szTermS C L a b := by kernel_rfl
theorem go_l_szTermS (a : List CVal) (b : Int) (R : Ret) (h : nf_l_szTermS CC LL a b = some R) : CC f_l_szTermS [AVal.v (CVal.sl a), AVal.v (CVal.int IntKind.i64 b)] [] = some R := fnW (by decide) rfl ((eq_l_szTermS CC LL a b).trans h)
noncomputable def nf_s_Binders (C : CallT) (L : LoopT) (a0 : Int) (a1 : Int) (a2 : List UInt8) (a3 : List UInt8) (a40 : Int) (a41 : Int) (a42 : List CVal) (a5 : List CVal) (a6 : List CVal) : Option Ret :=
 (C f_s_TermOk
 [AVal.v
 (CVal.agg
 [CVal.int IntKind.i64 a0, CVal.int IntKind.i64 a1, CVal.str a2, CVal.str a3, CVal.int IntKind.i64 a40,
 CVal.int IntKind.i64 a41, CVal.sl a42, CVal.sl a5, CVal.sl a6])]
 []).bind
 fun r =>
 r.1.asBool.bind fun b =>
 br (!b) (some (CVal.sl [], []))
 ((C f_s_l6Binders
 [AVal.v
 (CVal.agg
 [CVal.int IntKind.i64 a0, CVal.int IntKind.i64 a1, CVal.str a2, CVal.str a3, CVal.int IntKind.i64 a40,
 CVal.int IntKind.i64 a41, CVal.sl a42, CVal.sl a5, CVal.sl a6]),
 AVal.lref (0 : Nat) (0 : Nat)]
 [PB.arr (Md.mk true false (0 : Nat)) false (1 : Nat) []]).bind
 fun r => r.2[(0 : Nat)]?.bind fun y => some (CVal.sl y, []))
theorem eq_s_Binders (C : CallT) (L : LoopT) (a0 : Int) (a1 : Int) (a2 : List UInt8) (a3 : List UInt8) (a40 : Int) (a41 : Int) (a42 : List CVal) (a5 : List CVal) (a6 : List CVal) : evF E N C L f_s_Binders [AVal.v
 (CVal.agg
 [CVal.int IntKind.i64 a0, CVal.int IntKind.i64 a1, CVal.str a2, CVal.str a3, CVal.int IntKind.i64 a40,
 CVal.int IntKind.i64 a41, CVal.sl a42, CVal.sl a5, CVal.sl a6])] [] = nf_s_Binders C L a0 a1 a2 a3 a40 a41 a42 a5 a6 := by kernel_rfl
theorem go_s_Binders (a0 : Int) (a1 : Int) (a2 : List UInt8) (a3 : List UInt8) (a40 : Int) (a41 : Int) (a42 : List CVal) (a5 : List CVal) (a6 : List CVal) (R : Ret) (h : nf_s_Binders CC LL a0 a1 a2 a3 a40 a41 a42 a5 a6 = some R) : CC f_s_Binders [AVal.v
 (CVal.agg
 [CVal.int IntKind.i64 a0, CVal.int IntKind.i64 a1, CVal.str a2, CVal.str a3, CVal.int IntKind.i64 a40,
 CVal.int IntKind.i64 a41, CVal.sl a42, CVal.sl a5, CVal.sl a6])] [] = some R := fnW (by decide) rfl ((eq_s_Binders CC LL a0 a1 a2 a3 a40 a41 a42 a5 a6).trans h)
noncomputable def nf_i_TermOk (C : CallT) (L : LoopT) (a0 : Int) (a1 : Int) (a2 : List UInt8) (a3 : List UInt8) (a40 : Int) (a41 : Int) (a42 : List CVal) (a5 : List CVal) (a6 : List CVal) : Option Ret :=
 (C f_i_termSize
 [AVal.v
 (CVal.agg
 [CVal.int IntKind.i64 a0, CVal.int IntKind.i64 a1, CVal.str a2, CVal.str a3, CVal.int IntKind.i64 a40,
 CVal.int IntKind.i64 a41, CVal.sl a42, CVal.sl a5, CVal.sl a6])]
 []).bind
 fun r =>
 r.1.asTup.bind fun y =>
 y[(0 : Nat)]?.bind fun y =>
 r.1.asTup.bind fun y_1 =>
 y_1[(1 : Nat)]?.bind fun y_2 =>
 r.1.asTup.bind fun y_3 =>
 y_3[(2 : Nat)]?.bind fun y_4 =>
 (y_4.asBool.bind fun b =>
 br b
 ((CVal.asInt IntKind.i64 y).bind fun n =>
 br (decide (n ≤ (24 : Int)))
 ((CVal.asInt IntKind.i64 y_2).bind fun n => some (decide (n ≤ (150 : Int)), PUnit.unit))
 (some (false, PUnit.unit)))
 (some (false, PUnit.unit))).bind
 fun y => some (CVal.bool y.1, [])
theorem eq_i_TermOk (C : CallT) (L : LoopT) (a0 : Int) (a1 : Int) (a2 : List UInt8) (a3 : List UInt8) (a40 : Int) (a41 : Int) (a42 : List CVal) (a5 : List CVal) (a6 : List CVal) : evF E N C L f_i_TermOk [AVal.v
 (CVal.agg
 [CVal.int IntKind.i64 a0, CVal.int IntKind.i64 a1, CVal.str a2, CVal.str a3, CVal.int IntKind.i64 a40,
 CVal.int IntKind.i64 a41, CVal.sl a42, CVal.sl a5, CVal.sl a6])] [] = nf_i_TermOk C L a0 a1 a2 a3 a40 a41 a42 a5 a6 := by kernel_rfl
theorem go_i_TermOk (a0 : Int) (a1 : Int) (a2 : List UInt8) (a3 : List UInt8) (a40 : Int) (a41 : Int) (a42 : List CVal) (a5 : List CVal) (a6 : List CVal) (R : Ret) (h : nf_i_TermOk CC LL a0 a1 a2 a3 a40 a41 a42 a5 a6 = some R) : CC f_i_TermOk [AVal.v
 (CVal.agg
 [CVal.int IntKind.i64 a0, CVal.int IntKind.i64 a1, CVal.str a2, CVal.str a3, CVal.int IntKind.i64 a40,
 CVal.int IntKind.i64 a41, CVal.sl a42, CVal.sl a5, CVal.sl a6])] [] = some R := fnW (by decide) rfl ((eq_i_TermOk CC LL a0 a1 a2 a3 a40 a41 a42 a5 a6).trans h)
noncomputable def nf_s_l6Binders (C : CallT) (L : LoopT) (a0 : Int) (a1 : Int) (a2 : List UInt8) (a3 : List UInt8) (a40 : Int) (a41 : Int) (a42 : List CVal) (a5 : List CVal) (a6 : List CVal) (b : List CVal) : Option Ret :=
 (C f_s_l6Own
 [AVal.v
 (CVal.agg
 [CVal.int IntKind.i64 a0, CVal.int IntKind.i64 a1, CVal.str a2, CVal.str a3, CVal.int IntKind.i64 a40,
 CVal.int IntKind.i64 a41, CVal.sl a42, CVal.sl a5, CVal.sl a6])]
 []).bind
 fun r =>
 r.1.asSl.bind fun xs =>
 br (xs.all (CVal.fitsF false [CK.str]))
 (br (decide (b.length + xs.length ≤ (4294967296 : Nat)) && true && true)
 ((L f_s_l6Binders (0 : Nat) lc_s_l6Binders_0 [PSh.arr (Md.mk true false (0 : Nat)) false (1 : Nat)]
 k_s_l6Binders_0
 ((PUnit.unit, PUnit.unit, (0 : Int), PUnit.unit), b ++ xs,
 (a0, a1, a2, a3, a40, a41, a42, a5, a6, PUnit.unit), PUnit.unit)).bind
 fun r => loK r (fun r => some r) fun j p => br (j == (0 : Nat)) (some (CVal.nilp, [p.snd.1])) none)
 none)
 none
theorem eq_s_l6Binders (C : CallT) (L : LoopT) (a0 : Int) (a1 : Int) (a2 : List UInt8) (a3 : List UInt8) (a40 : Int) (a41 : Int) (a42 : List CVal) (a5 : List CVal) (a6 : List CVal) (b : List CVal) : evF E N C L f_s_l6Binders [AVal.v
 (CVal.agg
 [CVal.int IntKind.i64 a0, CVal.int IntKind.i64 a1, CVal.str a2, CVal.str a3, CVal.int IntKind.i64 a40,
 CVal.int IntKind.i64 a41, CVal.sl a42, CVal.sl a5, CVal.sl a6]),
 AVal.lref (0 : Nat) (0 : Nat)] [PB.arr (Md.mk true false (0 : Nat)) false (1 : Nat) b] = nf_s_l6Binders C L a0 a1 a2 a3 a40 a41 a42 a5 a6 b := by kernel_rfl
theorem go_s_l6Binders (a0 : Int) (a1 : Int) (a2 : List UInt8) (a3 : List UInt8) (a40 : Int) (a41 : Int) (a42 : List CVal) (a5 : List CVal) (a6 : List CVal) (b : List CVal) (R : Ret) (h : nf_s_l6Binders CC LL a0 a1 a2 a3 a40 a41 a42 a5 a6 b = some R) : CC f_s_l6Binders [AVal.v
 (CVal.agg
 [CVal.int IntKind.i64 a0, CVal.int IntKind.i64 a1, CVal.str a2, CVal.str a3, CVal.int IntKind.i64 a40,
 CVal.int IntKind.i64 a41, CVal.sl a42, CVal.sl a5, CVal.sl a6]),
 AVal.lref (0 : Nat) (0 : Nat)] [PB.arr (Md.mk true false (0 : Nat)) false (1 : Nat) b] = some R := fnW (by decide) rfl ((eq_s_l6Binders CC LL a0 a1 a2 a3 a40 a41 a42 a5 a6 b).trans h)
noncomputable def nf_s_l6Own (C : CallT) (L : LoopT) (a0 : Int) (a1 : Int) (a2 : List UInt8) (a3 : List UInt8) (a40 : Int) (a41 : Int) (a42 : List CVal) (a5 : List CVal) (a6 : List CVal) : Option Ret :=
 br (decide (a0 = (4 : Int))) (some (CVal.sl [CVal.str a2], []))
 (br (decide (a0 = (6 : Int))) (some (CVal.sl [CVal.str a2], []))
 (br (decide (a0 = (7 : Int))) (some (CVal.sl [CVal.str a2], []))
 (br (decide (a0 = (17 : Int))) (some (CVal.sl [CVal.str a2], []))
 (br (decide (a0 = (14 : Int))) (some (CVal.sl [CVal.str a2, CVal.str a3], [])) (some (CVal.sl [], []))))))
theorem eq_s_l6Own (C : CallT) (L : LoopT) (a0 : Int) (a1 : Int) (a2 : List UInt8) (a3 : List UInt8) (a40 : Int) (a41 : Int) (a42 : List CVal) (a5 : List CVal) (a6 : List CVal) : evF E N C L f_s_l6Own [AVal.v
 (CVal.agg
 [CVal.int IntKind.i64 a0, CVal.int IntKind.i64 a1, CVal.str a2, CVal.str a3, CVal.int IntKind.i64 a40,
 CVal.int IntKind.i64 a41, CVal.sl a42, CVal.sl a5, CVal.sl a6])] [] = nf_s_l6Own C L a0 a1 a2 a3 a40 a41 a42 a5 a6 := by kernel_rfl
theorem go_s_l6Own (a0 : Int) (a1 : Int) (a2 : List UInt8) (a3 : List UInt8) (a40 : Int) (a41 : Int) (a42 : List CVal) (a5 : List CVal) (a6 : List CVal) (R : Ret) (h : nf_s_l6Own CC LL a0 a1 a2 a3 a40 a41 a42 a5 a6 = some R) : CC f_s_l6Own [AVal.v
 (CVal.agg
 [CVal.int IntKind.i64 a0, CVal.int IntKind.i64 a1, CVal.str a2, CVal.str a3, CVal.int IntKind.i64 a40,
 CVal.int IntKind.i64 a41, CVal.sl a42, CVal.sl a5, CVal.sl a6])] [] = some R := fnW (by decide) rfl ((eq_s_l6Own CC LL a0 a1 a2 a3 a40 a41 a42 a5 a6).trans h)
noncomputable def nf_s_l2Of (C : CallT) (L : LoopT) (a : Int) : Option Ret :=
 br (decide (a = (1 : Int)))
 (some
 (CVal.agg
 [CVal.int IntKind.i64 (0 : Int), CVal.int IntKind.i64 (1 : Int), CVal.bool false, CVal.bool false,
 CVal.bool false],
 []))
 (br (decide (a = (2 : Int)))
 (some
 (CVal.agg
 [CVal.int IntKind.i64 (0 : Int), CVal.int IntKind.i64 (1 : Int), CVal.bool false, CVal.bool false,
 CVal.bool false],
 []))
 (br (decide (a = (3 : Int)))
 (some
 (CVal.agg
 [CVal.int IntKind.i64 (0 : Int), CVal.int IntKind.i64 (0 : Int), CVal.bool true, CVal.bool false,
 CVal.bool false],
 []))
 (br (decide (a = (4 : Int)))
 (some
 (CVal.agg
 [CVal.int IntKind.i64 (1 : Int), CVal.int IntKind.i64 (0 : Int), CVal.bool true, CVal.bool false,
 CVal.bool true],
 []))
 (br (decide (a = (5 : Int)))
 (some
 (CVal.agg
 [CVal.int IntKind.i64 (2 : Int), CVal.int IntKind.i64 (0 : Int), CVal.bool false, CVal.bool false,
 CVal.bool false],
 []))
 (br (decide (a = (9 : Int)))
 (some
 (CVal.agg
 [CVal.int IntKind.i64 (2 : Int), CVal.int IntKind.i64 (0 : Int), CVal.bool false, CVal.bool false,
 CVal.bool false],
 []))
 (br (decide (a = (13 : Int)))
 (some
 (CVal.agg
 [CVal.int IntKind.i64 (2 : Int), CVal.int IntKind.i64 (0 : Int), CVal.bool false, CVal.bool false,
 CVal.bool false],
 []))
 (br (decide (a = (6 : Int)))
 (some
 (CVal.agg
 [CVal.int IntKind.i64 (2 : Int), CVal.int IntKind.i64 (1 : Int), CVal.bool true, CVal.bool false,
 CVal.bool false],
 []))
 (br (decide (a = (7 : Int)))
 (some
 (CVal.agg
 [CVal.int IntKind.i64 (2 : Int), CVal.int IntKind.i64 (1 : Int), CVal.bool true,
 CVal.bool false, CVal.bool true],
 []))
 (br (decide (a = (8 : Int)))
 (some
 (CVal.agg
 [CVal.int IntKind.i64 (3 : Int), CVal.int IntKind.i64 (0 : Int), CVal.bool false,
 CVal.bool false, CVal.bool false],
 []))
 (br (decide (a = (10 : Int)))
 (some
 (CVal.agg
 [CVal.int IntKind.i64 (1 : Int), CVal.int IntKind.i64 (0 : Int), CVal.bool false,
 CVal.bool false, CVal.bool false],
 []))
 (br (decide (a = (11 : Int)))
 (some
 (CVal.agg
 [CVal.int IntKind.i64 (1 : Int), CVal.int IntKind.i64 (0 : Int), CVal.bool false,
 CVal.bool false, CVal.bool false],
 []))
 (br (decide (a = (12 : Int)))
 (some
 (CVal.agg
 [CVal.int IntKind.i64 (0 : Int), CVal.int IntKind.i64 (0 : Int), CVal.bool false,
 CVal.bool false, CVal.bool true],
 []))
 (br (decide (a = (14 : Int)))
 (some
 (CVal.agg
 [CVal.int IntKind.i64 (3 : Int), CVal.int IntKind.i64 (0 : Int), CVal.bool true,
 CVal.bool true, CVal.bool false],
 []))
 (br (decide (a = (15 : Int)))
 (some
 (CVal.agg
 [CVal.int IntKind.i64 (2 : Int), CVal.int IntKind.i64 (1 : Int), CVal.bool false,
 CVal.bool false, CVal.bool false],
 []))
 (br (decide (a = (16 : Int)))
 (some
 (CVal.agg
 [CVal.int IntKind.i64 (1 : Int), CVal.int IntKind.i64 (0 : Int), CVal.bool false,
 CVal.bool false, CVal.bool true],
 []))
 (br (decide (a = (17 : Int)))
 (some
 (CVal.agg
 [CVal.int IntKind.i64 (2 : Int), CVal.int IntKind.i64 (0 : Int), CVal.bool true,
 CVal.bool false, CVal.bool false],
 []))
 (some
 (CVal.agg
 [CVal.int IntKind.i64 (-1 : Int), CVal.int IntKind.i64 (0 : Int),
 CVal.bool false, CVal.bool false, CVal.bool false],
 []))))))))))))))))))
theorem eq_s_l2Of (C : CallT) (L : LoopT) (a : Int) : evF E N C L f_s_l2Of [AVal.v (CVal.int IntKind.i64 a)] [] = nf_s_l2Of C L a := by kernel_rfl
theorem go_s_l2Of (a : Int) (R : Ret) (h : nf_s_l2Of CC LL a = some R) : CC f_s_l2Of [AVal.v (CVal.int IntKind.i64 a)] [] = some R := fnW (by decide) rfl ((eq_s_l2Of CC LL a).trans h)
noncomputable def nf_s_SameTy (C : CallT) (L : LoopT) (a0 : Int) (a1 : Int) (a2 : List CVal) (b0 : Int) (b1 : Int) (b2 : List CVal) : Option Ret :=
 (br (!decide (a0 = b0)) (some (true, PUnit.unit))
 (br (!decide (a1 = b1)) (some (true, PUnit.unit))
 (some (!decide ((↑a2.length : Int) = (↑b2.length : Int)), PUnit.unit)))).bind
 fun y =>
 br y.1 (some (CVal.bool false, []))
 ((L f_s_SameTy (0 : Nat) lc_s_SameTy_0 [] k_s_SameTy_0
 ((PUnit.unit, PUnit.unit, (0 : Int), PUnit.unit), (a0, a1, a2, PUnit.unit), (b0, b1, b2, PUnit.unit),
 PUnit.unit)).bind
 fun r => loK r (fun r => some r) fun j p => br (j == (0 : Nat)) (some (CVal.bool true, [])) none)
theorem eq_s_SameTy (C : CallT) (L : LoopT) (a0 : Int) (a1 : Int) (a2 : List CVal) (b0 : Int) (b1 : Int) (b2 : List CVal) : evF E N C L f_s_SameTy [AVal.v (CVal.agg [CVal.int IntKind.i64 a0, CVal.int IntKind.i64 a1, CVal.sl a2]),
 AVal.v (CVal.agg [CVal.int IntKind.i64 b0, CVal.int IntKind.i64 b1, CVal.sl b2])] [] = nf_s_SameTy C L a0 a1 a2 b0 b1 b2 := by kernel_rfl
theorem go_s_SameTy (a0 : Int) (a1 : Int) (a2 : List CVal) (b0 : Int) (b1 : Int) (b2 : List CVal) (R : Ret) (h : nf_s_SameTy CC LL a0 a1 a2 b0 b1 b2 = some R) : CC f_s_SameTy [AVal.v (CVal.agg [CVal.int IntKind.i64 a0, CVal.int IntKind.i64 a1, CVal.sl a2]),
 AVal.v (CVal.agg [CVal.int IntKind.i64 b0, CVal.int IntKind.i64 b1, CVal.sl b2])] [] = some R := fnW (by decide) rfl ((eq_s_SameTy CC LL a0 a1 a2 b0 b1 b2).trans h)
noncomputable def nf_i_hasT (C : CallT) (L : LoopT) (a : Int) : Option Ret :=
 (br (decide (a = (4 : Int))) (some (true, PUnit.unit))
 (br (decide (a = (7 : Int))) (some (true, PUnit.unit))
 (br (decide (a = (12 : Int))) (some (true, PUnit.unit)) (some (decide (a = (16 : Int)), PUnit.unit))))).bind
 fun y => some (CVal.bool y.1, [])
theorem eq_i_hasT (C : CallT) (L : LoopT) (a : Int) : evF E N C L f_i_hasT [AVal.v (CVal.int IntKind.i64 a)] [] = nf_i_hasT C L a := by kernel_rfl
theorem go_i_hasT (a : Int) (R : Ret) (h : nf_i_hasT CC LL a = some R) : CC f_i_hasT [AVal.v (CVal.int IntKind.i64 a)] [] = some R := fnW (by decide) rfl ((eq_i_hasT CC LL a).trans h)
noncomputable def nf_i_headOk_1 (C : CallT) (L : LoopT) (a0 : Int) (a1 : Int) (a2 : List CVal) : Option Ret :=
 (C f_i_TyOk [AVal.v (CVal.agg [CVal.int IntKind.i64 a0, CVal.int IntKind.i64 a1, CVal.sl a2])] []).bind fun r =>
 r.1.asBool.bind fun b => some (CVal.bool !b, [])
theorem eq_i_headOk_1 (C : CallT) (L : LoopT) (a0 : Int) (a1 : Int) (a2 : List CVal) : evF E N C L f_i_headOk_1 [AVal.v (CVal.agg [CVal.int IntKind.i64 a0, CVal.int IntKind.i64 a1, CVal.sl a2])] [] = nf_i_headOk_1 C L a0 a1 a2 := by kernel_rfl
theorem go_i_headOk_1 (a0 : Int) (a1 : Int) (a2 : List CVal) (R : Ret) (h : nf_i_headOk_1 CC LL a0 a1 a2 = some R) : CC f_i_headOk_1 [AVal.v (CVal.agg [CVal.int IntKind.i64 a0, CVal.int IntKind.i64 a1, CVal.sl a2])] [] = some R := fnW (by decide) rfl ((eq_i_headOk_1 CC LL a0 a1 a2).trans h)
noncomputable def nf_i_isName (C : CallT) (L : LoopT) (a : List UInt8) : Option Ret :=
 (L f_i_isName (0 : Nat) lc_i_isName_0 [] k_i_isName_0 ((a, (↑a.length : Int), (0 : Int), PUnit.unit), PUnit.unit)).bind
 fun r =>
 loK r (fun r => some r) fun j p =>
 br (j == (0 : Nat))
 ((C f_i_in
 [AVal.v (CVal.int IntKind.i64 (↑(List.length p.fst.1) : Int)), AVal.v (CVal.int IntKind.i64 (1 : Int)),
 AVal.v (CVal.int IntKind.i64 (8 : Int))]
 []).bind
 fun r => some (r.1, []))
 none
theorem eq_i_isName (C : CallT) (L : LoopT) (a : List UInt8) : evF E N C L f_i_isName [AVal.v (CVal.str a)] [] = nf_i_isName C L a := by kernel_rfl
theorem go_i_isName (a : List UInt8) (R : Ret) (h : nf_i_isName CC LL a = some R) : CC f_i_isName [AVal.v (CVal.str a)] [] = some R := fnW (by decide) rfl ((eq_i_isName CC LL a).trans h)
noncomputable def nf_s_l1Args (C : CallT) (L : LoopT) (a : Int) : Option Ret :=
 br (decide (a = (1 : Int))) (some (CVal.int IntKind.i64 (0 : Int), []))
 (br (decide (a = (2 : Int))) (some (CVal.int IntKind.i64 (0 : Int), []))
 (br (decide (a = (3 : Int))) (some (CVal.int IntKind.i64 (0 : Int), []))
 (br (decide (a = (6 : Int))) (some (CVal.int IntKind.i64 (1 : Int), []))
 (br (decide (a = (4 : Int))) (some (CVal.int IntKind.i64 (2 : Int), []))
 (br (decide (a = (5 : Int))) (some (CVal.int IntKind.i64 (2 : Int), []))
 (some (CVal.int IntKind.i64 (-1 : Int), [])))))))
theorem eq_s_l1Args (C : CallT) (L : LoopT) (a : Int) : evF E N C L f_s_l1Args [AVal.v (CVal.int IntKind.i64 a)] [] = nf_s_l1Args C L a := by kernel_rfl
theorem go_s_l1Args (a : Int) (R : Ret) (h : nf_s_l1Args CC LL a = some R) : CC f_s_l1Args [AVal.v (CVal.int IntKind.i64 a)] [] = some R := fnW (by decide) rfl ((eq_s_l1Args CC LL a).trans h)
noncomputable def nl_l_szTermS_0 (C : CallT) (L : LoopT) (x00 : List CVal) (x01 : Int) (x02 : Int) : Option (LO k_l_szTermS_0.T) :=
 br (decide (x02 < (↑x00.length : Int)))
 (br (decide ((0 : Int) ≤ x02) && true)
 (x00[x02.toNat]?.bind fun y =>
 br (CVal.fits true (9 : Nat) y)
 ((y.sub (0 : Nat) (9 : Nat)).bind fun y =>
 (C f_l_szTerm [AVal.v y, AVal.v (CVal.int IntKind.i64 x01)] []).bind fun r =>
 (CVal.asInt IntKind.i64 r.1).bind fun n =>
 br (decide (n < (0 : Int))) (some (LO.ret (CVal.int IntKind.i64 (-1 : Int), [])))
 ((CVal.asInt IntKind.i64 r.1).bind fun n =>
 L f_l_szTermS (0 : Nat) lc_l_szTermS_0 [] k_l_szTermS_0
 ((x00, n, IntKind.i64.wrap (x02 + (1 : Int)), PUnit.unit), PUnit.unit)))
 none)
 none)
 (some (LO.out (0 : Nat) ((x00, x01, x02, PUnit.unit), PUnit.unit)))
theorem el_l_szTermS_0 (C : CallT) (L : LoopT) (x00 : List CVal) (x01 : Int) (x02 : Int) : evL E N C L f_l_szTermS 0 lc_l_szTermS_0 [] k_l_szTermS_0 ((x00, x01, x02, ()), ()) = nl_l_szTermS_0 C L x00 x01 x02 := by kernel_rfl
theorem gl_l_szTermS_0 (x00 : List CVal) (x01 : Int) (x02 : Int) (R : LO k_l_szTermS_0.T) (h : nl_l_szTermS_0 CC LL x00 x01 x02 = some R) : LL f_l_szTermS 0 lc_l_szTermS_0 [] k_l_szTermS_0 ((x00, x01, x02, ()), ()) = some R := loopW ((el_l_szTermS_0 CC LL x00 x01 x02).trans h)
noncomputable def nl_l_eqTyS_0 (C : CallT) (L : LoopT) (x00 : List CVal) (x01 : List CVal) (x02 : Int) : Option (LO k_l_eqTyS_0.T) :=
 br (decide (x02 < (↑x00.length : Int)))
 (br (decide ((0 : Int) ≤ x02) && true)
 (x00[x02.toNat]?.bind fun y =>
 br (CVal.fits true (3 : Nat) y)
 ((y.sub (0 : Nat) (3 : Nat)).bind fun y =>
 br (decide ((0 : Int) ≤ x02) && true)
 (x01[x02.toNat]?.bind fun y_1 =>
 br (CVal.fits true (3 : Nat) y_1)
 ((y_1.sub (0 : Nat) (3 : Nat)).bind fun y_2 =>
 (C f_l_eqTy [AVal.v y, AVal.v y_2] []).bind fun r =>
 r.1.asBool.bind fun b =>
 br (!b) (some (LO.ret (CVal.bool false, [])))
 (L f_l_eqTyS (0 : Nat) lc_l_eqTyS_0 [] k_l_eqTyS_0
 ((x00, x01, IntKind.i64.wrap (x02 + (1 : Int)), PUnit.unit), PUnit.unit)))
 none)
 none)
 none)
 none)
 (some (LO.out (0 : Nat) ((x00, x01, x02, PUnit.unit), PUnit.unit)))
theorem el_l_eqTyS_0 (C : CallT) (L : LoopT) (x00 : List CVal) (x01 : List CVal) (x02 : Int) : evL E N C L f_l_eqTyS 0 lc_l_eqTyS_0 [] k_l_eqTyS_0 ((x00, x01, x02, ()), ()) = nl_l_eqTyS_0 C L x00 x01 x02 := by kernel_rfl
theorem gl_l_eqTyS_0 (x00 : List CVal) (x01 : List CVal) (x02 : Int) (R : LO k_l_eqTyS_0.T) (h : nl_l_eqTyS_0 CC LL x00 x01 x02 = some R) : LL f_l_eqTyS 0 lc_l_eqTyS_0 [] k_l_eqTyS_0 ((x00, x01, x02, ()), ()) = some R := loopW ((el_l_eqTyS_0 CC LL x00 x01 x02).trans h)
noncomputable def nl_i_bindersIn_0 (C : CallT) (L : LoopT) (x01 : List CVal) (x02 : Int) (x03 : Int) (x1 : List CVal) : Option (LO k_i_bindersIn_0.T) :=
 br (decide (x03 < x02))
 (br (decide ((0 : Int) ≤ x03) && true)
 (x01[x03.toNat]?.bind fun y =>
 br (CVal.fits true (9 : Nat) y)
 ((y.sub (0 : Nat) (9 : Nat)).bind fun y =>
 br (CVal.isAggN (9 : Nat) y)
 ((y.cell (0 : Nat)).bind fun c =>
 (y.cell (1 : Nat)).bind fun c_1 =>
 (y.cell (2 : Nat)).bind fun c_2 =>
 (y.cell (3 : Nat)).bind fun c_3 =>
 (y.cell (4 : Nat)).bind fun c_4 =>
 (y.cell (5 : Nat)).bind fun c_5 =>
 (y.cell (6 : Nat)).bind fun c_6 =>
 (y.cell (7 : Nat)).bind fun c_7 =>
 (y.cell (8 : Nat)).bind fun c_8 =>
 (C f_i_bindersIn
 [AVal.v (CVal.agg [c, c_1, c_2, c_3, c_4, c_5, c_6, c_7, c_8]),
 AVal.lref (0 : Nat) (0 : Nat)]
 [PB.arr (Md.mk true false (0 : Nat)) false (1 : Nat) x1]).bind
 fun r =>
 r.2[(0 : Nat)]?.bind fun y =>
 L f_i_bindersIn (0 : Nat) lc_i_bindersIn_0
 [PSh.arr (Md.mk true false (0 : Nat)) false (1 : Nat)] k_i_bindersIn_0
 ((PUnit.unit, x01, x02, IntKind.i64.wrap (x03 + (1 : Int)), PUnit.unit), y,
 PUnit.unit))
 none)
 none)
 none)
 (some (LO.out (0 : Nat) ((PUnit.unit, x01, x02, x03, PUnit.unit), x1, PUnit.unit)))
theorem el_i_bindersIn_0 (C : CallT) (L : LoopT) (x01 : List CVal) (x02 : Int) (x03 : Int) (x1 : List CVal) : evL E N C L f_i_bindersIn 0 lc_i_bindersIn_0 [PSh.arr (Md.mk true false (0 : Nat)) false (1 : Nat)] k_i_bindersIn_0 (((), x01, x02, x03, ()), x1, ()) = nl_i_bindersIn_0 C L x01 x02 x03 x1 := by kernel_rfl
theorem gl_i_bindersIn_0 (x01 : List CVal) (x02 : Int) (x03 : Int) (x1 : List CVal) (R : LO k_i_bindersIn_0.T) (h : nl_i_bindersIn_0 CC LL x01 x02 x03 x1 = some R) : LL f_i_bindersIn 0 lc_i_bindersIn_0 [PSh.arr (Md.mk true false (0 : Nat)) false (1 : Nat)] k_i_bindersIn_0 (((), x01, x02, x03, ()), x1, ()) = some R := loopW ((el_i_bindersIn_0 CC LL x01 x02 x03 x1).trans h)
noncomputable def nl_s_SameTy_0 (C : CallT) (L : LoopT) (x02 : Int) (x10 : Int) (x11 : Int) (x12 : List CVal) (x20 : Int) (x21 : Int) (x22 : List CVal) : Option (LO k_s_SameTy_0.T) :=
 br (decide (x02 < (↑x12.length : Int)))
 (br (decide ((0 : Int) ≤ x02) && true)
 (x12[x02.toNat]?.bind fun y =>
 br (CVal.fits true (3 : Nat) y)
 ((y.sub (0 : Nat) (3 : Nat)).bind fun y =>
 br (decide ((0 : Int) ≤ x02) && true)
 (x22[x02.toNat]?.bind fun y_1 =>
 br (CVal.fits true (3 : Nat) y_1)
 ((y_1.sub (0 : Nat) (3 : Nat)).bind fun y_2 =>
 (C f_s_SameTy [AVal.v y, AVal.v y_2] []).bind fun r =>
 r.1.asBool.bind fun b =>
 br (!b) (some (LO.ret (CVal.bool false, [])))
 (L f_s_SameTy (0 : Nat) lc_s_SameTy_0 [] k_s_SameTy_0
 ((PUnit.unit, PUnit.unit, IntKind.i64.wrap (x02 + (1 : Int)), PUnit.unit),
 (x10, x11, x12, PUnit.unit), (x20, x21, x22, PUnit.unit), PUnit.unit)))
 none)
 none)
 none)
 none)
 (some
 (LO.out (0 : Nat)
 ((PUnit.unit, PUnit.unit, x02, PUnit.unit), (x10, x11, x12, PUnit.unit), (x20, x21, x22, PUnit.unit),
 PUnit.unit)))
theorem el_s_SameTy_0 (C : CallT) (L : LoopT) (x02 : Int) (x10 : Int) (x11 : Int) (x12 : List CVal) (x20 : Int) (x21 : Int) (x22 : List CVal) : evL E N C L f_s_SameTy 0 lc_s_SameTy_0 [] k_s_SameTy_0 (((), (), x02, ()), (x10, x11, x12, ()), (x20, x21, x22, ()), ()) = nl_s_SameTy_0 C L x02 x10 x11 x12 x20 x21 x22 := by kernel_rfl
theorem gl_s_SameTy_0 (x02 : Int) (x10 : Int) (x11 : Int) (x12 : List CVal) (x20 : Int) (x21 : Int) (x22 : List CVal) (R : LO k_s_SameTy_0.T) (h : nl_s_SameTy_0 CC LL x02 x10 x11 x12 x20 x21 x22 = some R) : LL f_s_SameTy 0 lc_s_SameTy_0 [] k_s_SameTy_0 (((), (), x02, ()), (x10, x11, x12, ()), (x20, x21, x22, ()), ()) = some R := loopW ((el_s_SameTy_0 CC LL x02 x10 x11 x12 x20 x21 x22).trans h)
noncomputable def nl_slices_EqualFunc_Ty_0 (C : CallT) (L : LoopT) (x00 : List CVal) (x01 : CVal) (x02 : List CVal) (x03 : Int) (x04 : Int) : Option (LO k_slices_EqualFunc_Ty_0.T) :=
 br (decide (x04 < x03))
 (br (decide ((0 : Int) ≤ x04) && true)
 (x02[x04.toNat]?.bind fun y =>
 br (CVal.fits true (3 : Nat) y)
 ((y.sub (0 : Nat) (3 : Nat)).bind fun y =>
 br (CVal.isAggN (3 : Nat) y)
 ((y.cell (0 : Nat)).bind fun c =>
 (y.cell (1 : Nat)).bind fun c_1 =>
 (y.cell (2 : Nat)).bind fun c_2 =>
 br (decide ((0 : Int) ≤ x04) && true)
 (x00[x04.toNat]?.bind fun y =>
 br (CVal.fits true (3 : Nat) y)
 ((y.sub (0 : Nat) (3 : Nat)).bind fun y =>
 br (CVal.isAggN (3 : Nat) y)
 ((y.cell (0 : Nat)).bind fun c_3 =>
 (y.cell (1 : Nat)).bind fun c_4 =>
 (y.cell (2 : Nat)).bind fun c_5 =>
 (C apId
 [AVal.v x01, AVal.v (CVal.agg [c, c_1, c_2]), AVal.v (CVal.agg [c_3, c_4, c_5])]
 []).bind
 fun r =>
 r.1.asBool.bind fun b =>
 br (!b) (some (LO.ret (CVal.bool false, [])))
 (L f_slices_EqualFunc_Ty (0 : Nat) lc_slices_EqualFunc_Ty_0 []
 k_slices_EqualFunc_Ty_0
 ((x00, x01, x02, x03, IntKind.i64.wrap (x04 + (1 : Int)), PUnit.unit),
 PUnit.unit)))
 none)
 none)
 none)
 none)
 none)
 none)
 (some (LO.out (0 : Nat) ((x00, x01, x02, x03, x04, PUnit.unit), PUnit.unit)))
theorem el_slices_EqualFunc_Ty_0 (C : CallT) (L : LoopT) (x00 : List CVal) (x01 : CVal) (x02 : List CVal) (x03 : Int) (x04 : Int) : evL E N C L f_slices_EqualFunc_Ty 0 lc_slices_EqualFunc_Ty_0 [] k_slices_EqualFunc_Ty_0 ((x00, x01, x02, x03, x04, ()), ()) = nl_slices_EqualFunc_Ty_0 C L x00 x01 x02 x03 x04 := by kernel_rfl
theorem gl_slices_EqualFunc_Ty_0 (x00 : List CVal) (x01 : CVal) (x02 : List CVal) (x03 : Int) (x04 : Int) (R : LO k_slices_EqualFunc_Ty_0.T) (h : nl_slices_EqualFunc_Ty_0 CC LL x00 x01 x02 x03 x04 = some R) : LL f_slices_EqualFunc_Ty 0 lc_slices_EqualFunc_Ty_0 [] k_slices_EqualFunc_Ty_0 ((x00, x01, x02, x03, x04, ()), ()) = some R := loopW ((el_slices_EqualFunc_Ty_0 CC LL x00 x01 x02 x03 x04).trans h)
end Go.Proofs.Ytbimglfmmmlicaa.Abs
