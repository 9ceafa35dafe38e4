/- What the functions come to in the abstract machine. -/
import Derived.Test.YtbimglfmmmlicaaQ1Ann
import Derived.KernelRfl
set_option linter.unusedVariables false
set_option maxRecDepth 100000
namespace Go.Proofs.Ytbimglfmmmlicaa.Abs
open Go Go.Proofs
noncomputable def nf_l_FnExactAllUnlike (C : CallT) (L : LoopT) (a0 : Int) (a1 : Int) (a2 : List UInt8) (a3 : List UInt8) (a40 : Int) (a41 : Int) (a42 : List CVal) (a5 : List CVal) (a6 : List CVal) : Option Ret :=
 (C f_l_szTerm
 [AVal.v
 (CVal.agg
 [CVal.int IntKind.i64 a0, CVal.int IntKind.i64 a1, CVal.str a2, CVal.str a3, CVal.int IntKind.i64 a40,
 CVal.int IntKind.i64 a41, CVal.sl a42, CVal.sl a5, CVal.sl a6]),
 AVal.v (CVal.int IntKind.i64 (1048576 : Int))]
 []).bind
 fun r =>
 (CVal.asInt IntKind.i64 r.1).bind fun n =>
 br (decide (n < (0 : Int))) (some (CVal.bool true, []))
 ((C f_l_toTerm
 [AVal.v
 (CVal.agg
 [CVal.int IntKind.i64 a0, CVal.int IntKind.i64 a1, CVal.str a2, CVal.str a3, CVal.int IntKind.i64 a40,
 CVal.int IntKind.i64 a41, CVal.sl a42, CVal.sl a5, CVal.sl a6])]
 []).bind
 fun r =>
 (C f_s_AllUnlike [AVal.v r.1] []).bind fun r =>
 (C f_l_toTerm
 [AVal.v
 (CVal.agg
 [CVal.int IntKind.i64 a0, CVal.int IntKind.i64 a1, CVal.str a2, CVal.str a3,
 CVal.int IntKind.i64 a40, CVal.int IntKind.i64 a41, CVal.sl a42, CVal.sl a5, CVal.sl a6])]
 []).bind
 fun r_1 =>
 br (CVal.isAggN (9 : Nat) r_1.1)
 ((r_1.1.cell (0 : Nat)).bind fun c =>
 (r_1.1.cell (1 : Nat)).bind fun c_1 =>
 (r_1.1.cell (2 : Nat)).bind fun c_2 =>
 (r_1.1.cell (3 : Nat)).bind fun c_3 =>
 (r_1.1.cell (4 : Nat)).bind fun c_4 =>
 (r_1.1.cell (5 : Nat)).bind fun c_5 =>
 (r_1.1.cell (6 : Nat)).bind fun c_6 =>
 (r_1.1.cell (7 : Nat)).bind fun c_7 =>
 (r_1.1.cell (8 : Nat)).bind fun c_8 =>
 c_6.asSl.bind fun xs =>
 c_7.asSl.bind fun xs_1 =>
 c_8.asSl.bind fun xs_2 =>
 (C f_i_AllUnlike
 [AVal.v
 (CVal.agg
 [c, c_1, c_2, c_3, c_4, c_5, CVal.sl xs, CVal.sl xs_1, CVal.sl xs_2])]
 []).bind
 fun r_2 =>
 br (!scalar r_2.1) none
 (r_2.1.asBool.bind fun b =>
 r.1.asBool.bind fun b_1 =>
 br (!b == b_1) (some (CVal.bool false, []))
 ((C f_l_toTerm
 [AVal.v
 (CVal.agg
 [CVal.int IntKind.i64 a0, CVal.int IntKind.i64 a1,
 CVal.str a2, CVal.str a3, CVal.int IntKind.i64 a40,
 CVal.int IntKind.i64 a41, CVal.sl a42, CVal.sl a5,
 CVal.sl a6])]
 []).bind
 fun r =>
 (C f_l_eqTerm
 [AVal.v
 (CVal.agg
 [c, c_1, c_2, c_3, c_4, c_5, CVal.sl xs, CVal.sl xs_1,
 CVal.sl xs_2]),
 AVal.v r.1]
 []).bind
 fun r =>
 br (!scalar r.1) none
 (r.1.asBool.bind fun b =>
 br (!b) (some (CVal.bool false, []))
 (some (CVal.bool true, []))))))
 none)
theorem eq_l_FnExactAllUnlike (C : CallT) (L : LoopT) (a0 : Int) (a1 : Int) (a2 : List UInt8) (a3 : List UInt8) (a40 : Int) (a41 : Int) (a42 : List CVal) (a5 : List CVal) (a6 : List CVal) : evF E N C L f_l_FnExactAllUnlike [AVal.v
 (CVal.agg
 [CVal.int IntKind.i64 a0, CVal.int IntKind.i64 a1, CVal.str a2, CVal.str a3, CVal.int IntKind.i64 a40,
 CVal.int IntKind.i64 a41, CVal.sl a42, CVal.sl a5, CVal.sl a6])] [] = nf_l_FnExactAllUnlike C L a0 a1 a2 a3 a40 a41 a42 a5 a6 := by kernel_rfl
theorem go_l_FnExactAllUnlike (a0 : Int) (a1 : Int) (a2 : List UInt8) (a3 : List UInt8) (a40 : Int) (a41 : Int) (a42 : List CVal) (a5 : List CVal) (a6 : List CVal) (R : Ret) (h : nf_l_FnExactAllUnlike CC LL a0 a1 a2 a3 a40 a41 a42 a5 a6 = some R) : CC f_l_FnExactAllUnlike [AVal.v
 (CVal.agg
 [CVal.int IntKind.i64 a0, CVal.int IntKind.i64 a1, CVal.str a2, CVal.str a3, CVal.int IntKind.i64 a40,
 CVal.int IntKind.i64 a41, CVal.sl a42, CVal.sl a5, CVal.sl a6])] [] = some R := fnW (by decide) rfl ((eq_l_FnExactAllUnlike CC LL a0 a1 a2 a3 a40 a41 a42 a5 a6).trans h)
noncomputable def nf_i_Plain (C : CallT) (L : LoopT) (a0 : Int) (a1 : Int) (a2 : List UInt8) (a3 : List UInt8) (a40 : Int) (a41 : Int) (a42 : List CVal) (a5 : List CVal) (a6 : List CVal) : Option Ret :=
 ((C f_i_TermOk
 [AVal.v
 (CVal.agg
 [CVal.int IntKind.i64 a0, CVal.int IntKind.i64 a1, CVal.str a2, CVal.str a3, CVal.int IntKind.i64 a40,
 CVal.int IntKind.i64 a41, CVal.sl a42, CVal.sl a5, CVal.sl a6])]
 []).bind
 fun r =>
 r.1.asBool.bind fun b =>
 br b
 ((C f_i_anyTerm
 [AVal.v
 (CVal.agg
 [CVal.int IntKind.i64 a0, CVal.int IntKind.i64 a1, CVal.str a2, CVal.str a3,
 CVal.int IntKind.i64 a40, CVal.int IntKind.i64 a41, CVal.sl a42, CVal.sl a5, CVal.sl a6]),
 AVal.v (CVal.func f_i_Plain_1 [])]
 []).bind
 fun r => r.1.asBool.bind fun b => some (!b, PUnit.unit))
 (some (false, PUnit.unit))).bind
 fun y => some (CVal.bool y.1, [])
theorem eq_i_Plain (C : CallT) (L : LoopT) (a0 : Int) (a1 : Int) (a2 : List UInt8) (a3 : List UInt8) (a40 : Int) (a41 : Int) (a42 : List CVal) (a5 : List CVal) (a6 : List CVal) : evF E N C L f_i_Plain [AVal.v
 (CVal.agg
 [CVal.int IntKind.i64 a0, CVal.int IntKind.i64 a1, CVal.str a2, CVal.str a3, CVal.int IntKind.i64 a40,
 CVal.int IntKind.i64 a41, CVal.sl a42, CVal.sl a5, CVal.sl a6])] [] = nf_i_Plain C L a0 a1 a2 a3 a40 a41 a42 a5 a6 := by kernel_rfl
theorem go_i_Plain (a0 : Int) (a1 : Int) (a2 : List UInt8) (a3 : List UInt8) (a40 : Int) (a41 : Int) (a42 : List CVal) (a5 : List CVal) (a6 : List CVal) (R : Ret) (h : nf_i_Plain CC LL a0 a1 a2 a3 a40 a41 a42 a5 a6 = some R) : CC f_i_Plain [AVal.v
 (CVal.agg
 [CVal.int IntKind.i64 a0, CVal.int IntKind.i64 a1, CVal.str a2, CVal.str a3, CVal.int IntKind.i64 a40,
 CVal.int IntKind.i64 a41, CVal.sl a42, CVal.sl a5, CVal.sl a6])] [] = some R := fnW (by decide) rfl ((eq_i_Plain CC LL a0 a1 a2 a3 a40 a41 a42 a5 a6).trans h)
noncomputable def nf_l_szTy (C : CallT) (L : LoopT) (a0 : Int) (a1 : Int) (a2 : List CVal) (b : Int) : Option Ret :=
 (C f_l_szTyS [AVal.v (CVal.sl a2), AVal.v (CVal.int IntKind.i64 b)] []).bind fun r =>
 (CVal.asInt IntKind.i64 r.1).bind fun n =>
 br (decide (n < (0 : Int))) (some (CVal.int IntKind.i64 (-1 : Int), [])) (some (r.1, []))
theorem eq_l_szTy (C : CallT) (L : LoopT) (a0 : Int) (a1 : Int) (a2 : List CVal) (b : Int) : evF E N C L f_l_szTy [AVal.v (CVal.agg [CVal.int IntKind.i64 a0, CVal.int IntKind.i64 a1, CVal.sl a2]), AVal.v (CVal.int IntKind.i64 b)] [] = nf_l_szTy C L a0 a1 a2 b := by kernel_rfl
theorem go_l_szTy (a0 : Int) (a1 : Int) (a2 : List CVal) (b : Int) (R : Ret) (h : nf_l_szTy CC LL a0 a1 a2 b = some R) : CC f_l_szTy [AVal.v (CVal.agg [CVal.int IntKind.i64 a0, CVal.int IntKind.i64 a1, CVal.sl a2]), AVal.v (CVal.int IntKind.i64 b)] [] = some R := fnW (by decide) rfl ((eq_l_szTy CC LL a0 a1 a2 b).trans h)
noncomputable def nf_l_toTyS (C : CallT) (L : LoopT) (a : List CVal) : Option Ret :=
 br (decide ((↑a.length : Int) = (↑a.length : Int)) && decide ((↑a.length : Int) ≤ (1048576 : Int)))
 ((L f_l_toTyS (0 : Nat) lc_l_toTyS_0 [] k_l_toTyS_0
 ((a, PUnit.unit, (0 : Int), PUnit.unit),
 List.replicate (↑a.length : Int).toNat
 (CVal.agg [CVal.int IntKind.i64 (0 : Int), CVal.int IntKind.i64 (0 : Int), CVal.sl []]),
 PUnit.unit)).bind
 fun r => loK r (fun r => some r) fun j p => br (j == (0 : Nat)) (some (CVal.sl p.snd.1, [])) none)
 none
theorem eq_l_toTyS (C : CallT) (L : LoopT) (a : List CVal) : evF E N C L f_l_toTyS [AVal.v (CVal.sl a)] [] = nf_l_toTyS C L a := by kernel_rfl
theorem go_l_toTyS (a : List CVal) (R : Ret) (h : nf_l_toTyS CC LL a = some R) : CC f_l_toTyS [AVal.v (CVal.sl a)] [] = some R := fnW (by decide) rfl ((eq_l_toTyS CC LL a).trans h)
noncomputable def nf_i_TermOk (C : CallT) (L : LoopT) (a0 : Int) (a1 : Int) (a2 : List UInt8) (a3 : List UInt8) (a40 : Int) (a41 : Int) (a42 : List CVal) (a5 : List CVal) (a6 : List CVal) : Option Ret :=
 (C f_i_termSize
 [AVal.v
 (CVal.agg
 [CVal.int IntKind.i64 a0, CVal.int IntKind.i64 a1, CVal.str a2, CVal.str a3, CVal.int IntKind.i64 a40,
 CVal.int IntKind.i64 a41, CVal.sl a42, CVal.sl a5, CVal.sl a6])]
 []).bind
 fun r =>
 r.1.asTup.bind fun y =>
 y[(0 : Nat)]?.bind fun y =>
 r.1.asTup.bind fun y_1 =>
 y_1[(1 : Nat)]?.bind fun y_2 =>
 r.1.asTup.bind fun y_3 =>
 y_3[(2 : Nat)]?.bind fun y_4 =>
 (y_4.asBool.bind fun b =>
 br b
 ((CVal.asInt IntKind.i64 y).bind fun n =>
 br (decide (n ≤ (24 : Int)))
 ((CVal.asInt IntKind.i64 y_2).bind fun n => some (decide (n ≤ (150 : Int)), PUnit.unit))
 (some (false, PUnit.unit)))
 (some (false, PUnit.unit))).bind
 fun y => some (CVal.bool y.1, [])
theorem eq_i_TermOk (C : CallT) (L : LoopT) (a0 : Int) (a1 : Int) (a2 : List UInt8) (a3 : List UInt8) (a40 : Int) (a41 : Int) (a42 : List CVal) (a5 : List CVal) (a6 : List CVal) : evF E N C L f_i_TermOk [AVal.v
 (CVal.agg
 [CVal.int IntKind.i64 a0, CVal.int IntKind.i64 a1, CVal.str a2, CVal.str a3, CVal.int IntKind.i64 a40,
 CVal.int IntKind.i64 a41, CVal.sl a42, CVal.sl a5, CVal.sl a6])] [] = nf_i_TermOk C L a0 a1 a2 a3 a40 a41 a42 a5 a6 := by kernel_rfl
theorem go_i_TermOk (a0 : Int) (a1 : Int) (a2 : List UInt8) (a3 : List UInt8) (a40 : Int) (a41 : Int) (a42 : List CVal) (a5 : List CVal) (a6 : List CVal) (R : Ret) (h : nf_i_TermOk CC LL a0 a1 a2 a3 a40 a41 a42 a5 a6 = some R) : CC f_i_TermOk [AVal.v
 (CVal.agg
 [CVal.int IntKind.i64 a0, CVal.int IntKind.i64 a1, CVal.str a2, CVal.str a3, CVal.int IntKind.i64 a40,
 CVal.int IntKind.i64 a41, CVal.sl a42, CVal.sl a5, CVal.sl a6])] [] = some R := fnW (by decide) rfl ((eq_i_TermOk CC LL a0 a1 a2 a3 a40 a41 a42 a5 a6).trans h)
noncomputable def nf_l_eqTyS (C : CallT) (L : LoopT) (a : List CVal) (b : List CVal) : Option Ret :=
 br (!decide ((↑a.length : Int) = (↑b.length : Int))) (some (CVal.bool false, []))
 ((L f_l_eqTyS (0 : Nat) lc_l_eqTyS_0 [] k_l_eqTyS_0 ((a, b, (0 : Int), PUnit.unit), PUnit.unit)).bind fun r =>
 loK r (fun r => some r) fun j p => br (j == (0 : Nat)) (some (CVal.bool true, [])) none)
theorem eq_l_eqTyS (C : CallT) (L : LoopT) (a : List CVal) (b : List CVal) : evF E N C L f_l_eqTyS [AVal.v (CVal.sl a), AVal.v (CVal.sl b)] [] = nf_l_eqTyS C L a b := by kernel_rfl
theorem go_l_eqTyS (a : List CVal) (b : List CVal) (R : Ret) (h : nf_l_eqTyS CC LL a b = some R) : CC f_l_eqTyS [AVal.v (CVal.sl a), AVal.v (CVal.sl b)] [] = some R := fnW (by decide) rfl ((eq_l_eqTyS CC LL a b).trans h)
noncomputable def nf_i_Binders (C : CallT) (L : LoopT) (a0 : Int) (a1 : Int) (a2 : List UInt8) (a3 : List UInt8) (a40 : Int) (a41 : Int) (a42 : List CVal) (a5 : List CVal) (a6 : List CVal) : Option Ret :=
 (C f_i_TermOk
 [AVal.v
 (CVal.agg
 [CVal.int IntKind.i64 a0, CVal.int IntKind.i64 a1, CVal.str a2, CVal.str a3, CVal.int IntKind.i64 a40,
 CVal.int IntKind.i64 a41, CVal.sl a42, CVal.sl a5, CVal.sl a6])]
 []).bind
 fun r =>
 r.1.asBool.bind fun b =>
 br (!b) (some (CVal.sl [], []))
 ((C f_i_bindersIn
 [AVal.v
 (CVal.agg
 [CVal.int IntKind.i64 a0, CVal.int IntKind.i64 a1, CVal.str a2, CVal.str a3, CVal.int IntKind.i64 a40,
 CVal.int IntKind.i64 a41, CVal.sl a42, CVal.sl a5, CVal.sl a6]),
 AVal.lref (0 : Nat) (0 : Nat)]
 [PB.arr (Md.mk true false (0 : Nat)) false (1 : Nat) []]).bind
 fun r => r.2[(0 : Nat)]?.bind fun y => some (CVal.sl y, []))
theorem eq_i_Binders (C : CallT) (L : LoopT) (a0 : Int) (a1 : Int) (a2 : List UInt8) (a3 : List UInt8) (a40 : Int) (a41 : Int) (a42 : List CVal) (a5 : List CVal) (a6 : List CVal) : evF E N C L f_i_Binders [AVal.v
 (CVal.agg
 [CVal.int IntKind.i64 a0, CVal.int IntKind.i64 a1, CVal.str a2, CVal.str a3, CVal.int IntKind.i64 a40,
 CVal.int IntKind.i64 a41, CVal.sl a42, CVal.sl a5, CVal.sl a6])] [] = nf_i_Binders C L a0 a1 a2 a3 a40 a41 a42 a5 a6 := by kernel_rfl
theorem go_i_Binders (a0 : Int) (a1 : Int) (a2 : List UInt8) (a3 : List UInt8) (a40 : Int) (a41 : Int) (a42 : List CVal) (a5 : List CVal) (a6 : List CVal) (R : Ret) (h : nf_i_Binders CC LL a0 a1 a2 a3 a40 a41 a42 a5 a6 = some R) : CC f_i_Binders [AVal.v
 (CVal.agg
 [CVal.int IntKind.i64 a0, CVal.int IntKind.i64 a1, CVal.str a2, CVal.str a3, CVal.int IntKind.i64 a40,
 CVal.int IntKind.i64 a41, CVal.sl a42, CVal.sl a5, CVal.sl a6])] [] = some R := fnW (by decide) rfl ((eq_i_Binders CC LL a0 a1 a2 a3 a40 a41 a42 a5 a6).trans h)
noncomputable def nf_slices_ContainsFunc_Term (C : CallT) (L : LoopT) (a : List CVal) (b : CVal) : Option Ret :=
 (C f_slices_IndexFunc_Term [AVal.v (CVal.sl a), AVal.v b] []).bind fun r =>
 (CVal.asInt IntKind.i64 r.1).bind fun n => some (CVal.bool (decide ((0 : Int) ≤ n)), [])
theorem eq_slices_ContainsFunc_Term (C : CallT) (L : LoopT) (a : List CVal) (b : CVal) : evF E N C L f_slices_ContainsFunc_Term [AVal.v (CVal.sl a), AVal.v b] [] = nf_slices_ContainsFunc_Term C L a b := by kernel_rfl
theorem go_slices_ContainsFunc_Term (a : List CVal) (b : CVal) (R : Ret) (h : nf_slices_ContainsFunc_Term CC LL a b = some R) : CC f_slices_ContainsFunc_Term [AVal.v (CVal.sl a), AVal.v b] [] = some R := fnW (by decide) rfl ((eq_slices_ContainsFunc_Term CC LL a b).trans h)
noncomputable def nf_s_l2One (C : CallT) (L : LoopT) (a0 : Int) (a1 : Int) (a2 : List UInt8) (a3 : List UInt8) (a40 : Int) (a41 : Int) (a42 : List CVal) (a5 : List CVal) (a6 : List CVal) : Option Ret :=
 (C f_s_l2Of [AVal.v (CVal.int IntKind.i64 a0)] []).bind fun r =>
 br (CVal.isAggN (5 : Nat) r.1)
 ((r.1.cell (0 : Nat)).bind fun c =>
 (r.1.cell (1 : Nat)).bind fun c_1 =>
 (r.1.cell (2 : Nat)).bind fun c_2 =>
 (r.1.cell (3 : Nat)).bind fun c_3 =>
 (r.1.cell (4 : Nat)).bind fun c_4 =>
 ((CVal.asInt IntKind.i64 c).bind fun n =>
 br (!decide ((↑a6.length : Int) = n)) (some (true, PUnit.unit))
 ((C f_s_l2Number
 [AVal.v
 (CVal.agg
 [CVal.int IntKind.i64 a0, CVal.int IntKind.i64 a1, CVal.str a2, CVal.str a3,
 CVal.int IntKind.i64 a40, CVal.int IntKind.i64 a41, CVal.sl a42, CVal.sl a5,
 CVal.sl a6])]
 []).bind
 fun r =>
 r.1.asBool.bind fun b =>
 br (!b) (some (true, PUnit.unit))
 ((C f_s_l2Name [AVal.v (CVal.str a2), AVal.v (CVal.bool false)] []).bind fun r =>
 c_2.asBool.bind fun b =>
 r.1.asBool.bind fun b_1 =>
 br (!b == b_1) (some (true, PUnit.unit))
 (c_2.asBool.bind fun b =>
 br (!b)
 (br (!decide (a2 = [])) (some (true, PUnit.unit))
 ((C f_s_l2Name [AVal.v (CVal.str a3), AVal.v (CVal.bool false)] []).bind
 fun r =>
 c_3.asBool.bind fun b =>
 r.1.asBool.bind fun b_2 =>
 br (!b == b_2) (some (true, PUnit.unit))
 (c_3.asBool.bind fun b =>
 br (!b)
 (br (!decide (a3 = [])) (some (true, PUnit.unit))
 (c_3.asBool.bind fun b =>
 br b (some (decide (a2 = a3), PUnit.unit))
 (some (false, PUnit.unit))))
 (c_3.asBool.bind fun b =>
 br b (some (decide (a2 = a3), PUnit.unit))
 (some (false, PUnit.unit))))))
 ((C f_s_l2Name [AVal.v (CVal.str a3), AVal.v (CVal.bool false)] []).bind
 fun r =>
 c_3.asBool.bind fun b =>
 r.1.asBool.bind fun b_2 =>
 br (!b == b_2) (some (true, PUnit.unit))
 (c_3.asBool.bind fun b =>
 br (!b)
 (br (!decide (a3 = [])) (some (true, PUnit.unit))
 (c_3.asBool.bind fun b =>
 br b (some (decide (a2 = a3), PUnit.unit))
 (some (false, PUnit.unit))))
 (c_3.asBool.bind fun b =>
 br b (some (decide (a2 = a3), PUnit.unit))
 (some (false, PUnit.unit))))))))).bind
 fun y =>
 br y.1 (some (CVal.bool false, []))
 (((C f_s_TyOk [AVal.v (CVal.agg [CVal.int IntKind.i64 a40, CVal.int IntKind.i64 a41, CVal.sl a42])]
 []).bind
 fun r =>
 c_4.asBool.bind fun b =>
 r.1.asBool.bind fun b_1 =>
 br (!b == b_1) (some (true, PUnit.unit))
 (c_4.asBool.bind fun b =>
 br (!b)
 ((C f_s_SameTy
 [AVal.v
 (CVal.agg
 [CVal.int IntKind.i64 a40, CVal.int IntKind.i64 a41, CVal.sl a42]),
 AVal.v
 (CVal.agg
 [CVal.int IntKind.i64 (0 : Int), CVal.int IntKind.i64 (0 : Int),
 CVal.sl []])]
 []).bind
 fun r =>
 br (!scalar r.1) none
 (r.1.asBool.bind fun b =>
 br (!b) (some (true, PUnit.unit))
 (br (decide ((2 : Int) < (↑a5.length : Int))) (some (true, PUnit.unit))
 (br (!decide (a0 = (3 : Int)))
 (some (decide ((0 : Int) < (↑a5.length : Int)), PUnit.unit))
 (some (false, PUnit.unit))))))
 (br (decide ((2 : Int) < (↑a5.length : Int))) (some (true, PUnit.unit))
 (br (!decide (a0 = (3 : Int)))
 (some (decide ((0 : Int) < (↑a5.length : Int)), PUnit.unit))
 (some (false, PUnit.unit)))))).bind
 fun y =>
 br y.1 (some (CVal.bool false, []))
 ((L f_s_l2One (0 : Nat) lc_s_l2One_0 [] k_s_l2One_0
 ((PUnit.unit, (0 : Int), PUnit.unit), (a0, a1, a2, a3, a40, a41, a42, a5, a6, PUnit.unit),
 PUnit.unit)).bind
 fun r =>
 loK r (fun r => some r) fun j p =>
 br (j == (0 : Nat))
 ((br (!decide (p.snd.fst.1 = (7 : Int))) (some (true, PUnit.unit))
 (p.snd.fst.snd.snd.snd.snd.snd.snd.snd.snd.1[(0 : Nat)]?.bind fun y =>
 br (CVal.fits true (9 : Nat) y)
 ((y.cell (0 : Nat)).bind fun c =>
 (CVal.asInt IntKind.i64 c).bind fun n =>
 some (decide (n = (4 : Int)), PUnit.unit))
 none)).bind
 fun y => some (CVal.bool y.1, []))
 none)))
 none
theorem eq_s_l2One (C : CallT) (L : LoopT) (a0 : Int) (a1 : Int) (a2 : List UInt8) (a3 : List UInt8) (a40 : Int) (a41 : Int) (a42 : List CVal) (a5 : List CVal) (a6 : List CVal) : evF E N C L f_s_l2One [AVal.v
 (CVal.agg
 [CVal.int IntKind.i64 a0, CVal.int IntKind.i64 a1, CVal.str a2, CVal.str a3, CVal.int IntKind.i64 a40,
 CVal.int IntKind.i64 a41, CVal.sl a42, CVal.sl a5, CVal.sl a6])] [] = nf_s_l2One C L a0 a1 a2 a3 a40 a41 a42 a5 a6 := by kernel_rfl
theorem go_s_l2One (a0 : Int) (a1 : Int) (a2 : List UInt8) (a3 : List UInt8) (a40 : Int) (a41 : Int) (a42 : List CVal) (a5 : List CVal) (a6 : List CVal) (R : Ret) (h : nf_s_l2One CC LL a0 a1 a2 a3 a40 a41 a42 a5 a6 = some R) : CC f_s_l2One [AVal.v
 (CVal.agg
 [CVal.int IntKind.i64 a0, CVal.int IntKind.i64 a1, CVal.str a2, CVal.str a3, CVal.int IntKind.i64 a40,
 CVal.int IntKind.i64 a41, CVal.sl a42, CVal.sl a5, CVal.sl a6])] [] = some R := fnW (by decide) rfl ((eq_s_l2One CC LL a0 a1 a2 a3 a40 a41 a42 a5 a6).trans h)
noncomputable def nf_s_l6Own (C : CallT) (L : LoopT) (a0 : Int) (a1 : Int) (a2 : List UInt8) (a3 : List UInt8) (a40 : Int) (a41 : Int) (a42 : List CVal) (a5 : List CVal) (a6 : List CVal) : Option Ret :=
 br (decide (a0 = (4 : Int))) (some (CVal.sl [CVal.str a2], []))
 (br (decide (a0 = (6 : Int))) (some (CVal.sl [CVal.str a2], []))
 (br (decide (a0 = (7 : Int))) (some (CVal.sl [CVal.str a2], []))
 (br (decide (a0 = (17 : Int))) (some (CVal.sl [CVal.str a2], []))
 (br (decide (a0 = (14 : Int))) (some (CVal.sl [CVal.str a2, CVal.str a3], [])) (some (CVal.sl [], []))))))
theorem eq_s_l6Own (C : CallT) (L : LoopT) (a0 : Int) (a1 : Int) (a2 : List UInt8) (a3 : List UInt8) (a40 : Int) (a41 : Int) (a42 : List CVal) (a5 : List CVal) (a6 : List CVal) : evF E N C L f_s_l6Own [AVal.v
 (CVal.agg
 [CVal.int IntKind.i64 a0, CVal.int IntKind.i64 a1, CVal.str a2, CVal.str a3, CVal.int IntKind.i64 a40,
 CVal.int IntKind.i64 a41, CVal.sl a42, CVal.sl a5, CVal.sl a6])] [] = nf_s_l6Own C L a0 a1 a2 a3 a40 a41 a42 a5 a6 := by kernel_rfl
theorem go_s_l6Own (a0 : Int) (a1 : Int) (a2 : List UInt8) (a3 : List UInt8) (a40 : Int) (a41 : Int) (a42 : List CVal) (a5 : List CVal) (a6 : List CVal) (R : Ret) (h : nf_s_l6Own CC LL a0 a1 a2 a3 a40 a41 a42 a5 a6 = some R) : CC f_s_l6Own [AVal.v
 (CVal.agg
 [CVal.int IntKind.i64 a0, CVal.int IntKind.i64 a1, CVal.str a2, CVal.str a3, CVal.int IntKind.i64 a40,
 CVal.int IntKind.i64 a41, CVal.sl a42, CVal.sl a5, CVal.sl a6])] [] = some R := fnW (by decide) rfl ((eq_s_l6Own CC LL a0 a1 a2 a3 a40 a41 a42 a5 a6).trans h)
noncomputable def nf_s_TyOk (C : CallT) (L : LoopT) (a0 : Int) (a1 : Int) (a2 : List CVal) : Option Ret :=
 (C f_s_l1Look
 [AVal.v (CVal.agg [CVal.int IntKind.i64 a0, CVal.int IntKind.i64 a1, CVal.sl a2]),
 AVal.v (CVal.int IntKind.i64 (6 : Int)), AVal.lptr (0 : Nat) (0 : Nat)]
 [PB.box [AVal.v (CVal.int IntKind.i64 (0 : Int))]]).bind
 fun r => r.2[(0 : Nat)]?.bind fun y => y[(0 : Nat)]?.bind fun y => some (r.1, [])
theorem eq_s_TyOk (C : CallT) (L : LoopT) (a0 : Int) (a1 : Int) (a2 : List CVal) : evF E N C L f_s_TyOk [AVal.v (CVal.agg [CVal.int IntKind.i64 a0, CVal.int IntKind.i64 a1, CVal.sl a2])] [] = nf_s_TyOk C L a0 a1 a2 := by kernel_rfl
theorem go_s_TyOk (a0 : Int) (a1 : Int) (a2 : List CVal) (R : Ret) (h : nf_s_TyOk CC LL a0 a1 a2 = some R) : CC f_s_TyOk [AVal.v (CVal.agg [CVal.int IntKind.i64 a0, CVal.int IntKind.i64 a1, CVal.sl a2])] [] = some R := fnW (by decide) rfl ((eq_s_TyOk CC LL a0 a1 a2).trans h)
noncomputable def nf_i_namesOk (C : CallT) (L : LoopT) (a : Int) (b : List UInt8) (c : List UInt8) : Option Ret :=
 br (decide (a = (14 : Int)))
 (((C f_i_isName [AVal.v (CVal.str b)] []).bind fun r =>
 r.1.asBool.bind fun b_1 =>
 br b_1
 ((C f_i_isName [AVal.v (CVal.str c)] []).bind fun r =>
 (bif true then r.1 else CVal.bool false).asBool.bind fun b_2 =>
 br b_2 (some (!decide (b = c), PUnit.unit)) (some (false, PUnit.unit)))
 (some (false, PUnit.unit))).bind
 fun y => some (CVal.bool y.1, []))
 ((br (decide (c = []))
 ((C f_i_isName [AVal.v (CVal.str b)] []).bind fun r =>
 (C f_i_bindsS [AVal.v (CVal.int IntKind.i64 a)] []).bind fun r_1 =>
 r_1.1.asBool.bind fun b_1 =>
 br b_1
 (r.1.asBool.bind fun b_2 =>
 br (b_2 == true)
 (br (decide (b = [])) (some (true, PUnit.unit))
 ((C f_i_isName [AVal.v (CVal.str b)] []).bind fun r =>
 (bif true then bif false then CVal.bool true else r.1 else CVal.bool false).asBool.bind fun b =>
 some (b, PUnit.unit)))
 (some (false, PUnit.unit)))
 (r.1.asBool.bind fun b_2 =>
 br (b_2 == decide (a = (3 : Int)))
 (br (decide (b = [])) (some (true, PUnit.unit))
 ((C f_i_isName [AVal.v (CVal.str b)] []).bind fun r =>
 (bif true then bif false then CVal.bool true else r.1 else CVal.bool false).asBool.bind fun b =>
 some (b, PUnit.unit)))
 (some (false, PUnit.unit))))
 (some (false, PUnit.unit))).bind
 fun y => some (CVal.bool y.1, []))
theorem eq_i_namesOk (C : CallT) (L : LoopT) (a : Int) (b : List UInt8) (c : List UInt8) : evF E N C L f_i_namesOk [AVal.v (CVal.int IntKind.i64 a), AVal.v (CVal.str b), AVal.v (CVal.str c)] [] = nf_i_namesOk C L a b c := by kernel_rfl
theorem go_i_namesOk (a : Int) (b : List UInt8) (c : List UInt8) (R : Ret) (h : nf_i_namesOk CC LL a b c = some R) : CC f_i_namesOk [AVal.v (CVal.int IntKind.i64 a), AVal.v (CVal.str b), AVal.v (CVal.str c)] [] = some R := fnW (by decide) rfl ((eq_i_namesOk CC LL a b c).trans h)
noncomputable def nf_slices_ContainsFunc_Ty (C : CallT) (L : LoopT) (a : List CVal) (b : CVal) : Option Ret :=
 (C f_slices_IndexFunc_Ty [AVal.v (CVal.sl a), AVal.v b] []).bind fun r =>
 (CVal.asInt IntKind.i64 r.1).bind fun n => some (CVal.bool (decide ((0 : Int) ≤ n)), [])
theorem eq_slices_ContainsFunc_Ty (C : CallT) (L : LoopT) (a : List CVal) (b : CVal) : evF E N C L f_slices_ContainsFunc_Ty [AVal.v (CVal.sl a), AVal.v b] [] = nf_slices_ContainsFunc_Ty C L a b := by kernel_rfl
theorem go_slices_ContainsFunc_Ty (a : List CVal) (b : CVal) (R : Ret) (h : nf_slices_ContainsFunc_Ty CC LL a b = some R) : CC f_slices_ContainsFunc_Ty [AVal.v (CVal.sl a), AVal.v b] [] = some R := fnW (by decide) rfl ((eq_slices_ContainsFunc_Ty CC LL a b).trans h)
noncomputable def nf_i_isName (C : CallT) (L : LoopT) (a : List UInt8) : Option Ret :=
 (L f_i_isName (0 : Nat) lc_i_isName_0 [] k_i_isName_0 ((a, (↑a.length : Int), (0 : Int), PUnit.unit), PUnit.unit)).bind
 fun r =>
 loK r (fun r => some r) fun j p =>
 br (j == (0 : Nat))
 ((C f_i_in
 [AVal.v (CVal.int IntKind.i64 (↑(List.length p.fst.1) : Int)), AVal.v (CVal.int IntKind.i64 (1 : Int)),
 AVal.v (CVal.int IntKind.i64 (8 : Int))]
 []).bind
 fun r => some (r.1, []))
 none
theorem eq_i_isName (C : CallT) (L : LoopT) (a : List UInt8) : evF E N C L f_i_isName [AVal.v (CVal.str a)] [] = nf_i_isName C L a := by kernel_rfl
theorem go_i_isName (a : List UInt8) (R : Ret) (h : nf_i_isName CC LL a = some R) : CC f_i_isName [AVal.v (CVal.str a)] [] = some R := fnW (by decide) rfl ((eq_i_isName CC LL a).trans h)
noncomputable def nf_s_l1Args (C : CallT) (L : LoopT) (a : Int) : Option Ret :=
 br (decide (a = (1 : Int))) (some (CVal.int IntKind.i64 (0 : Int), []))
 (br (decide (a = (2 : Int))) (some (CVal.int IntKind.i64 (0 : Int), []))
 (br (decide (a = (3 : Int))) (some (CVal.int IntKind.i64 (0 : Int), []))
 (br (decide (a = (6 : Int))) (some (CVal.int IntKind.i64 (1 : Int), []))
 (br (decide (a = (4 : Int))) (some (CVal.int IntKind.i64 (2 : Int), []))
 (br (decide (a = (5 : Int))) (some (CVal.int IntKind.i64 (2 : Int), []))
 (some (CVal.int IntKind.i64 (-1 : Int), [])))))))
theorem eq_s_l1Args (C : CallT) (L : LoopT) (a : Int) : evF E N C L f_s_l1Args [AVal.v (CVal.int IntKind.i64 a)] [] = nf_s_l1Args C L a := by kernel_rfl
theorem go_s_l1Args (a : Int) (R : Ret) (h : nf_s_l1Args CC LL a = some R) : CC f_s_l1Args [AVal.v (CVal.int IntKind.i64 a)] [] = some R := fnW (by decide) rfl ((eq_s_l1Args CC LL a).trans h)
noncomputable def nl_l_szTermS_0 (C : CallT) (L : LoopT) (x00 : List CVal) (x01 : Int) (x02 : Int) : Option (LO k_l_szTermS_0.T) :=
 br (decide (x02 < (↑x00.length : Int)))
 (br (decide ((0 : Int) ≤ x02) && true)
 (x00[x02.toNat]?.bind fun y =>
 br (CVal.fits true (9 : Nat) y)
 ((y.sub (0 : Nat) (9 : Nat)).bind fun y =>
 (C f_l_szTerm [AVal.v y, AVal.v (CVal.int IntKind.i64 x01)] []).bind fun r =>
 (CVal.asInt IntKind.i64 r.1).bind fun n =>
 br (decide (n < (0 : Int))) (some (LO.ret (CVal.int IntKind.i64 (-1 : Int), [])))
 ((CVal.asInt IntKind.i64 r.1).bind fun n =>
 L f_l_szTermS (0 : Nat) lc_l_szTermS_0 [] k_l_szTermS_0
 ((x00, n, IntKind.i64.wrap (x02 + (1 : Int)), PUnit.unit), PUnit.unit)))
 none)
 none)
 (some (LO.out (0 : Nat) ((x00, x01, x02, PUnit.unit), PUnit.unit)))
theorem el_l_szTermS_0 (C : CallT) (L : LoopT) (x00 : List CVal) (x01 : Int) (x02 : Int) : evL E N C L f_l_szTermS 0 lc_l_szTermS_0 [] k_l_szTermS_0 ((x00, x01, x02, ()), ()) = nl_l_szTermS_0 C L x00 x01 x02 := by kernel_rfl
theorem gl_l_szTermS_0 (x00 : List CVal) (x01 : Int) (x02 : Int) (R : LO k_l_szTermS_0.T) (h : nl_l_szTermS_0 CC LL x00 x01 x02 = some R) : LL f_l_szTermS 0 lc_l_szTermS_0 [] k_l_szTermS_0 ((x00, x01, x02, ()), ()) = some R := loopW ((el_l_szTermS_0 CC LL x00 x01 x02).trans h)
noncomputable def nl_l_eqTyS_0 (C : CallT) (L : LoopT) (x00 : List CVal) (x01 : List CVal) (x02 : Int) : Option (LO k_l_eqTyS_0.T) :=
 br (decide (x02 < (↑x00.length : Int)))
 (br (decide ((0 : Int) ≤ x02) && true)
 (x00[x02.toNat]?.bind fun y =>
 br (CVal.fits true (3 : Nat) y)
 ((y.sub (0 : Nat) (3 : Nat)).bind fun y =>
 br (decide ((0 : Int) ≤ x02) && true)
 (x01[x02.toNat]?.bind fun y_1 =>
 br (CVal.fits true (3 : Nat) y_1)
 ((y_1.sub (0 : Nat) (3 : Nat)).bind fun y_2 =>
 (C f_l_eqTy [AVal.v y, AVal.v y_2] []).bind fun r =>
 r.1.asBool.bind fun b =>
 br (!b) (some (LO.ret (CVal.bool false, [])))
 (L f_l_eqTyS (0 : Nat) lc_l_eqTyS_0 [] k_l_eqTyS_0
 ((x00, x01, IntKind.i64.wrap (x02 + (1 : Int)), PUnit.unit), PUnit.unit)))
 none)
 none)
 none)
 none)
 (some (LO.out (0 : Nat) ((x00, x01, x02, PUnit.unit), PUnit.unit)))
theorem el_l_eqTyS_0 (C : CallT) (L : LoopT) (x00 : List CVal) (x01 : List CVal) (x02 : Int) : evL E N C L f_l_eqTyS 0 lc_l_eqTyS_0 [] k_l_eqTyS_0 ((x00, x01, x02, ()), ()) = nl_l_eqTyS_0 C L x00 x01 x02 := by kernel_rfl
theorem gl_l_eqTyS_0 (x00 : List CVal) (x01 : List CVal) (x02 : Int) (R : LO k_l_eqTyS_0.T) (h : nl_l_eqTyS_0 CC LL x00 x01 x02 = some R) : LL f_l_eqTyS 0 lc_l_eqTyS_0 [] k_l_eqTyS_0 ((x00, x01, x02, ()), ()) = some R := loopW ((el_l_eqTyS_0 CC LL x00 x01 x02).trans h)
noncomputable def nl_s_l2Name_0 (C : CallT) (L : LoopT) (x00 : List UInt8) (x01 : Bool) (x02 : Int) : Option (LO k_s_l2Name_0.T) :=
 br (decide (x02 < (↑x00.length : Int)))
 (br (decide ((0 : Int) ≤ x02))
 (x00[x02.toNat]?.bind fun y =>
 ((C f_s_l1In
 [AVal.v (CVal.int IntKind.i64 (IntKind.i64.wrap (↑y.toNat : Int))),
 AVal.v (CVal.int IntKind.i64 (97 : Int)), AVal.v (CVal.int IntKind.i64 (122 : Int))]
 []).bind
 fun r =>
 r.1.asBool.bind fun b =>
 br (!b)
 ((C f_s_l1In
 [AVal.v (CVal.int IntKind.i64 (IntKind.i64.wrap (↑y.toNat : Int))),
 AVal.v (CVal.int IntKind.i64 (48 : Int)), AVal.v (CVal.int IntKind.i64 (57 : Int))]
 []).bind
 fun r =>
 r.1.asBool.bind fun b =>
 br (!b)
 (br x01 (some (true, PUnit.unit))
 (some (!decide (IntKind.i64.wrap (↑y.toNat : Int) = (46 : Int)), PUnit.unit)))
 (some (false, PUnit.unit)))
 (some (false, PUnit.unit))).bind
 fun y =>
 br y.1 (some (LO.ret (CVal.bool false, [])))
 (L f_s_l2Name (0 : Nat) lc_s_l2Name_0 [] k_s_l2Name_0
 ((x00, x01, IntKind.i64.wrap (x02 + (1 : Int)), PUnit.unit), PUnit.unit)))
 none)
 (some (LO.out (0 : Nat) ((x00, x01, x02, PUnit.unit), PUnit.unit)))
theorem el_s_l2Name_0 (C : CallT) (L : LoopT) (x00 : List UInt8) (x01 : Bool) (x02 : Int) : evL E N C L f_s_l2Name 0 lc_s_l2Name_0 [] k_s_l2Name_0 ((x00, x01, x02, ()), ()) = nl_s_l2Name_0 C L x00 x01 x02 := by kernel_rfl
theorem gl_s_l2Name_0 (x00 : List UInt8) (x01 : Bool) (x02 : Int) (R : LO k_s_l2Name_0.T) (h : nl_s_l2Name_0 CC LL x00 x01 x02 = some R) : LL f_s_l2Name 0 lc_s_l2Name_0 [] k_s_l2Name_0 ((x00, x01, x02, ()), ()) = some R := loopW ((el_s_l2Name_0 CC LL x00 x01 x02).trans h)
noncomputable def nl_s_l2One_0 (C : CallT) (L : LoopT) (x01 : Int) (x10 : Int) (x11 : Int) (x12 : List UInt8) (x13 : List UInt8) (x14 : Int) (x15 : Int) (x16 : List CVal) (x17 : List CVal) (x18 : List CVal) : Option (LO k_s_l2One_0.T) :=
 br (decide (x01 < (↑x17.length : Int)))
 (br (decide ((0 : Int) ≤ x01) && true)
 (x17[x01.toNat]?.bind fun y =>
 br (CVal.fits true (3 : Nat) y)
 ((y.sub (0 : Nat) (3 : Nat)).bind fun y =>
 (C f_s_TyOk [AVal.v y] []).bind fun r =>
 r.1.asBool.bind fun b =>
 br (!b) (some (LO.ret (CVal.bool false, [])))
 (L f_s_l2One (0 : Nat) lc_s_l2One_0 [] k_s_l2One_0
 ((PUnit.unit, IntKind.i64.wrap (x01 + (1 : Int)), PUnit.unit),
 (x10, x11, x12, x13, x14, x15, x16, x17, x18, PUnit.unit), PUnit.unit)))
 none)
 none)
 (some
 (LO.out (0 : Nat)
 ((PUnit.unit, x01, PUnit.unit), (x10, x11, x12, x13, x14, x15, x16, x17, x18, PUnit.unit), PUnit.unit)))
theorem el_s_l2One_0 (C : CallT) (L : LoopT) (x01 : Int) (x10 : Int) (x11 : Int) (x12 : List UInt8) (x13 : List UInt8) (x14 : Int) (x15 : Int) (x16 : List CVal) (x17 : List CVal) (x18 : List CVal) : evL E N C L f_s_l2One 0 lc_s_l2One_0 [] k_s_l2One_0 (((), x01, ()), (x10, x11, x12, x13, x14, x15, x16, x17, x18, ()), ()) = nl_s_l2One_0 C L x01 x10 x11 x12 x13 x14 x15 x16 x17 x18 := by kernel_rfl
theorem gl_s_l2One_0 (x01 : Int) (x10 : Int) (x11 : Int) (x12 : List UInt8) (x13 : List UInt8) (x14 : Int) (x15 : Int) (x16 : List CVal) (x17 : List CVal) (x18 : List CVal) (R : LO k_s_l2One_0.T) (h : nl_s_l2One_0 CC LL x01 x10 x11 x12 x13 x14 x15 x16 x17 x18 = some R) : LL f_s_l2One 0 lc_s_l2One_0 [] k_s_l2One_0 (((), x01, ()), (x10, x11, x12, x13, x14, x15, x16, x17, x18, ()), ()) = some R := loopW ((el_s_l2One_0 CC LL x01 x10 x11 x12 x13 x14 x15 x16 x17 x18).trans h)
noncomputable def nl_i_isName_0 (C : CallT) (L : LoopT) (x00 : List UInt8) (x01 : Int) (x02 : Int) : Option (LO k_i_isName_0.T) :=
 br (decide (x02 < x01))
 (br (decide ((0 : Int) ≤ x02))
 (x00[x02.toNat]?.bind fun y =>
 (br (decide ((97 : Int) ≤ (↑y.toNat : Int))) (some (decide ((↑y.toNat : Int) ≤ (122 : Int)), PUnit.unit))
 (some (false, PUnit.unit))).bind
 fun y_1 =>
 (br (!y_1.1)
 (br (decide (x02 = (0 : Int))) (some (true, PUnit.unit))
 (br (decide ((↑y.toNat : Int) < (48 : Int)))
 (some (!decide ((↑y.toNat : Int) = (46 : Int)), PUnit.unit))
 (br (decide ((57 : Int) < (↑y.toNat : Int)))
 (some (!decide ((↑y.toNat : Int) = (46 : Int)), PUnit.unit)) (some (false, PUnit.unit)))))
 (some (false, PUnit.unit))).bind
 fun y =>
 br y.1 (some (LO.ret (CVal.bool false, [])))
 (L f_i_isName (0 : Nat) lc_i_isName_0 [] k_i_isName_0
 ((x00, x01, IntKind.i64.wrap (x02 + (1 : Int)), PUnit.unit), PUnit.unit)))
 none)
 (some (LO.out (0 : Nat) ((x00, x01, x02, PUnit.unit), PUnit.unit)))
theorem el_i_isName_0 (C : CallT) (L : LoopT) (x00 : List UInt8) (x01 : Int) (x02 : Int) : evL E N C L f_i_isName 0 lc_i_isName_0 [] k_i_isName_0 ((x00, x01, x02, ()), ()) = nl_i_isName_0 C L x00 x01 x02 := by kernel_rfl
theorem gl_i_isName_0 (x00 : List UInt8) (x01 : Int) (x02 : Int) (R : LO k_i_isName_0.T) (h : nl_i_isName_0 CC LL x00 x01 x02 = some R) : LL f_i_isName 0 lc_i_isName_0 [] k_i_isName_0 ((x00, x01, x02, ()), ()) = some R := loopW ((el_i_isName_0 CC LL x00 x01 x02).trans h)
end Go.Proofs.Ytbimglfmmmlicaa.Abs
