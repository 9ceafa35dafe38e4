/- What the functions come to in the abstract machine. -/
import Derived.Test.YtbimglfmmmlicaaP1Ann
import Derived.KernelRfl
set_option linter.unusedVariables false
set_option maxRecDepth 100000
namespace Go.Proofs.Ytbimglfmmmlicaa.Abs
open Go Go.Proofs
noncomputable def nf_s_Binders (C : CallT) (L : LoopT) (a0 : Int) (a1 : Int) (a2 : List UInt8) (a3 : List UInt8) (a40 : Int) (a41 : Int) (a42 : List CVal) (a5 : List CVal) (a6 : List CVal) : Option Ret :=
 (C f_s_TermOk
 [AVal.v
 (CVal.agg
 [CVal.int IntKind.i64 a0, CVal.int IntKind.i64 a1, CVal.str a2, CVal.str a3, CVal.int IntKind.i64 a40,
 CVal.int IntKind.i64 a41, CVal.sl a42, CVal.sl a5, CVal.sl a6])]
 []).bind
 fun r =>
 r.1.asBool.bind fun b =>
 br (!b) (some (CVal.sl [], []))
 ((C f_s_l6Binders
 [AVal.v
 (CVal.agg
 [CVal.int IntKind.i64 a0, CVal.int IntKind.i64 a1, CVal.str a2, CVal.str a3, CVal.int IntKind.i64 a40,
 CVal.int IntKind.i64 a41, CVal.sl a42, CVal.sl a5, CVal.sl a6]),
 AVal.lref (0 : Nat) (0 : Nat)]
 [PB.arr (Md.mk true false (0 : Nat)) false (1 : Nat) []]).bind
 fun r => r.2[(0 : Nat)]?.bind fun y => some (CVal.sl y, []))
theorem eq_s_Binders (C : CallT) (L : LoopT) (a0 : Int) (a1 : Int) (a2 : List UInt8) (a3 : List UInt8) (a40 : Int) (a41 : Int) (a42 : List CVal) (a5 : List CVal) (a6 : List CVal) : evF E N C L f_s_Binders [AVal.v
 (CVal.agg
 [CVal.int IntKind.i64 a0, CVal.int IntKind.i64 a1, CVal.str a2, CVal.str a3, CVal.int IntKind.i64 a40,
 CVal.int IntKind.i64 a41, CVal.sl a42, CVal.sl a5, CVal.sl a6])] [] = nf_s_Binders C L a0 a1 a2 a3 a40 a41 a42 a5 a6 := by kernel_rfl
theorem go_s_Binders (a0 : Int) (a1 : Int) (a2 : List UInt8) (a3 : List UInt8) (a40 : Int) (a41 : Int) (a42 : List CVal) (a5 : List CVal) (a6 : List CVal) (R : Ret) (h : nf_s_Binders CC LL a0 a1 a2 a3 a40 a41 a42 a5 a6 = some R) : CC f_s_Binders [AVal.v
 (CVal.agg
 [CVal.int IntKind.i64 a0, CVal.int IntKind.i64 a1, CVal.str a2, CVal.str a3, CVal.int IntKind.i64 a40,
 CVal.int IntKind.i64 a41, CVal.sl a42, CVal.sl a5, CVal.sl a6])] [] = some R := fnW (by decide) rfl ((eq_s_Binders CC LL a0 a1 a2 a3 a40 a41 a42 a5 a6).trans h)
noncomputable def nf_l_markTerm (C : CallT) (L : LoopT) (a0 : Int) (a1 : Int) (a2 : List UInt8) (a3 : List UInt8) (a40 : Int) (a41 : Int) (a42 : List CVal) (a5 : List CVal) (a6 : List CVal) (b : Int) : Option Ret :=
 (C f_l_markTy
 [AVal.agg [AVal.v (CVal.int IntKind.i64 a40), AVal.v (CVal.int IntKind.i64 a41), AVal.lref (0 : Nat) (0 : Nat)],
 AVal.v (CVal.int IntKind.i64 b)]
 [PB.arr (Md.mk true true (0 : Nat)) false (3 : Nat) a42]).bind
 fun r =>
 r.2[(0 : Nat)]?.bind fun y =>
 (C f_l_markTyS [AVal.lref (0 : Nat) (0 : Nat), AVal.v r.1]
 [PB.arr (Md.mk true true (0 : Nat)) false (3 : Nat) a5]).bind
 fun r =>
 r.2[(0 : Nat)]?.bind fun y_1 =>
 (C f_l_markTermS [AVal.lref (0 : Nat) (0 : Nat), AVal.v r.1]
 [PB.arr (Md.mk true true (0 : Nat)) false (9 : Nat) a6]).bind
 fun r => r.2[(0 : Nat)]?.bind fun y_2 => some (r.1, [y, y_1, y_2])
theorem eq_l_markTerm (C : CallT) (L : LoopT) (a0 : Int) (a1 : Int) (a2 : List UInt8) (a3 : List UInt8) (a40 : Int) (a41 : Int) (a42 : List CVal) (a5 : List CVal) (a6 : List CVal) (b : Int) : evF E N C L f_l_markTerm [AVal.agg
 [AVal.v (CVal.int IntKind.i64 a0), AVal.v (CVal.int IntKind.i64 a1), AVal.v (CVal.str a2), AVal.v (CVal.str a3),
 AVal.v (CVal.int IntKind.i64 a40), AVal.v (CVal.int IntKind.i64 a41), AVal.lref (0 : Nat) (0 : Nat),
 AVal.lref (1 : Nat) (0 : Nat), AVal.lref (2 : Nat) (0 : Nat)],
 AVal.v (CVal.int IntKind.i64 b)] [PB.arr (Md.mk true true (0 : Nat)) false (3 : Nat) a42, PB.arr (Md.mk true true (0 : Nat)) false (3 : Nat) a5,
 PB.arr (Md.mk true true (0 : Nat)) false (9 : Nat) a6] = nf_l_markTerm C L a0 a1 a2 a3 a40 a41 a42 a5 a6 b := by kernel_rfl
theorem go_l_markTerm (a0 : Int) (a1 : Int) (a2 : List UInt8) (a3 : List UInt8) (a40 : Int) (a41 : Int) (a42 : List CVal) (a5 : List CVal) (a6 : List CVal) (b : Int) (R : Ret) (h : nf_l_markTerm CC LL a0 a1 a2 a3 a40 a41 a42 a5 a6 b = some R) : CC f_l_markTerm [AVal.agg
 [AVal.v (CVal.int IntKind.i64 a0), AVal.v (CVal.int IntKind.i64 a1), AVal.v (CVal.str a2), AVal.v (CVal.str a3),
 AVal.v (CVal.int IntKind.i64 a40), AVal.v (CVal.int IntKind.i64 a41), AVal.lref (0 : Nat) (0 : Nat),
 AVal.lref (1 : Nat) (0 : Nat), AVal.lref (2 : Nat) (0 : Nat)],
 AVal.v (CVal.int IntKind.i64 b)] [PB.arr (Md.mk true true (0 : Nat)) false (3 : Nat) a42, PB.arr (Md.mk true true (0 : Nat)) false (3 : Nat) a5,
 PB.arr (Md.mk true true (0 : Nat)) false (9 : Nat) a6] = some R := fnW (by decide) rfl ((eq_l_markTerm CC LL a0 a1 a2 a3 a40 a41 a42 a5 a6 b).trans h)
noncomputable def nf_l_szTyS (C : CallT) (L : LoopT) (a : List CVal) (b : Int) : Option Ret :=
 br (decide (IntKind.i64.wrap (b - (↑a.length : Int)) < (0 : Int))) (some (CVal.int IntKind.i64 (-1 : Int), []))
 ((L f_l_szTyS (0 : Nat) lc_l_szTyS_0 [] k_l_szTyS_0
 ((a, IntKind.i64.wrap (b - (↑a.length : Int)), (0 : Int), PUnit.unit), PUnit.unit)).bind
 fun r => loK r (fun r => some r) fun j p => br (j == (0 : Nat)) (some (CVal.int IntKind.i64 p.fst.snd.1, [])) none)
theorem eq_l_szTyS (C : CallT) (L : LoopT) (a : List CVal) (b : Int) : evF E N C L f_l_szTyS [AVal.v (CVal.sl a), AVal.v (CVal.int IntKind.i64 b)] [] = nf_l_szTyS C L a b := by kernel_rfl
theorem go_l_szTyS (a : List CVal) (b : Int) (R : Ret) (h : nf_l_szTyS CC LL a b = some R) : CC f_l_szTyS [AVal.v (CVal.sl a), AVal.v (CVal.int IntKind.i64 b)] [] = some R := fnW (by decide) rfl ((eq_l_szTyS CC LL a b).trans h)
noncomputable def nf_l_toTermS (C : CallT) (L : LoopT) (a : List CVal) : Option Ret :=
 br (decide ((↑a.length : Int) = (↑a.length : Int)) && decide ((↑a.length : Int) ≤ (1048576 : Int)))
 ((L f_l_toTermS (0 : Nat) lc_l_toTermS_0 [] k_l_toTermS_0
 ((a, PUnit.unit, (0 : Int), PUnit.unit),
 List.replicate (↑a.length : Int).toNat
 (CVal.agg
 [CVal.int IntKind.i64 (0 : Int), CVal.int IntKind.i64 (0 : Int), CVal.str [], CVal.str [],
 CVal.int IntKind.i64 (0 : Int), CVal.int IntKind.i64 (0 : Int), CVal.sl [], CVal.sl [], CVal.sl []]),
 PUnit.unit)).bind
 fun r => loK r (fun r => some r) fun j p => br (j == (0 : Nat)) (some (CVal.sl p.snd.1, [])) none)
 none
theorem eq_l_toTermS (C : CallT) (L : LoopT) (a : List CVal) : evF E N C L f_l_toTermS [AVal.v (CVal.sl a)] [] = nf_l_toTermS C L a := by kernel_rfl
theorem go_l_toTermS (a : List CVal) (R : Ret) (h : nf_l_toTermS CC LL a = some R) : CC f_l_toTermS [AVal.v (CVal.sl a)] [] = some R := fnW (by decide) rfl ((eq_l_toTermS CC LL a).trans h)
noncomputable def nf_i_bindersIn (C : CallT) (L : LoopT) (a0 : Int) (a1 : Int) (a2 : List UInt8) (a3 : List UInt8) (a40 : Int) (a41 : Int) (a42 : List CVal) (a5 : List CVal) (a6 : List CVal) (b : List CVal) : Option Ret :=
 (C f_i_bindsS [AVal.v (CVal.int IntKind.i64 a0)] []).bind fun r =>
 r.1.asBool.bind fun b_1 =>
 br b_1
 (br (decide (b.length + (1 : Nat) ≤ (4294967296 : Nat)) && true && true)
 (br (decide (a0 = (14 : Int)))
 (br (decide ((b ++ [CVal.str a2]).length + (1 : Nat) ≤ (4294967296 : Nat)) && true && true)
 ((L f_i_bindersIn (0 : Nat) lc_i_bindersIn_0 [PSh.arr (Md.mk true false (0 : Nat)) false (1 : Nat)]
 k_i_bindersIn_0
 ((PUnit.unit, a6, (↑a6.length : Int), (0 : Int), PUnit.unit), b ++ [CVal.str a2] ++ [CVal.str a3],
 PUnit.unit)).bind
 fun r => loK r (fun r => some r) fun j p => br (j == (0 : Nat)) (some (CVal.nilp, [p.snd.1])) none)
 none)
 ((L f_i_bindersIn (0 : Nat) lc_i_bindersIn_0 [PSh.arr (Md.mk true false (0 : Nat)) false (1 : Nat)]
 k_i_bindersIn_0
 ((PUnit.unit, a6, (↑a6.length : Int), (0 : Int), PUnit.unit), b ++ [CVal.str a2], PUnit.unit)).bind
 fun r => loK r (fun r => some r) fun j p => br (j == (0 : Nat)) (some (CVal.nilp, [p.snd.1])) none))
 none)
 (br (decide (a0 = (14 : Int)))
 (br (decide (b.length + (1 : Nat) ≤ (4294967296 : Nat)) && true && true)
 ((L f_i_bindersIn (0 : Nat) lc_i_bindersIn_0 [PSh.arr (Md.mk true false (0 : Nat)) false (1 : Nat)]
 k_i_bindersIn_0
 ((PUnit.unit, a6, (↑a6.length : Int), (0 : Int), PUnit.unit), b ++ [CVal.str a3], PUnit.unit)).bind
 fun r => loK r (fun r => some r) fun j p => br (j == (0 : Nat)) (some (CVal.nilp, [p.snd.1])) none)
 none)
 ((L f_i_bindersIn (0 : Nat) lc_i_bindersIn_0 [PSh.arr (Md.mk true false (0 : Nat)) false (1 : Nat)]
 k_i_bindersIn_0 ((PUnit.unit, a6, (↑a6.length : Int), (0 : Int), PUnit.unit), b, PUnit.unit)).bind
 fun r => loK r (fun r => some r) fun j p => br (j == (0 : Nat)) (some (CVal.nilp, [p.snd.1])) none))
theorem eq_i_bindersIn (C : CallT) (L : LoopT) (a0 : Int) (a1 : Int) (a2 : List UInt8) (a3 : List UInt8) (a40 : Int) (a41 : Int) (a42 : List CVal) (a5 : List CVal) (a6 : List CVal) (b : List CVal) : evF E N C L f_i_bindersIn [AVal.v
 (CVal.agg
 [CVal.int IntKind.i64 a0, CVal.int IntKind.i64 a1, CVal.str a2, CVal.str a3, CVal.int IntKind.i64 a40,
 CVal.int IntKind.i64 a41, CVal.sl a42, CVal.sl a5, CVal.sl a6]),
 AVal.lref (0 : Nat) (0 : Nat)] [PB.arr (Md.mk true false (0 : Nat)) false (1 : Nat) b] = nf_i_bindersIn C L a0 a1 a2 a3 a40 a41 a42 a5 a6 b := by kernel_rfl
theorem go_i_bindersIn (a0 : Int) (a1 : Int) (a2 : List UInt8) (a3 : List UInt8) (a40 : Int) (a41 : Int) (a42 : List CVal) (a5 : List CVal) (a6 : List CVal) (b : List CVal) (R : Ret) (h : nf_i_bindersIn CC LL a0 a1 a2 a3 a40 a41 a42 a5 a6 b = some R) : CC f_i_bindersIn [AVal.v
 (CVal.agg
 [CVal.int IntKind.i64 a0, CVal.int IntKind.i64 a1, CVal.str a2, CVal.str a3, CVal.int IntKind.i64 a40,
 CVal.int IntKind.i64 a41, CVal.sl a42, CVal.sl a5, CVal.sl a6]),
 AVal.lref (0 : Nat) (0 : Nat)] [PB.arr (Md.mk true false (0 : Nat)) false (1 : Nat) b] = some R := fnW (by decide) rfl ((eq_i_bindersIn CC LL a0 a1 a2 a3 a40 a41 a42 a5 a6 b).trans h)
noncomputable def nf_l_markTy (C : CallT) (L : LoopT) (a0 : Int) (a1 : Int) (a2 : List CVal) (b : Int) : Option Ret :=
 (C f_l_markTyS [AVal.lref (0 : Nat) (0 : Nat), AVal.v (CVal.int IntKind.i64 b)]
 [PB.arr (Md.mk true true (0 : Nat)) false (3 : Nat) a2]).bind
 fun r => r.2[(0 : Nat)]?.bind fun y => some (r.1, [y])
theorem eq_l_markTy (C : CallT) (L : LoopT) (a0 : Int) (a1 : Int) (a2 : List CVal) (b : Int) : evF E N C L f_l_markTy [AVal.agg [AVal.v (CVal.int IntKind.i64 a0), AVal.v (CVal.int IntKind.i64 a1), AVal.lref (0 : Nat) (0 : Nat)],
 AVal.v (CVal.int IntKind.i64 b)] [PB.arr (Md.mk true true (0 : Nat)) false (3 : Nat) a2] = nf_l_markTy C L a0 a1 a2 b := by kernel_rfl
theorem go_l_markTy (a0 : Int) (a1 : Int) (a2 : List CVal) (b : Int) (R : Ret) (h : nf_l_markTy CC LL a0 a1 a2 b = some R) : CC f_l_markTy [AVal.agg [AVal.v (CVal.int IntKind.i64 a0), AVal.v (CVal.int IntKind.i64 a1), AVal.lref (0 : Nat) (0 : Nat)],
 AVal.v (CVal.int IntKind.i64 b)] [PB.arr (Md.mk true true (0 : Nat)) false (3 : Nat) a2] = some R := fnW (by decide) rfl ((eq_l_markTy CC LL a0 a1 a2 b).trans h)
noncomputable def nf_s_l2Look (C : CallT) (L : LoopT) (a0 : Int) (a1 : Int) (a2 : List UInt8) (a3 : List UInt8) (a40 : Int) (a41 : Int) (a42 : List CVal) (a5 : List CVal) (a6 : List CVal) (b : Int) (c : Int) : Option Ret :=
 (br (decide (b = (0 : Int))) (some (true, PUnit.unit))
 (br (decide ((150 : Int) < IntKind.i64.wrap (c + (1 : Int)))) (some (true, PUnit.unit))
 ((C f_s_l2One
 [AVal.v
 (CVal.agg
 [CVal.int IntKind.i64 a0, CVal.int IntKind.i64 a1, CVal.str a2, CVal.str a3,
 CVal.int IntKind.i64 a40, CVal.int IntKind.i64 a41, CVal.sl a42, CVal.sl a5, CVal.sl a6])]
 []).bind
 fun r => r.1.asBool.bind fun b => some (!b, PUnit.unit)))).bind
 fun y =>
 br y.1 (some (CVal.bool false, [[CVal.int IntKind.i64 (IntKind.i64.wrap (c + (1 : Int)))]]))
 ((L f_s_l2Look (0 : Nat) lc_s_l2Look_0 [PSh.box [none]] k_s_l2Look_0
 ((b, PUnit.unit, PUnit.unit, (0 : Int), PUnit.unit), (IntKind.i64.wrap (c + (1 : Int)), PUnit.unit),
 (a0, a1, a2, a3, a40, a41, a42, a5, a6, PUnit.unit), PUnit.unit)).bind
 fun r =>
 loK r (fun r => some r) fun j p =>
 br (j == (0 : Nat)) (some (CVal.bool true, [[CVal.int IntKind.i64 p.snd.fst.1]])) none)
theorem eq_s_l2Look (C : CallT) (L : LoopT) (a0 : Int) (a1 : Int) (a2 : List UInt8) (a3 : List UInt8) (a40 : Int) (a41 : Int) (a42 : List CVal) (a5 : List CVal) (a6 : List CVal) (b : Int) (c : Int) : evF E N C L f_s_l2Look [AVal.v
 (CVal.agg
 [CVal.int IntKind.i64 a0, CVal.int IntKind.i64 a1, CVal.str a2, CVal.str a3, CVal.int IntKind.i64 a40,
 CVal.int IntKind.i64 a41, CVal.sl a42, CVal.sl a5, CVal.sl a6]),
 AVal.v (CVal.int IntKind.i64 b), AVal.lptr (0 : Nat) (0 : Nat)] [PB.box [AVal.v (CVal.int IntKind.i64 c)]] = nf_s_l2Look C L a0 a1 a2 a3 a40 a41 a42 a5 a6 b c := by kernel_rfl
theorem go_s_l2Look (a0 : Int) (a1 : Int) (a2 : List UInt8) (a3 : List UInt8) (a40 : Int) (a41 : Int) (a42 : List CVal) (a5 : List CVal) (a6 : List CVal) (b : Int) (c : Int) (R : Ret) (h : nf_s_l2Look CC LL a0 a1 a2 a3 a40 a41 a42 a5 a6 b c = some R) : CC f_s_l2Look [AVal.v
 (CVal.agg
 [CVal.int IntKind.i64 a0, CVal.int IntKind.i64 a1, CVal.str a2, CVal.str a3, CVal.int IntKind.i64 a40,
 CVal.int IntKind.i64 a41, CVal.sl a42, CVal.sl a5, CVal.sl a6]),
 AVal.v (CVal.int IntKind.i64 b), AVal.lptr (0 : Nat) (0 : Nat)] [PB.box [AVal.v (CVal.int IntKind.i64 c)]] = some R := fnW (by decide) rfl ((eq_s_l2Look CC LL a0 a1 a2 a3 a40 a41 a42 a5 a6 b c).trans h)
noncomputable def nf_s_l2One (C : CallT) (L : LoopT) (a0 : Int) (a1 : Int) (a2 : List UInt8) (a3 : List UInt8) (a40 : Int) (a41 : Int) (a42 : List CVal) (a5 : List CVal) (a6 : List CVal) : Option Ret :=
 (C f_s_l2Of [AVal.v (CVal.int IntKind.i64 a0)] []).bind fun r =>
 br (CVal.isAggN (5 : Nat) r.1)
 ((r.1.cell (0 : Nat)).bind fun c =>
 (r.1.cell (1 : Nat)).bind fun c_1 =>
 (r.1.cell (2 : Nat)).bind fun c_2 =>
 (r.1.cell (3 : Nat)).bind fun c_3 =>
 (r.1.cell (4 : Nat)).bind fun c_4 =>
 ((CVal.asInt IntKind.i64 c).bind fun n =>
 br (!decide ((↑a6.length : Int) = n)) (some (true, PUnit.unit))
 ((C f_s_l2Number
 [AVal.v
 (CVal.agg
 [CVal.int IntKind.i64 a0, CVal.int IntKind.i64 a1, CVal.str a2, CVal.str a3,
 CVal.int IntKind.i64 a40, CVal.int IntKind.i64 a41, CVal.sl a42, CVal.sl a5,
 CVal.sl a6])]
 []).bind
 fun r =>
 r.1.asBool.bind fun b =>
 br (!b) (some (true, PUnit.unit))
 ((C f_s_l2Name [AVal.v (CVal.str a2), AVal.v (CVal.bool false)] []).bind fun r =>
 c_2.asBool.bind fun b =>
 r.1.asBool.bind fun b_1 =>
 br (!b == b_1) (some (true, PUnit.unit))
 (c_2.asBool.bind fun b =>
 br (!b)
 (br (!decide (a2 = [])) (some (true, PUnit.unit))
 ((C f_s_l2Name [AVal.v (CVal.str a3), AVal.v (CVal.bool false)] []).bind
 fun r =>
 c_3.asBool.bind fun b =>
 r.1.asBool.bind fun b_2 =>
 br (!b == b_2) (some (true, PUnit.unit))
 (c_3.asBool.bind fun b =>
 br (!b)
 (br (!decide (a3 = [])) (some (true, PUnit.unit))
 (c_3.asBool.bind fun b =>
 br b (some (decide (a2 = a3), PUnit.unit))
 (some (false, PUnit.unit))))
 (c_3.asBool.bind fun b =>
 br b (some (decide (a2 = a3), PUnit.unit))
 (some (false, PUnit.unit))))))
 ((C f_s_l2Name [AVal.v (CVal.str a3), AVal.v (CVal.bool false)] []).bind
 fun r =>
 c_3.asBool.bind fun b =>
 r.1.asBool.bind fun b_2 =>
 br (!b == b_2) (some (true, PUnit.unit))
 (c_3.asBool.bind fun b =>
 br (!b)
 (br (!decide (a3 = [])) (some (true, PUnit.unit))
 (c_3.asBool.bind fun b =>
 br b (some (decide (a2 = a3), PUnit.unit))
 (some (false, PUnit.unit))))
 (c_3.asBool.bind fun b =>
 br b (some (decide (a2 = a3), PUnit.unit))
 (some (false, PUnit.unit))))))))).bind
 fun y =>
 br y.1 (some (CVal.bool false, []))
 (((C f_s_TyOk [AVal.v (CVal.agg [CVal.int IntKind.i64 a40, CVal.int IntKind.i64 a41, CVal.sl a42])]
 []).bind
 fun r =>
 c_4.asBool.bind fun b =>
 r.1.asBool.bind fun b_1 =>
 br (!b == b_1) (some (true, PUnit.unit))
 (c_4.asBool.bind fun b =>
 br (!b)
 ((C f_s_SameTy
 [AVal.v
 (CVal.agg
 [CVal.int IntKind.i64 a40, CVal.int IntKind.i64 a41, CVal.sl a42]),
 AVal.v
 (CVal.agg
 [CVal.int IntKind.i64 (0 : Int), CVal.int IntKind.i64 (0 : Int),
 CVal.sl []])]
 []).bind
 fun r =>
 br (!scalar r.1) none
 (r.1.asBool.bind fun b =>
 br (!b) (some (true, PUnit.unit))
 (br (decide ((2 : Int) < (↑a5.length : Int))) (some (true, PUnit.unit))
 (br (!decide (a0 = (3 : Int)))
 (some (decide ((0 : Int) < (↑a5.length : Int)), PUnit.unit))
 (some (false, PUnit.unit))))))
 (br (decide ((2 : Int) < (↑a5.length : Int))) (some (true, PUnit.unit))
 (br (!decide (a0 = (3 : Int)))
 (some (decide ((0 : Int) < (↑a5.length : Int)), PUnit.unit))
 (some (false, PUnit.unit)))))).bind
 fun y =>
 br y.1 (some (CVal.bool false, []))
 ((L f_s_l2One (0 : Nat) lc_s_l2One_0 [] k_s_l2One_0
 ((PUnit.unit, (0 : Int), PUnit.unit), (a0, a1, a2, a3, a40, a41, a42, a5, a6, PUnit.unit),
 PUnit.unit)).bind
 fun r =>
 loK r (fun r => some r) fun j p =>
 br (j == (0 : Nat))
 ((br (!decide (p.snd.fst.1 = (7 : Int))) (some (true, PUnit.unit))
 (p.snd.fst.snd.snd.snd.snd.snd.snd.snd.snd.1[(0 : Nat)]?.bind fun y =>
 br (CVal.fits true (9 : Nat) y)
 ((y.cell (0 : Nat)).bind fun c =>
 (CVal.asInt IntKind.i64 c).bind fun n =>
 some (decide (n = (4 : Int)), PUnit.unit))
 none)).bind
 fun y => some (CVal.bool y.1, []))
 none)))
 none
theorem eq_s_l2One (C : CallT) (L : LoopT) (a0 : Int) (a1 : Int) (a2 : List UInt8) (a3 : List UInt8) (a40 : Int) (a41 : Int) (a42 : List CVal) (a5 : List CVal) (a6 : List CVal) : evF E N C L f_s_l2One [AVal.v
 (CVal.agg
 [CVal.int IntKind.i64 a0, CVal.int IntKind.i64 a1, CVal.str a2, CVal.str a3, CVal.int IntKind.i64 a40,
 CVal.int IntKind.i64 a41, CVal.sl a42, CVal.sl a5, CVal.sl a6])] [] = nf_s_l2One C L a0 a1 a2 a3 a40 a41 a42 a5 a6 := by kernel_rfl
theorem go_s_l2One (a0 : Int) (a1 : Int) (a2 : List UInt8) (a3 : List UInt8) (a40 : Int) (a41 : Int) (a42 : List CVal) (a5 : List CVal) (a6 : List CVal) (R : Ret) (h : nf_s_l2One CC LL a0 a1 a2 a3 a40 a41 a42 a5 a6 = some R) : CC f_s_l2One [AVal.v
 (CVal.agg
 [CVal.int IntKind.i64 a0, CVal.int IntKind.i64 a1, CVal.str a2, CVal.str a3, CVal.int IntKind.i64 a40,
 CVal.int IntKind.i64 a41, CVal.sl a42, CVal.sl a5, CVal.sl a6])] [] = some R := fnW (by decide) rfl ((eq_s_l2One CC LL a0 a1 a2 a3 a40 a41 a42 a5 a6).trans h)
noncomputable def nf_s_l2Name (C : CallT) (L : LoopT) (a : List UInt8) (b : Bool) : Option Ret :=
 ((C f_s_l1In
 [AVal.v (CVal.int IntKind.i64 (↑a.length : Int)), AVal.v (CVal.int IntKind.i64 (1 : Int)),
 AVal.v (CVal.int IntKind.i64 (8 : Int))]
 []).bind
 fun r =>
 r.1.asBool.bind fun b =>
 br (!b) (some (true, PUnit.unit))
 (a[(0 : Nat)]?.bind fun y =>
 (C f_s_l1In
 [AVal.v (CVal.int IntKind.i64 (IntKind.i64.wrap (↑y.toNat : Int))),
 AVal.v (CVal.int IntKind.i64 (97 : Int)), AVal.v (CVal.int IntKind.i64 (122 : Int))]
 []).bind
 fun r => r.1.asBool.bind fun b => some (!b, PUnit.unit))).bind
 fun y =>
 br y.1 (some (CVal.bool false, []))
 ((L f_s_l2Name (0 : Nat) lc_s_l2Name_0 [] k_s_l2Name_0 ((a, b, (0 : Int), PUnit.unit), PUnit.unit)).bind fun r =>
 loK r (fun r => some r) fun j p => br (j == (0 : Nat)) (some (CVal.bool true, [])) none)
theorem eq_s_l2Name (C : CallT) (L : LoopT) (a : List UInt8) (b : Bool) : evF E N C L f_s_l2Name [AVal.v (CVal.str a), AVal.v (CVal.bool b)] [] = nf_s_l2Name C L a b := by kernel_rfl
theorem go_s_l2Name (a : List UInt8) (b : Bool) (R : Ret) (h : nf_s_l2Name CC LL a b = some R) : CC f_s_l2Name [AVal.v (CVal.str a), AVal.v (CVal.bool b)] [] = some R := fnW (by decide) rfl ((eq_s_l2Name CC LL a b).trans h)
noncomputable def nf_i_numberOk (C : CallT) (L : LoopT) (a : Int) (b : Int) : Option Ret :=
 br (decide (a = (1 : Int)))
 ((C f_i_in
 [AVal.v (CVal.int IntKind.i64 b), AVal.v (CVal.int IntKind.i64 (-1000000 : Int)),
 AVal.v (CVal.int IntKind.i64 (1000000 : Int))]
 []).bind
 fun r => some (r.1, []))
 (br (decide (a = (2 : Int)))
 ((C f_i_in
 [AVal.v (CVal.int IntKind.i64 b), AVal.v (CVal.int IntKind.i64 (0 : Int)),
 AVal.v (CVal.int IntKind.i64 (1 : Int))]
 []).bind
 fun r => some (r.1, []))
 (br (decide (a = (6 : Int)))
 ((C f_i_in
 [AVal.v (CVal.int IntKind.i64 b), AVal.v (CVal.int IntKind.i64 (0 : Int)),
 AVal.v (CVal.int IntKind.i64 (2 : Int))]
 []).bind
 fun r => some (r.1, []))
 (br (decide (a = (7 : Int)))
 ((C f_i_in
 [AVal.v (CVal.int IntKind.i64 b), AVal.v (CVal.int IntKind.i64 (0 : Int)),
 AVal.v (CVal.int IntKind.i64 (2 : Int))]
 []).bind
 fun r => some (r.1, []))
 (br (decide (a = (15 : Int)))
 ((C f_i_in
 [AVal.v (CVal.int IntKind.i64 b), AVal.v (CVal.int IntKind.i64 (1 : Int)),
 AVal.v (CVal.int IntKind.i64 (5 : Int))]
 []).bind
 fun r => some (r.1, []))
 (some (CVal.bool (decide (b = (0 : Int))), []))))))
theorem eq_i_numberOk (C : CallT) (L : LoopT) (a : Int) (b : Int) : evF E N C L f_i_numberOk [AVal.v (CVal.int IntKind.i64 a), AVal.v (CVal.int IntKind.i64 b)] [] = nf_i_numberOk C L a b := by kernel_rfl
theorem go_i_numberOk (a : Int) (b : Int) (R : Ret) (h : nf_i_numberOk CC LL a b = some R) : CC f_i_numberOk [AVal.v (CVal.int IntKind.i64 a), AVal.v (CVal.int IntKind.i64 b)] [] = some R := fnW (by decide) rfl ((eq_i_numberOk CC LL a b).trans h)
noncomputable def nf_i_SameTy (C : CallT) (L : LoopT) (a0 : Int) (a1 : Int) (a2 : List CVal) (b0 : Int) (b1 : Int) (b2 : List CVal) : Option Ret :=
 (br (decide (a0 = b0))
 (br (decide (a1 = b1))
 ((C f_slices_EqualFunc_Ty [AVal.v (CVal.sl a2), AVal.v (CVal.sl b2), AVal.v (CVal.func f_i_SameTy [])] []).bind
 fun r => (bif true then r.1 else CVal.bool false).asBool.bind fun b => some (b, PUnit.unit))
 (some (false, PUnit.unit)))
 (some (false, PUnit.unit))).bind
 fun y => some (CVal.bool y.1, [])
theorem eq_i_SameTy (C : CallT) (L : LoopT) (a0 : Int) (a1 : Int) (a2 : List CVal) (b0 : Int) (b1 : Int) (b2 : List CVal) : evF E N C L f_i_SameTy [AVal.v (CVal.agg [CVal.int IntKind.i64 a0, CVal.int IntKind.i64 a1, CVal.sl a2]),
 AVal.v (CVal.agg [CVal.int IntKind.i64 b0, CVal.int IntKind.i64 b1, CVal.sl b2])] [] = nf_i_SameTy C L a0 a1 a2 b0 b1 b2 := by kernel_rfl
theorem go_i_SameTy (a0 : Int) (a1 : Int) (a2 : List CVal) (b0 : Int) (b1 : Int) (b2 : List CVal) (R : Ret) (h : nf_i_SameTy CC LL a0 a1 a2 b0 b1 b2 = some R) : CC f_i_SameTy [AVal.v (CVal.agg [CVal.int IntKind.i64 a0, CVal.int IntKind.i64 a1, CVal.sl a2]),
 AVal.v (CVal.agg [CVal.int IntKind.i64 b0, CVal.int IntKind.i64 b1, CVal.sl b2])] [] = some R := fnW (by decide) rfl ((eq_i_SameTy CC LL a0 a1 a2 b0 b1 b2).trans h)
noncomputable def nf_s_l1Look (C : CallT) (L : LoopT) (a0 : Int) (a1 : Int) (a2 : List CVal) (b : Int) (c : Int) : Option Ret :=
 (br (decide (b = (0 : Int))) (some (true, PUnit.unit))
 (br (decide ((60 : Int) < IntKind.i64.wrap (c + (1 : Int)))) (some (true, PUnit.unit))
 ((C f_s_l1Args [AVal.v (CVal.int IntKind.i64 a0)] []).bind fun r =>
 (CVal.asInt IntKind.i64 r.1).bind fun n =>
 br (!decide ((↑a2.length : Int) = n)) (some (true, PUnit.unit))
 (br (decide (a0 = (3 : Int)))
 ((C f_s_l1In
 [AVal.v (CVal.int IntKind.i64 a1), AVal.v (CVal.int IntKind.i64 (0 : Int)),
 AVal.v (CVal.int IntKind.i64 (1 : Int))]
 []).bind
 fun r =>
 r.1.asBool.bind fun b =>
 br (!b) (some (true, PUnit.unit))
 (br (!decide (a0 = (3 : Int))) (some (!decide (a1 = (0 : Int)), PUnit.unit))
 (some (false, PUnit.unit))))
 (br (!decide (a0 = (3 : Int))) (some (!decide (a1 = (0 : Int)), PUnit.unit))
 (some (false, PUnit.unit))))))).bind
 fun y =>
 br y.1 (some (CVal.bool false, [[CVal.int IntKind.i64 (IntKind.i64.wrap (c + (1 : Int)))]]))
 ((L f_s_l1Look (0 : Nat) lc_s_l1Look_0 [PSh.box [none]] k_s_l1Look_0
 ((b, PUnit.unit, PUnit.unit, (0 : Int), PUnit.unit), (IntKind.i64.wrap (c + (1 : Int)), PUnit.unit),
 (a0, a1, a2, PUnit.unit), PUnit.unit)).bind
 fun r =>
 loK r (fun r => some r) fun j p =>
 br (j == (0 : Nat)) (some (CVal.bool true, [[CVal.int IntKind.i64 p.snd.fst.1]])) none)
theorem eq_s_l1Look (C : CallT) (L : LoopT) (a0 : Int) (a1 : Int) (a2 : List CVal) (b : Int) (c : Int) : evF E N C L f_s_l1Look [AVal.v (CVal.agg [CVal.int IntKind.i64 a0, CVal.int IntKind.i64 a1, CVal.sl a2]), AVal.v (CVal.int IntKind.i64 b),
 AVal.lptr (0 : Nat) (0 : Nat)] [PB.box [AVal.v (CVal.int IntKind.i64 c)]] = nf_s_l1Look C L a0 a1 a2 b c := by kernel_rfl
theorem go_s_l1Look (a0 : Int) (a1 : Int) (a2 : List CVal) (b : Int) (c : Int) (R : Ret) (h : nf_s_l1Look CC LL a0 a1 a2 b c = some R) : CC f_s_l1Look [AVal.v (CVal.agg [CVal.int IntKind.i64 a0, CVal.int IntKind.i64 a1, CVal.sl a2]), AVal.v (CVal.int IntKind.i64 b),
 AVal.lptr (0 : Nat) (0 : Nat)] [PB.box [AVal.v (CVal.int IntKind.i64 c)]] = some R := fnW (by decide) rfl ((eq_s_l1Look CC LL a0 a1 a2 b c).trans h)
noncomputable def nf_slices_EqualFunc_Ty (C : CallT) (L : LoopT) (a : List CVal) (b : List CVal) (c : CVal) : Option Ret :=
 br (!decide ((↑a.length : Int) = (↑b.length : Int))) (some (CVal.bool false, []))
 ((L f_slices_EqualFunc_Ty (0 : Nat) lc_slices_EqualFunc_Ty_0 [] k_slices_EqualFunc_Ty_0
 ((b, c, a, (↑a.length : Int), (0 : Int), PUnit.unit), PUnit.unit)).bind
 fun r => loK r (fun r => some r) fun j p => br (j == (0 : Nat)) (some (CVal.bool true, [])) none)
theorem eq_slices_EqualFunc_Ty (C : CallT) (L : LoopT) (a : List CVal) (b : List CVal) (c : CVal) : evF E N C L f_slices_EqualFunc_Ty [AVal.v (CVal.sl a), AVal.v (CVal.sl b), AVal.v c] [] = nf_slices_EqualFunc_Ty C L a b c := by kernel_rfl
theorem go_slices_EqualFunc_Ty (a : List CVal) (b : List CVal) (c : CVal) (R : Ret) (h : nf_slices_EqualFunc_Ty CC LL a b c = some R) : CC f_slices_EqualFunc_Ty [AVal.v (CVal.sl a), AVal.v (CVal.sl b), AVal.v c] [] = some R := fnW (by decide) rfl ((eq_slices_EqualFunc_Ty CC LL a b c).trans h)
noncomputable def nl_l_eqStringS_0 (C : CallT) (L : LoopT) (x00 : List CVal) (x01 : List CVal) (x02 : Int) : Option (LO k_l_eqStringS_0.T) :=
 br (decide (x02 < (↑x00.length : Int)))
 (br (decide ((0 : Int) ≤ x02) && true)
 (x00[x02.toNat]?.bind fun y =>
 br (CVal.fits false (1 : Nat) y)
 ((y.cell (0 : Nat)).bind fun c =>
 br (decide ((0 : Int) ≤ x02) && true)
 (x01[x02.toNat]?.bind fun y =>
 br (CVal.fits false (1 : Nat) y)
 ((y.cell (0 : Nat)).bind fun c_1 =>
 c.asStr.bind fun s =>
 c_1.asStr.bind fun s_1 =>
 br (!decide (s = s_1)) (some (LO.ret (CVal.bool false, [])))
 (L f_l_eqStringS (0 : Nat) lc_l_eqStringS_0 [] k_l_eqStringS_0
 ((x00, x01, IntKind.i64.wrap (x02 + (1 : Int)), PUnit.unit), PUnit.unit)))
 none)
 none)
 none)
 none)
 (some (LO.out (0 : Nat) ((x00, x01, x02, PUnit.unit), PUnit.unit)))
theorem el_l_eqStringS_0 (C : CallT) (L : LoopT) (x00 : List CVal) (x01 : List CVal) (x02 : Int) : evL E N C L f_l_eqStringS 0 lc_l_eqStringS_0 [] k_l_eqStringS_0 ((x00, x01, x02, ()), ()) = nl_l_eqStringS_0 C L x00 x01 x02 := by kernel_rfl
theorem gl_l_eqStringS_0 (x00 : List CVal) (x01 : List CVal) (x02 : Int) (R : LO k_l_eqStringS_0.T) (h : nl_l_eqStringS_0 CC LL x00 x01 x02 = some R) : LL f_l_eqStringS 0 lc_l_eqStringS_0 [] k_l_eqStringS_0 ((x00, x01, x02, ()), ()) = some R := loopW ((el_l_eqStringS_0 CC LL x00 x01 x02).trans h)
noncomputable def nl_l_szTermS_0 (C : CallT) (L : LoopT) (x00 : List CVal) (x01 : Int) (x02 : Int) : Option (LO k_l_szTermS_0.T) :=
 br (decide (x02 < (↑x00.length : Int)))
 (br (decide ((0 : Int) ≤ x02) && true)
 (x00[x02.toNat]?.bind fun y =>
 br (CVal.fits true (9 : Nat) y)
 ((y.sub (0 : Nat) (9 : Nat)).bind fun y =>
 (C f_l_szTerm [AVal.v y, AVal.v (CVal.int IntKind.i64 x01)] []).bind fun r =>
 (CVal.asInt IntKind.i64 r.1).bind fun n =>
 br (decide (n < (0 : Int))) (some (LO.ret (CVal.int IntKind.i64 (-1 : Int), [])))
 ((CVal.asInt IntKind.i64 r.1).bind fun n =>
 L f_l_szTermS (0 : Nat) lc_l_szTermS_0 [] k_l_szTermS_0
 ((x00, n, IntKind.i64.wrap (x02 + (1 : Int)), PUnit.unit), PUnit.unit)))
 none)
 none)
 (some (LO.out (0 : Nat) ((x00, x01, x02, PUnit.unit), PUnit.unit)))
theorem el_l_szTermS_0 (C : CallT) (L : LoopT) (x00 : List CVal) (x01 : Int) (x02 : Int) : evL E N C L f_l_szTermS 0 lc_l_szTermS_0 [] k_l_szTermS_0 ((x00, x01, x02, ()), ()) = nl_l_szTermS_0 C L x00 x01 x02 := by kernel_rfl
theorem gl_l_szTermS_0 (x00 : List CVal) (x01 : Int) (x02 : Int) (R : LO k_l_szTermS_0.T) (h : nl_l_szTermS_0 CC LL x00 x01 x02 = some R) : LL f_l_szTermS 0 lc_l_szTermS_0 [] k_l_szTermS_0 ((x00, x01, x02, ()), ()) = some R := loopW ((el_l_szTermS_0 CC LL x00 x01 x02).trans h)
noncomputable def nl_i_bindersIn_0 (C : CallT) (L : LoopT) (x01 : List CVal) (x02 : Int) (x03 : Int) (x1 : List CVal) : Option (LO k_i_bindersIn_0.T) :=
 br (decide (x03 < x02))
 (br (decide ((0 : Int) ≤ x03) && true)
 (x01[x03.toNat]?.bind fun y =>
 br (CVal.fits true (9 : Nat) y)
 ((y.sub (0 : Nat) (9 : Nat)).bind fun y =>
 br (CVal.isAggN (9 : Nat) y)
 ((y.cell (0 : Nat)).bind fun c =>
 (y.cell (1 : Nat)).bind fun c_1 =>
 (y.cell (2 : Nat)).bind fun c_2 =>
 (y.cell (3 : Nat)).bind fun c_3 =>
 (y.cell (4 : Nat)).bind fun c_4 =>
 (y.cell (5 : Nat)).bind fun c_5 =>
 (y.cell (6 : Nat)).bind fun c_6 =>
 (y.cell (7 : Nat)).bind fun c_7 =>
 (y.cell (8 : Nat)).bind fun c_8 =>
 (C f_i_bindersIn
 [AVal.v (CVal.agg [c, c_1, c_2, c_3, c_4, c_5, c_6, c_7, c_8]),
 AVal.lref (0 : Nat) (0 : Nat)]
 [PB.arr (Md.mk true false (0 : Nat)) false (1 : Nat) x1]).bind
 fun r =>
 r.2[(0 : Nat)]?.bind fun y =>
 L f_i_bindersIn (0 : Nat) lc_i_bindersIn_0
 [PSh.arr (Md.mk true false (0 : Nat)) false (1 : Nat)] k_i_bindersIn_0
 ((PUnit.unit, x01, x02, IntKind.i64.wrap (x03 + (1 : Int)), PUnit.unit), y,
 PUnit.unit))
 none)
 none)
 none)
 (some (LO.out (0 : Nat) ((PUnit.unit, x01, x02, x03, PUnit.unit), x1, PUnit.unit)))
theorem el_i_bindersIn_0 (C : CallT) (L : LoopT) (x01 : List CVal) (x02 : Int) (x03 : Int) (x1 : List CVal) : evL E N C L f_i_bindersIn 0 lc_i_bindersIn_0 [PSh.arr (Md.mk true false (0 : Nat)) false (1 : Nat)] k_i_bindersIn_0 (((), x01, x02, x03, ()), x1, ()) = nl_i_bindersIn_0 C L x01 x02 x03 x1 := by kernel_rfl
theorem gl_i_bindersIn_0 (x01 : List CVal) (x02 : Int) (x03 : Int) (x1 : List CVal) (R : LO k_i_bindersIn_0.T) (h : nl_i_bindersIn_0 CC LL x01 x02 x03 x1 = some R) : LL f_i_bindersIn 0 lc_i_bindersIn_0 [PSh.arr (Md.mk true false (0 : Nat)) false (1 : Nat)] k_i_bindersIn_0 (((), x01, x02, x03, ()), x1, ()) = some R := loopW ((el_i_bindersIn_0 CC LL x01 x02 x03 x1).trans h)
noncomputable def nl_l_markTermS_0 (C : CallT) (L : LoopT) (x01 : Int) (x02 : Int) (x1 : List CVal) : Option (LO k_l_markTermS_0.T) :=
 br (decide (x02 < (↑x1.length : Int)))
 (br (decide ((0 : Int) ≤ x02) && true)
 (br (decide (x02.toNat < x1.length) && true)
 (x1[x02.toNat]?.bind fun y =>
 br (CVal.fits false (1 : Nat) y)
 (br (decide ((0 : Int) ≤ x02) && true)
 (br (decide (x02.toNat < (x1.set x02.toNat (CVal.int IntKind.i64 x01)).length) && true)
 ((x1.set x02.toNat (CVal.int IntKind.i64 x01))[x02.toNat]?.bind fun y =>
 br (y.isAgg && decide ((2 : Nat) ≤ y.cells.length))
 ((C f_l_markText
 [AVal.v
 (CVal.int IntKind.i64 (IntKind.i64.wrap (IntKind.i64.wrap (x01 + (1 : Int)) + (1 : Int))))]
 []).bind
 fun r =>
 br (decide ((0 : Int) ≤ x02) && true)
 (br
 (decide
 (x02.toNat <
 ((x1.set x02.toNat (CVal.int IntKind.i64 x01)).set x02.toNat
 (CVal.agg
 (splice y.cells (1 : Nat)
 [CVal.int IntKind.i64 (IntKind.i64.wrap (x01 + (1 : Int)))]))).length) &&
 true)
 (br (r.1.isFlat && true)
 (r.1.asStr.bind fun s =>
 ((x1.set x02.toNat (CVal.int IntKind.i64 x01)).set x02.toNat
 (CVal.agg
 (splice y.cells (1 : Nat)
 [CVal.int IntKind.i64 (IntKind.i64.wrap (x01 + (1 : Int)))])))[x02.toNat]?.bind
 fun y_1 =>
 br (y_1.isAgg && decide ((3 : Nat) ≤ y_1.cells.length))
 ((C f_l_markText
 [AVal.v
 (CVal.int IntKind.i64
 (IntKind.i64.wrap
 (IntKind.i64.wrap (IntKind.i64.wrap (x01 + (1 : Int)) + (1 : Int)) +
 (1 : Int))))]
 []).bind
 fun r =>
 br (decide ((0 : Int) ≤ x02) && true)
 (br
 (decide
 (x02.toNat <
 (((x1.set x02.toNat (CVal.int IntKind.i64 x01)).set x02.toNat
 (CVal.agg
 (splice y.cells (1 : Nat)
 [CVal.int IntKind.i64
 (IntKind.i64.wrap (x01 + (1 : Int)))]))).set
 x02.toNat
 (CVal.agg (splice y_1.cells (2 : Nat) [CVal.str s]))).length) &&
 true)
 (br (r.1.isFlat && true)
 (r.1.asStr.bind fun s_1 =>
 (((x1.set x02.toNat (CVal.int IntKind.i64 x01)).set x02.toNat
 (CVal.agg
 (splice y.cells (1 : Nat)
 [CVal.int IntKind.i64
 (IntKind.i64.wrap (x01 + (1 : Int)))]))).set
 x02.toNat
 (CVal.agg (splice y_1.cells (2 : Nat) [CVal.str s])))[x02.toNat]?.bind
 fun y_2 =>
 br (y_2.isAgg && decide ((4 : Nat) ≤ y_2.cells.length))
 (br (decide ((0 : Int) ≤ x02) && true)
 (br
 (decide
 (x02.toNat <
 ((((x1.set x02.toNat (CVal.int IntKind.i64 x01)).set x02.toNat
 (CVal.agg
 (splice y.cells (1 : Nat)
 [CVal.int IntKind.i64
 (IntKind.i64.wrap (x01 + (1 : Int)))]))).set
 x02.toNat
 (CVal.agg
 (splice y_1.cells (2 : Nat) [CVal.str s]))).set
 x02.toNat
 (CVal.agg
 (splice y_2.cells (3 : Nat) [CVal.str s_1]))).length) &&
 true)
 (((((x1.set x02.toNat (CVal.int IntKind.i64 x01)).set x02.toNat
 (CVal.agg
 (splice y.cells (1 : Nat)
 [CVal.int IntKind.i64
 (IntKind.i64.wrap (x01 + (1 : Int)))]))).set
 x02.toNat
 (CVal.agg (splice y_1.cells (2 : Nat) [CVal.str s]))).set
 x02.toNat
 (CVal.agg
 (splice y_2.cells (3 : Nat)
 [CVal.str s_1])))[x02.toNat]?.bind
 fun y_3 =>
 br (y_3.isAgg && decide ((5 : Nat) ≤ y_3.cells.length))
 (br (decide ((0 : Int) ≤ x02) && true)
 (br
 (decide
 (x02.toNat <
 (((((x1.set x02.toNat (CVal.int IntKind.i64 x01)).set
 x02.toNat
 (CVal.agg
 (splice y.cells (1 : Nat)
 [CVal.int IntKind.i64
 (IntKind.i64.wrap
 (x01 + (1 : Int)))]))).set
 x02.toNat
 (CVal.agg
 (splice y_1.cells (2 : Nat)
 [CVal.str s]))).set
 x02.toNat
 (CVal.agg
 (splice y_2.cells (3 : Nat)
 [CVal.str s_1]))).set
 x02.toNat
 (CVal.agg
 (splice y_3.cells (4 : Nat)
 [CVal.int IntKind.i64
 (IntKind.i64.wrap
 (IntKind.i64.wrap
 (IntKind.i64.wrap
 (IntKind.i64.wrap
 (x01 + (1 : Int)) +
 (1 : Int)) +
 (1 : Int)) +
 (1 : Int)))]))).length) &&
 true)
 ((((((x1.set x02.toNat (CVal.int IntKind.i64 x01)).set
 x02.toNat
 (CVal.agg
 (splice y.cells (1 : Nat)
 [CVal.int IntKind.i64
 (IntKind.i64.wrap
 (x01 + (1 : Int)))]))).set
 x02.toNat
 (CVal.agg
 (splice y_1.cells (2 : Nat)
 [CVal.str s]))).set
 x02.toNat
 (CVal.agg
 (splice y_2.cells (3 : Nat)
 [CVal.str s_1]))).set
 x02.toNat
 (CVal.agg
 (splice y_3.cells (4 : Nat)
 [CVal.int IntKind.i64
 (IntKind.i64.wrap
 (IntKind.i64.wrap
 (IntKind.i64.wrap
 (IntKind.i64.wrap
 (x01 + (1 : Int)) +
 (1 : Int)) +
 (1 : Int)) +
 (1 : Int)))])))[x02.toNat]?.bind
 fun y_4 =>
 br (y_4.isAgg && decide ((6 : Nat) ≤ y_4.cells.length))
 (br (decide ((0 : Int) ≤ x02) && true)
 (br
 (decide
 (x02.toNat <
 ((((((x1.set x02.toNat
 (CVal.int IntKind.i64
 x01)).set
 x02.toNat
 (CVal.agg
 (splice y.cells (1 : Nat)
 [CVal.int IntKind.i64
 (IntKind.i64.wrap
 (x01 +
 (1 :
 Int)))]))).set
 x02.toNat
 (CVal.agg
 (splice y_1.cells (2 : Nat)
 [CVal.str s]))).set
 x02.toNat
 (CVal.agg
 (splice y_2.cells (3 : Nat)
 [CVal.str s_1]))).set
 x02.toNat
 (CVal.agg
 (splice y_3.cells (4 : Nat)
 [CVal.int IntKind.i64
 (IntKind.i64.wrap
 (IntKind.i64.wrap
 (IntKind.i64.wrap
 (IntKind.i64.wrap
 (x01 +
 (1 : Int)) +
 (1 : Int)) +
 (1 : Int)) +
 (1 : Int)))]))).set
 x02.toNat
 (CVal.agg
 (splice y_4.cells (5 : Nat)
 [CVal.int IntKind.i64
 (IntKind.i64.wrap
 (IntKind.i64.wrap
 (IntKind.i64.wrap
 (IntKind.i64.wrap
 (IntKind.i64.wrap
 (x01 +
 (1 : Int)) +
 (1 : Int)) +
 (1 : Int)) +
 (1 : Int)) +
 (1 : Int)))]))).length) &&
 true)
 (((((((x1.set x02.toNat
 (CVal.int IntKind.i64
 x01)).set
 x02.toNat
 (CVal.agg
 (splice y.cells (1 : Nat)
 [CVal.int IntKind.i64
 (IntKind.i64.wrap
 (x01 +
 (1 :
 Int)))]))).set
 x02.toNat
 (CVal.agg
 (splice y_1.cells (2 : Nat)
 [CVal.str s]))).set
 x02.toNat
 (CVal.agg
 (splice y_2.cells (3 : Nat)
 [CVal.str s_1]))).set
 x02.toNat
 (CVal.agg
 (splice y_3.cells (4 : Nat)
 [CVal.int IntKind.i64
 (IntKind.i64.wrap
 (IntKind.i64.wrap
 (IntKind.i64.wrap
 (IntKind.i64.wrap
 (x01 + (1 : Int)) +
 (1 : Int)) +
 (1 : Int)) +
 (1 : Int)))]))).set
 x02.toNat
 (CVal.agg
 (splice y_4.cells (5 : Nat)
 [CVal.int IntKind.i64
 (IntKind.i64.wrap
 (IntKind.i64.wrap
 (IntKind.i64.wrap
 (IntKind.i64.wrap
 (IntKind.i64.wrap
 (x01 + (1 : Int)) +
 (1 : Int)) +
 (1 : Int)) +
 (1 : Int)) +
 (1 : Int)))])))[x02.toNat]?.bind
 fun y_5 =>
 (y_5.cell (6 : Nat)).bind fun c =>
 c.asSl.bind fun xs =>
 ((((((x1.set x02.toNat
 (CVal.int
 IntKind.i64
 x01)).set
 x02.toNat
 (CVal.agg
 (splice y.cells
 (1 : Nat)
 [CVal.int
 IntKind.i64
 (IntKind.i64.wrap
 (x01 +
 (1 :
 Int)))]))).set
 x02.toNat
 (CVal.agg
 (splice y_1.cells
 (2 : Nat)
 [CVal.str s]))).set
 x02.toNat
 (CVal.agg
 (splice y_2.cells (3 : Nat)
 [CVal.str s_1]))).set
 x02.toNat
 (CVal.agg
 (splice y_3.cells (4 : Nat)
 [CVal.int IntKind.i64
 (IntKind.i64.wrap
 (IntKind.i64.wrap
 (IntKind.i64.wrap
 (IntKind.i64.wrap
 (x01 +
 (1 : Int)) +
 (1 : Int)) +
 (1 : Int)) +
 (1 : Int)))]))).set
 x02.toNat
 (CVal.agg
 (splice y_4.cells (5 : Nat)
 [CVal.int IntKind.i64
 (IntKind.i64.wrap
 (IntKind.i64.wrap
 (IntKind.i64.wrap
 (IntKind.i64.wrap
 (IntKind.i64.wrap
 (x01 +
 (1 : Int)) +
 (1 : Int)) +
 (1 : Int)) +
 (1 : Int)) +
 (1 :
 Int)))])))[x02.toNat]?.bind
 fun y_6 =>
 (y_6.cell (6 : Nat)).bind fun c =>
 c.asSl.bind fun xs =>
 br (xs.all (CVal.fits true (3 : Nat)))
 ((C f_l_markTyS
 [AVal.lref (0 : Nat) (0 : Nat),
 AVal.v
 (CVal.int IntKind.i64
 (IntKind.i64.wrap
 (IntKind.i64.wrap
 (IntKind.i64.wrap
 (IntKind.i64.wrap
 (IntKind.i64.wrap
 (IntKind.i64.wrap
 (x01 +
 (1 :
 Int)) +
 (1 :
 Int)) +
 (1 : Int)) +
 (1 : Int)) +
 (1 : Int)) +
 (1 : Int))))]
 [PB.arr
 (Md.mk true true (0 : Nat))
 false (3 : Nat) xs]).bind
 fun r =>
 r.2[(0 : Nat)]?.bind fun y_7 =>
 br
 (decide ((0 : Int) ≤ x02) && true)
 (br
 (decide
 (x02.toNat <
 (((((((x1.set x02.toNat
 (CVal.int
 IntKind.i64
 x01)).set
 x02.toNat
 (CVal.agg
 (splice
 y.cells
 (1 :
 Nat)
 [CVal.int
 IntKind.i64
 (IntKind.i64.wrap
 (x01 +
 (1 :
 Int)))]))).set
 x02.toNat
 (CVal.agg
 (splice
 y_1.cells
 (2 :
 Nat)
 [CVal.str
 s]))).set
 x02.toNat
 (CVal.agg
 (splice
 y_2.cells
 (3 :
 Nat)
 [CVal.str
 s_1]))).set
 x02.toNat
 (CVal.agg
 (splice
 y_3.cells
 (4 : Nat)
 [CVal.int
 IntKind.i64
 (IntKind.i64.wrap
 (IntKind.i64.wrap
 (IntKind.i64.wrap
 (IntKind.i64.wrap
 (x01 +
 (1 :
 Int)) +
 (1 :
 Int)) +
 (1 :
 Int)) +
 (1 :
 Int)))]))).set
 x02.toNat
 (CVal.agg
 (splice
 y_4.cells
 (5 : Nat)
 [CVal.int
 IntKind.i64
 (IntKind.i64.wrap
 (IntKind.i64.wrap
 (IntKind.i64.wrap
 (IntKind.i64.wrap
 (IntKind.i64.wrap
 (x01 +
 (1 :
 Int)) +
 (1 :
 Int)) +
 (1 :
 Int)) +
 (1 :
 Int)) +
 (1 :
 Int)))]))).set
 x02.toNat
 (y_6.putCell (6 : Nat)
 (CVal.sl
 y_7))).length) &&
 true)
 ((((((((x1.set x02.toNat
 (CVal.int
 IntKind.i64
 x01)).set
 x02.toNat
 (CVal.agg
 (splice
 y.cells
 (1 :
 Nat)
 [CVal.int
 IntKind.i64
 (IntKind.i64.wrap
 (x01 +
 (1 :
 Int)))]))).set
 x02.toNat
 (CVal.agg
 (splice
 y_1.cells
 (2 :
 Nat)
 [CVal.str
 s]))).set
 x02.toNat
 (CVal.agg
 (splice
 y_2.cells
 (3 :
 Nat)
 [CVal.str
 s_1]))).set
 x02.toNat
 (CVal.agg
 (splice
 y_3.cells
 (4 : Nat)
 [CVal.int
 IntKind.i64
 (IntKind.i64.wrap
 (IntKind.i64.wrap
 (IntKind.i64.wrap
 (IntKind.i64.wrap
 (x01 +
 (1 :
 Int)) +
 (1 :
 Int)) +
 (1 :
 Int)) +
 (1 :
 Int)))]))).set
 x02.toNat
 (CVal.agg
 (splice y_4.cells
 (5 : Nat)
 [CVal.int
 IntKind.i64
 (IntKind.i64.wrap
 (IntKind.i64.wrap
 (IntKind.i64.wrap
 (IntKind.i64.wrap
 (IntKind.i64.wrap
 (x01 +
 (1 :
 Int)) +
 (1 :
 Int)) +
 (1 :
 Int)) +
 (1 :
 Int)) +
 (1 :
 Int)))]))).set
 x02.toNat
 (y_6.putCell (6 : Nat)
 (CVal.sl
 y_7)))[x02.toNat]?.bind
 fun y_8 =>
 (y_8.cell (7 : Nat)).bind
 fun c =>
 c.asSl.bind fun xs =>
 (((((((x1.set x02.toNat
 (CVal.int
 IntKind.i64
 x01)).set
 x02.toNat
 (CVal.agg
 (splice
 y.cells
 (1 :
 Nat)
 [CVal.int
 IntKind.i64
 (IntKind.i64.wrap
 (x01 +
 (1 :
 Int)))]))).set
 x02.toNat
 (CVal.agg
 (splice
 y_1.cells
 (2 :
 Nat)
 [CVal.str
 s]))).set
 x02.toNat
 (CVal.agg
 (splice
 y_2.cells
 (3 :
 Nat)
 [CVal.str
 s_1]))).set
 x02.toNat
 (CVal.agg
 (splice
 y_3.cells
 (4 :
 Nat)
 [CVal.int
 IntKind.i64
 (IntKind.i64.wrap
 (IntKind.i64.wrap
 (IntKind.i64.wrap
 (IntKind.i64.wrap
 (x01 +
 (1 :
 Int)) +
 (1 :
 Int)) +
 (1 :
 Int)) +
 (1 :
 Int)))]))).set
 x02.toNat
 (CVal.agg
 (splice
 y_4.cells
 (5 : Nat)
 [CVal.int
 IntKind.i64
 (IntKind.i64.wrap
 (IntKind.i64.wrap
 (IntKind.i64.wrap
 (IntKind.i64.wrap
 (IntKind.i64.wrap
 (x01 +
 (1 :
 Int)) +
 (1 :
 Int)) +
 (1 :
 Int)) +
 (1 :
 Int)) +
 (1 :
 Int)))]))).set
 x02.toNat
 (y_6.putCell
 (6 : Nat)
 (CVal.sl
 y_7)))[x02.toNat]?.bind
 fun y_9 =>
 (y_9.cell
 (7 : Nat)).bind
 fun c =>
 c.asSl.bind fun xs =>
 br
 (xs.all
 (CVal.fits true
 (3 : Nat)))
 ((C f_l_markTyS
 [AVal.lref
 (0 :
 Nat)
 (0 :
 Nat),
 AVal.v
 r.1]
 [PB.arr
 (Md.mk
 true
 true
 (0 :
 Nat))
 false
 (3 :
 Nat)
 xs]).bind
 fun r =>
 r.2[(0 :
 Nat)]?.bind
 fun y_10 =>
 br
 (decide
 ((0 :
 Int) ≤
 x02) &&
 true)
 (br
 (decide
 (x02.toNat <
 ((((((((x1.set
 x02.toNat
 (CVal.int
 IntKind.i64
 x01)).set
 x02.toNat
 (CVal.agg
 (splice
 y.cells
 (1 :
 Nat)
 [CVal.int
 IntKind.i64
 (IntKind.i64.wrap
 (x01 +
 (1 :
 Int)))]))).set
 x02.toNat
 (CVal.agg
 (splice
 y_1.cells
 (2 :
 Nat)
 [CVal.str
 s]))).set
 x02.toNat
 (CVal.agg
 (splice
 y_2.cells
 (3 :
 Nat)
 [CVal.str
 s_1]))).set
 x02.toNat
 (CVal.agg
 (splice
 y_3.cells
 (4 :
 Nat)
 [CVal.int
 IntKind.i64
 (IntKind.i64.wrap
 (IntKind.i64.wrap
 (IntKind.i64.wrap
 (IntKind.i64.wrap
 (x01 +
 (1 :
 Int)) +
 (1 :
 Int)) +
 (1 :
 Int)) +
 (1 :
 Int)))]))).set
 x02.toNat
 (CVal.agg
 (splice
 y_4.cells
 (5 :
 Nat)
 [CVal.int
 IntKind.i64
 (IntKind.i64.wrap
 (IntKind.i64.wrap
 (IntKind.i64.wrap
 (IntKind.i64.wrap
 (IntKind.i64.wrap
 (x01 +
 (1 :
 Int)) +
 (1 :
 Int)) +
 (1 :
 Int)) +
 (1 :
 Int)) +
 (1 :
 Int)))]))).set
 x02.toNat
 (y_6.putCell
 (6 :
 Nat)
 (CVal.sl
 y_7))).set
 x02.toNat
 (y_9.putCell
 (7 :
 Nat)
 (CVal.sl
 y_10))).length) &&
 true)
 (((((((((x1.set
 x02.toNat
 (CVal.int
 IntKind.i64
 x01)).set
 x02.toNat
 (CVal.agg
 (splice
 y.cells
 (1 :
 Nat)
 [CVal.int
 IntKind.i64
 (IntKind.i64.wrap
 (x01 +
 (1 :
 Int)))]))).set
 x02.toNat
 (CVal.agg
 (splice
 y_1.cells
 (2 :
 Nat)
 [CVal.str
 s]))).set
 x02.toNat
 (CVal.agg
 (splice
 y_2.cells
 (3 :
 Nat)
 [CVal.str
 s_1]))).set
 x02.toNat
 (CVal.agg
 (splice
 y_3.cells
 (4 :
 Nat)
 [CVal.int
 IntKind.i64
 (IntKind.i64.wrap
 (IntKind.i64.wrap
 (IntKind.i64.wrap
 (IntKind.i64.wrap
 (x01 +
 (1 :
 Int)) +
 (1 :
 Int)) +
 (1 :
 Int)) +
 (1 :
 Int)))]))).set
 x02.toNat
 (CVal.agg
 (splice
 y_4.cells
 (5 :
 Nat)
 [CVal.int
 IntKind.i64
 (IntKind.i64.wrap
 (IntKind.i64.wrap
 (IntKind.i64.wrap
 (IntKind.i64.wrap
 (IntKind.i64.wrap
 (x01 +
 (1 :
 Int)) +
 (1 :
 Int)) +
 (1 :
 Int)) +
 (1 :
 Int)) +
 (1 :
 Int)))]))).set
 x02.toNat
 (y_6.putCell
 (6 :
 Nat)
 (CVal.sl
 y_7))).set
 x02.toNat
 (y_9.putCell
 (7 :
 Nat)
 (CVal.sl
 y_10)))[x02.toNat]?.bind
 fun
 y_11 =>
 (y_11.cell
 (8 :
 Nat)).bind
 fun
 c =>
 c.asSl.bind
 fun
 xs =>
 ((((((((x1.set
 x02.toNat
 (CVal.int
 IntKind.i64
 x01)).set
 x02.toNat
 (CVal.agg
 (splice
 y.cells
 (1 :
 Nat)
 [CVal.int
 IntKind.i64
 (IntKind.i64.wrap
 (x01 +
 (1 :
 Int)))]))).set
 x02.toNat
 (CVal.agg
 (splice
 y_1.cells
 (2 :
 Nat)
 [CVal.str
 s]))).set
 x02.toNat
 (CVal.agg
 (splice
 y_2.cells
 (3 :
 Nat)
 [CVal.str
 s_1]))).set
 x02.toNat
 (CVal.agg
 (splice
 y_3.cells
 (4 :
 Nat)
 [CVal.int
 IntKind.i64
 (IntKind.i64.wrap
 (IntKind.i64.wrap
 (IntKind.i64.wrap
 (IntKind.i64.wrap
 (x01 +
 (1 :
 Int)) +
 (1 :
 Int)) +
 (1 :
 Int)) +
 (1 :
 Int)))]))).set
 x02.toNat
 (CVal.agg
 (splice
 y_4.cells
 (5 :
 Nat)
 [CVal.int
 IntKind.i64
 (IntKind.i64.wrap
 (IntKind.i64.wrap
 (IntKind.i64.wrap
 (IntKind.i64.wrap
 (IntKind.i64.wrap
 (x01 +
 (1 :
 Int)) +
 (1 :
 Int)) +
 (1 :
 Int)) +
 (1 :
 Int)) +
 (1 :
 Int)))]))).set
 x02.toNat
 (y_6.putCell
 (6 :
 Nat)
 (CVal.sl
 y_7))).set
 x02.toNat
 (y_9.putCell
 (7 :
 Nat)
 (CVal.sl
 y_10)))[x02.toNat]?.bind
 fun
 y_12 =>
 (y_12.cell
 (8 :
 Nat)).bind
 fun
 c =>
 c.asSl.bind
 fun
 xs =>
 br
 (xs.all
 (CVal.fits
 true
 (9 :
 Nat)))
 ((C
 f_l_markTermS
 [AVal.lref
 (0 :
 Nat)
 (0 :
 Nat),
 AVal.v
 r.1]
 [PB.arr
 (Md.mk
 true
 true
 (0 :
 Nat))
 false
 (9 :
 Nat)
 xs]).bind
 fun
 r =>
 r.2[(0 :
 Nat)]?.bind
 fun
 y_13 =>
 (CVal.asInt
 IntKind.i64
 r.1).bind
 fun
 n =>
 L
 f_l_markTermS
 (0 :
 Nat)
 lc_l_markTermS_0
 [PSh.arr
 (Md.mk
 true
 true
 (0 :
 Nat))
 false
 (9 :
 Nat)]
 k_l_markTermS_0
 ((PUnit.unit,
 n,
 IntKind.i64.wrap
 (x02 +
 (1 :
 Int)),
 PUnit.unit),
 ((((((((x1.set
 x02.toNat
 (CVal.int
 IntKind.i64
 x01)).set
 x02.toNat
 (CVal.agg
 (splice
 y.cells
 (1 :
 Nat)
 [CVal.int
 IntKind.i64
 (IntKind.i64.wrap
 (x01 +
 (1 :
 Int)))]))).set
 x02.toNat
 (CVal.agg
 (splice
 y_1.cells
 (2 :
 Nat)
 [CVal.str
 s]))).set
 x02.toNat
 (CVal.agg
 (splice
 y_2.cells
 (3 :
 Nat)
 [CVal.str
 s_1]))).set
 x02.toNat
 (CVal.agg
 (splice
 y_3.cells
 (4 :
 Nat)
 [CVal.int
 IntKind.i64
 (IntKind.i64.wrap
 (IntKind.i64.wrap
 (IntKind.i64.wrap
 (IntKind.i64.wrap
 (x01 +
 (1 :
 Int)) +
 (1 :
 Int)) +
 (1 :
 Int)) +
 (1 :
 Int)))]))).set
 x02.toNat
 (CVal.agg
 (splice
 y_4.cells
 (5 :
 Nat)
 [CVal.int
 IntKind.i64
 (IntKind.i64.wrap
 (IntKind.i64.wrap
 (IntKind.i64.wrap
 (IntKind.i64.wrap
 (IntKind.i64.wrap
 (x01 +
 (1 :
 Int)) +
 (1 :
 Int)) +
 (1 :
 Int)) +
 (1 :
 Int)) +
 (1 :
 Int)))]))).set
 x02.toNat
 (y_6.putCell
 (6 :
 Nat)
 (CVal.sl
 y_7))).set
 x02.toNat
 (y_9.putCell
 (7 :
 Nat)
 (CVal.sl
 y_10))).set
 x02.toNat
 (y_12.putCell
 (8 :
 Nat)
 (CVal.sl
 y_13)),
 PUnit.unit))
 none)
 none)
 none)
 none)
 none)
 none)
 none)
 none)
 none)
 none)
 none)
 none)
 none)
 none)
 none)
 none)
 none)
 none)
 none)
 none)
 none)
 none)
 none)
 none)
 none)
 none)
 (br (y.isAgg && decide ((1 : Nat) ≤ y.cells.length))
 (br (decide ((0 : Int) ≤ x02) && true)
 (br
 (decide
 (x02.toNat <
 (x1.set x02.toNat (CVal.agg (CVal.int IntKind.i64 x01 :: List.drop (1 : Nat) y.cells))).length) &&
 true)
 ((x1.set x02.toNat
 (CVal.agg (CVal.int IntKind.i64 x01 :: List.drop (1 : Nat) y.cells)))[x02.toNat]?.bind
 fun y_1 =>
 br (y_1.isAgg && decide ((2 : Nat) ≤ y_1.cells.length))
 ((C f_l_markText
 [AVal.v
 (CVal.int IntKind.i64
 (IntKind.i64.wrap (IntKind.i64.wrap (x01 + (1 : Int)) + (1 : Int))))]
 []).bind
 fun r =>
 br (decide ((0 : Int) ≤ x02) && true)
 (br
 (decide
 (x02.toNat <
 ((x1.set x02.toNat
 (CVal.agg (CVal.int IntKind.i64 x01 :: List.drop (1 : Nat) y.cells))).set
 x02.toNat
 (CVal.agg
 (splice y_1.cells (1 : Nat)
 [CVal.int IntKind.i64 (IntKind.i64.wrap (x01 + (1 : Int)))]))).length) &&
 true)
 (br (r.1.isFlat && true)
 (r.1.asStr.bind fun s =>
 ((x1.set x02.toNat
 (CVal.agg (CVal.int IntKind.i64 x01 :: List.drop (1 : Nat) y.cells))).set
 x02.toNat
 (CVal.agg
 (splice y_1.cells (1 : Nat)
 [CVal.int IntKind.i64
 (IntKind.i64.wrap (x01 + (1 : Int)))])))[x02.toNat]?.bind
 fun y_2 =>
 br (y_2.isAgg && decide ((3 : Nat) ≤ y_2.cells.length))
 ((C f_l_markText
 [AVal.v
 (CVal.int IntKind.i64
 (IntKind.i64.wrap
 (IntKind.i64.wrap (IntKind.i64.wrap (x01 + (1 : Int)) + (1 : Int)) +
 (1 : Int))))]
 []).bind
 fun r =>
 br (decide ((0 : Int) ≤ x02) && true)
 (br
 (decide
 (x02.toNat <
 (((x1.set x02.toNat
 (CVal.agg
 (CVal.int IntKind.i64 x01 ::
 List.drop (1 : Nat) y.cells))).set
 x02.toNat
 (CVal.agg
 (splice y_1.cells (1 : Nat)
 [CVal.int IntKind.i64
 (IntKind.i64.wrap (x01 + (1 : Int)))]))).set
 x02.toNat
 (CVal.agg (splice y_2.cells (2 : Nat) [CVal.str s]))).length) &&
 true)
 (br (r.1.isFlat && true)
 (r.1.asStr.bind fun s_1 =>
 (((x1.set x02.toNat
 (CVal.agg
 (CVal.int IntKind.i64 x01 ::
 List.drop (1 : Nat) y.cells))).set
 x02.toNat
 (CVal.agg
 (splice y_1.cells (1 : Nat)
 [CVal.int IntKind.i64
 (IntKind.i64.wrap (x01 + (1 : Int)))]))).set
 x02.toNat
 (CVal.agg
 (splice y_2.cells (2 : Nat) [CVal.str s])))[x02.toNat]?.bind
 fun y_3 =>
 br (y_3.isAgg && decide ((4 : Nat) ≤ y_3.cells.length))
 (br (decide ((0 : Int) ≤ x02) && true)
 (br
 (decide
 (x02.toNat <
 ((((x1.set x02.toNat
 (CVal.agg
 (CVal.int IntKind.i64 x01 ::
 List.drop (1 : Nat) y.cells))).set
 x02.toNat
 (CVal.agg
 (splice y_1.cells (1 : Nat)
 [CVal.int IntKind.i64
 (IntKind.i64.wrap
 (x01 + (1 : Int)))]))).set
 x02.toNat
 (CVal.agg
 (splice y_2.cells (2 : Nat) [CVal.str s]))).set
 x02.toNat
 (CVal.agg
 (splice y_3.cells (3 : Nat) [CVal.str s_1]))).length) &&
 true)
 (((((x1.set x02.toNat
 (CVal.agg
 (CVal.int IntKind.i64 x01 ::
 List.drop (1 : Nat) y.cells))).set
 x02.toNat
 (CVal.agg
 (splice y_1.cells (1 : Nat)
 [CVal.int IntKind.i64
 (IntKind.i64.wrap (x01 + (1 : Int)))]))).set
 x02.toNat
 (CVal.agg
 (splice y_2.cells (2 : Nat) [CVal.str s]))).set
 x02.toNat
 (CVal.agg
 (splice y_3.cells (3 : Nat)
 [CVal.str s_1])))[x02.toNat]?.bind
 fun y_4 =>
 br (y_4.isAgg && decide ((5 : Nat) ≤ y_4.cells.length))
 (br (decide ((0 : Int) ≤ x02) && true)
 (br
 (decide
 (x02.toNat <
 (((((x1.set x02.toNat
 (CVal.agg
 (CVal.int IntKind.i64 x01 ::
 List.drop (1 : Nat)
 y.cells))).set
 x02.toNat
 (CVal.agg
 (splice y_1.cells (1 : Nat)
 [CVal.int IntKind.i64
 (IntKind.i64.wrap
 (x01 + (1 : Int)))]))).set
 x02.toNat
 (CVal.agg
 (splice y_2.cells (2 : Nat)
 [CVal.str s]))).set
 x02.toNat
 (CVal.agg
 (splice y_3.cells (3 : Nat)
 [CVal.str s_1]))).set
 x02.toNat
 (CVal.agg
 (splice y_4.cells (4 : Nat)
 [CVal.int IntKind.i64
 (IntKind.i64.wrap
 (IntKind.i64.wrap
 (IntKind.i64.wrap
 (IntKind.i64.wrap
 (x01 + (1 : Int)) +
 (1 : Int)) +
 (1 : Int)) +
 (1 : Int)))]))).length) &&
 true)
 ((((((x1.set x02.toNat
 (CVal.agg
 (CVal.int IntKind.i64 x01 ::
 List.drop (1 : Nat)
 y.cells))).set
 x02.toNat
 (CVal.agg
 (splice y_1.cells (1 : Nat)
 [CVal.int IntKind.i64
 (IntKind.i64.wrap
 (x01 + (1 : Int)))]))).set
 x02.toNat
 (CVal.agg
 (splice y_2.cells (2 : Nat)
 [CVal.str s]))).set
 x02.toNat
 (CVal.agg
 (splice y_3.cells (3 : Nat)
 [CVal.str s_1]))).set
 x02.toNat
 (CVal.agg
 (splice y_4.cells (4 : Nat)
 [CVal.int IntKind.i64
 (IntKind.i64.wrap
 (IntKind.i64.wrap
 (IntKind.i64.wrap
 (IntKind.i64.wrap
 (x01 + (1 : Int)) +
 (1 : Int)) +
 (1 : Int)) +
 (1 : Int)))])))[x02.toNat]?.bind
 fun y_5 =>
 br (y_5.isAgg && decide ((6 : Nat) ≤ y_5.cells.length))
 (br (decide ((0 : Int) ≤ x02) && true)
 (br
 (decide
 (x02.toNat <
 ((((((x1.set x02.toNat
 (CVal.agg
 (CVal.int
 IntKind.i64
 x01 ::
 List.drop
 (1 : Nat)
 y.cells))).set
 x02.toNat
 (CVal.agg
 (splice y_1.cells
 (1 : Nat)
 [CVal.int IntKind.i64
 (IntKind.i64.wrap
 (x01 +
 (1 :
 Int)))]))).set
 x02.toNat
 (CVal.agg
 (splice y_2.cells (2 : Nat)
 [CVal.str s]))).set
 x02.toNat
 (CVal.agg
 (splice y_3.cells (3 : Nat)
 [CVal.str s_1]))).set
 x02.toNat
 (CVal.agg
 (splice y_4.cells (4 : Nat)
 [CVal.int IntKind.i64
 (IntKind.i64.wrap
 (IntKind.i64.wrap
 (IntKind.i64.wrap
 (IntKind.i64.wrap
 (x01 +
 (1 : Int)) +
 (1 : Int)) +
 (1 : Int)) +
 (1 : Int)))]))).set
 x02.toNat
 (CVal.agg
 (splice y_5.cells (5 : Nat)
 [CVal.int IntKind.i64
 (IntKind.i64.wrap
 (IntKind.i64.wrap
 (IntKind.i64.wrap
 (IntKind.i64.wrap
 (IntKind.i64.wrap
 (x01 +
 (1 : Int)) +
 (1 : Int)) +
 (1 : Int)) +
 (1 : Int)) +
 (1 : Int)))]))).length) &&
 true)
 (((((((x1.set x02.toNat
 (CVal.agg
 (CVal.int IntKind.i64
 x01 ::
 List.drop (1 : Nat)
 y.cells))).set
 x02.toNat
 (CVal.agg
 (splice y_1.cells
 (1 : Nat)
 [CVal.int IntKind.i64
 (IntKind.i64.wrap
 (x01 +
 (1 :
 Int)))]))).set
 x02.toNat
 (CVal.agg
 (splice y_2.cells (2 : Nat)
 [CVal.str s]))).set
 x02.toNat
 (CVal.agg
 (splice y_3.cells (3 : Nat)
 [CVal.str s_1]))).set
 x02.toNat
 (CVal.agg
 (splice y_4.cells (4 : Nat)
 [CVal.int IntKind.i64
 (IntKind.i64.wrap
 (IntKind.i64.wrap
 (IntKind.i64.wrap
 (IntKind.i64.wrap
 (x01 +
 (1 : Int)) +
 (1 : Int)) +
 (1 : Int)) +
 (1 : Int)))]))).set
 x02.toNat
 (CVal.agg
 (splice y_5.cells (5 : Nat)
 [CVal.int IntKind.i64
 (IntKind.i64.wrap
 (IntKind.i64.wrap
 (IntKind.i64.wrap
 (IntKind.i64.wrap
 (IntKind.i64.wrap
 (x01 +
 (1 : Int)) +
 (1 : Int)) +
 (1 : Int)) +
 (1 : Int)) +
 (1 : Int)))])))[x02.toNat]?.bind
 fun y_6 =>
 (y_6.cell (6 : Nat)).bind fun c =>
 c.asSl.bind fun xs =>
 ((((((x1.set x02.toNat
 (CVal.agg
 (CVal.int
 IntKind.i64
 x01 ::
 List.drop
 (1 : Nat)
 y.cells))).set
 x02.toNat
 (CVal.agg
 (splice y_1.cells
 (1 : Nat)
 [CVal.int
 IntKind.i64
 (IntKind.i64.wrap
 (x01 +
 (1 :
 Int)))]))).set
 x02.toNat
 (CVal.agg
 (splice y_2.cells
 (2 : Nat)
 [CVal.str s]))).set
 x02.toNat
 (CVal.agg
 (splice y_3.cells (3 : Nat)
 [CVal.str s_1]))).set
 x02.toNat
 (CVal.agg
 (splice y_4.cells (4 : Nat)
 [CVal.int IntKind.i64
 (IntKind.i64.wrap
 (IntKind.i64.wrap
 (IntKind.i64.wrap
 (IntKind.i64.wrap
 (x01 +
 (1 :
 Int)) +
 (1 : Int)) +
 (1 : Int)) +
 (1 : Int)))]))).set
 x02.toNat
 (CVal.agg
 (splice y_5.cells (5 : Nat)
 [CVal.int IntKind.i64
 (IntKind.i64.wrap
 (IntKind.i64.wrap
 (IntKind.i64.wrap
 (IntKind.i64.wrap
 (IntKind.i64.wrap
 (x01 +
 (1 :
 Int)) +
 (1 : Int)) +
 (1 : Int)) +
 (1 : Int)) +
 (1 :
 Int)))])))[x02.toNat]?.bind
 fun y_7 =>
 (y_7.cell (6 : Nat)).bind fun c =>
 c.asSl.bind fun xs =>
 br (xs.all (CVal.fits true (3 : Nat)))
 ((C f_l_markTyS
 [AVal.lref (0 : Nat) (0 : Nat),
 AVal.v
 (CVal.int IntKind.i64
 (IntKind.i64.wrap
 (IntKind.i64.wrap
 (IntKind.i64.wrap
 (IntKind.i64.wrap
 (IntKind.i64.wrap
 (IntKind.i64.wrap
 (x01 +
 (1 :
 Int)) +
 (1 :
 Int)) +
 (1 :
 Int)) +
 (1 : Int)) +
 (1 : Int)) +
 (1 : Int))))]
 [PB.arr
 (Md.mk true true (0 : Nat))
 false (3 : Nat) xs]).bind
 fun r =>
 r.2[(0 : Nat)]?.bind fun y_8 =>
 br
 (decide ((0 : Int) ≤ x02) &&
 true)
 (br
 (decide
 (x02.toNat <
 (((((((x1.set x02.toNat
 (CVal.agg
 (CVal.int
 IntKind.i64
 x01 ::
 List.drop
 (1 :
 Nat)
 y.cells))).set
 x02.toNat
 (CVal.agg
 (splice
 y_1.cells
 (1 :
 Nat)
 [CVal.int
 IntKind.i64
 (IntKind.i64.wrap
 (x01 +
 (1 :
 Int)))]))).set
 x02.toNat
 (CVal.agg
 (splice
 y_2.cells
 (2 :
 Nat)
 [CVal.str
 s]))).set
 x02.toNat
 (CVal.agg
 (splice
 y_3.cells
 (3 :
 Nat)
 [CVal.str
 s_1]))).set
 x02.toNat
 (CVal.agg
 (splice
 y_4.cells
 (4 :
 Nat)
 [CVal.int
 IntKind.i64
 (IntKind.i64.wrap
 (IntKind.i64.wrap
 (IntKind.i64.wrap
 (IntKind.i64.wrap
 (x01 +
 (1 :
 Int)) +
 (1 :
 Int)) +
 (1 :
 Int)) +
 (1 :
 Int)))]))).set
 x02.toNat
 (CVal.agg
 (splice
 y_5.cells
 (5 : Nat)
 [CVal.int
 IntKind.i64
 (IntKind.i64.wrap
 (IntKind.i64.wrap
 (IntKind.i64.wrap
 (IntKind.i64.wrap
 (IntKind.i64.wrap
 (x01 +
 (1 :
 Int)) +
 (1 :
 Int)) +
 (1 :
 Int)) +
 (1 :
 Int)) +
 (1 :
 Int)))]))).set
 x02.toNat
 (y_7.putCell
 (6 : Nat)
 (CVal.sl
 y_8))).length) &&
 true)
 ((((((((x1.set x02.toNat
 (CVal.agg
 (CVal.int
 IntKind.i64
 x01 ::
 List.drop
 (1 :
 Nat)
 y.cells))).set
 x02.toNat
 (CVal.agg
 (splice
 y_1.cells
 (1 :
 Nat)
 [CVal.int
 IntKind.i64
 (IntKind.i64.wrap
 (x01 +
 (1 :
 Int)))]))).set
 x02.toNat
 (CVal.agg
 (splice
 y_2.cells
 (2 :
 Nat)
 [CVal.str
 s]))).set
 x02.toNat
 (CVal.agg
 (splice
 y_3.cells
 (3 :
 Nat)
 [CVal.str
 s_1]))).set
 x02.toNat
 (CVal.agg
 (splice
 y_4.cells
 (4 : Nat)
 [CVal.int
 IntKind.i64
 (IntKind.i64.wrap
 (IntKind.i64.wrap
 (IntKind.i64.wrap
 (IntKind.i64.wrap
 (x01 +
 (1 :
 Int)) +
 (1 :
 Int)) +
 (1 :
 Int)) +
 (1 :
 Int)))]))).set
 x02.toNat
 (CVal.agg
 (splice
 y_5.cells
 (5 : Nat)
 [CVal.int
 IntKind.i64
 (IntKind.i64.wrap
 (IntKind.i64.wrap
 (IntKind.i64.wrap
 (IntKind.i64.wrap
 (IntKind.i64.wrap
 (x01 +
 (1 :
 Int)) +
 (1 :
 Int)) +
 (1 :
 Int)) +
 (1 :
 Int)) +
 (1 :
 Int)))]))).set
 x02.toNat
 (y_7.putCell (6 : Nat)
 (CVal.sl
 y_8)))[x02.toNat]?.bind
 fun y_9 =>
 (y_9.cell (7 : Nat)).bind
 fun c =>
 c.asSl.bind fun xs =>
 (((((((x1.set x02.toNat
 (CVal.agg
 (CVal.int
 IntKind.i64
 x01 ::
 List.drop
 (1 :
 Nat)
 y.cells))).set
 x02.toNat
 (CVal.agg
 (splice
 y_1.cells
 (1 :
 Nat)
 [CVal.int
 IntKind.i64
 (IntKind.i64.wrap
 (x01 +
 (1 :
 Int)))]))).set
 x02.toNat
 (CVal.agg
 (splice
 y_2.cells
 (2 :
 Nat)
 [CVal.str
 s]))).set
 x02.toNat
 (CVal.agg
 (splice
 y_3.cells
 (3 :
 Nat)
 [CVal.str
 s_1]))).set
 x02.toNat
 (CVal.agg
 (splice
 y_4.cells
 (4 :
 Nat)
 [CVal.int
 IntKind.i64
 (IntKind.i64.wrap
 (IntKind.i64.wrap
 (IntKind.i64.wrap
 (IntKind.i64.wrap
 (x01 +
 (1 :
 Int)) +
 (1 :
 Int)) +
 (1 :
 Int)) +
 (1 :
 Int)))]))).set
 x02.toNat
 (CVal.agg
 (splice
 y_5.cells
 (5 :
 Nat)
 [CVal.int
 IntKind.i64
 (IntKind.i64.wrap
 (IntKind.i64.wrap
 (IntKind.i64.wrap
 (IntKind.i64.wrap
 (IntKind.i64.wrap
 (x01 +
 (1 :
 Int)) +
 (1 :
 Int)) +
 (1 :
 Int)) +
 (1 :
 Int)) +
 (1 :
 Int)))]))).set
 x02.toNat
 (y_7.putCell
 (6 : Nat)
 (CVal.sl
 y_8)))[x02.toNat]?.bind
 fun y_10 =>
 (y_10.cell
 (7 : Nat)).bind
 fun c =>
 c.asSl.bind
 fun xs =>
 br
 (xs.all
 (CVal.fits
 true
 (3 : Nat)))
 ((C f_l_markTyS
 [AVal.lref
 (0 :
 Nat)
 (0 :
 Nat),
 AVal.v
 r.1]
 [PB.arr
 (Md.mk
 true
 true
 (0 :
 Nat))
 false
 (3 :
 Nat)
 xs]).bind
 fun r =>
 r.2[(0 :
 Nat)]?.bind
 fun y_11 =>
 br
 (decide
 ((0 :
 Int) ≤
 x02) &&
 true)
 (br
 (decide
 (x02.toNat <
 ((((((((x1.set
 x02.toNat
 (CVal.agg
 (CVal.int
 IntKind.i64
 x01 ::
 List.drop
 (1 :
 Nat)
 y.cells))).set
 x02.toNat
 (CVal.agg
 (splice
 y_1.cells
 (1 :
 Nat)
 [CVal.int
 IntKind.i64
 (IntKind.i64.wrap
 (x01 +
 (1 :
 Int)))]))).set
 x02.toNat
 (CVal.agg
 (splice
 y_2.cells
 (2 :
 Nat)
 [CVal.str
 s]))).set
 x02.toNat
 (CVal.agg
 (splice
 y_3.cells
 (3 :
 Nat)
 [CVal.str
 s_1]))).set
 x02.toNat
 (CVal.agg
 (splice
 y_4.cells
 (4 :
 Nat)
 [CVal.int
 IntKind.i64
 (IntKind.i64.wrap
 (IntKind.i64.wrap
 (IntKind.i64.wrap
 (IntKind.i64.wrap
 (x01 +
 (1 :
 Int)) +
 (1 :
 Int)) +
 (1 :
 Int)) +
 (1 :
 Int)))]))).set
 x02.toNat
 (CVal.agg
 (splice
 y_5.cells
 (5 :
 Nat)
 [CVal.int
 IntKind.i64
 (IntKind.i64.wrap
 (IntKind.i64.wrap
 (IntKind.i64.wrap
 (IntKind.i64.wrap
 (IntKind.i64.wrap
 (x01 +
 (1 :
 Int)) +
 (1 :
 Int)) +
 (1 :
 Int)) +
 (1 :
 Int)) +
 (1 :
 Int)))]))).set
 x02.toNat
 (y_7.putCell
 (6 :
 Nat)
 (CVal.sl
 y_8))).set
 x02.toNat
 (y_10.putCell
 (7 :
 Nat)
 (CVal.sl
 y_11))).length) &&
 true)
 (((((((((x1.set
 x02.toNat
 (CVal.agg
 (CVal.int
 IntKind.i64
 x01 ::
 List.drop
 (1 :
 Nat)
 y.cells))).set
 x02.toNat
 (CVal.agg
 (splice
 y_1.cells
 (1 :
 Nat)
 [CVal.int
 IntKind.i64
 (IntKind.i64.wrap
 (x01 +
 (1 :
 Int)))]))).set
 x02.toNat
 (CVal.agg
 (splice
 y_2.cells
 (2 :
 Nat)
 [CVal.str
 s]))).set
 x02.toNat
 (CVal.agg
 (splice
 y_3.cells
 (3 :
 Nat)
 [CVal.str
 s_1]))).set
 x02.toNat
 (CVal.agg
 (splice
 y_4.cells
 (4 :
 Nat)
 [CVal.int
 IntKind.i64
 (IntKind.i64.wrap
 (IntKind.i64.wrap
 (IntKind.i64.wrap
 (IntKind.i64.wrap
 (x01 +
 (1 :
 Int)) +
 (1 :
 Int)) +
 (1 :
 Int)) +
 (1 :
 Int)))]))).set
 x02.toNat
 (CVal.agg
 (splice
 y_5.cells
 (5 :
 Nat)
 [CVal.int
 IntKind.i64
 (IntKind.i64.wrap
 (IntKind.i64.wrap
 (IntKind.i64.wrap
 (IntKind.i64.wrap
 (IntKind.i64.wrap
 (x01 +
 (1 :
 Int)) +
 (1 :
 Int)) +
 (1 :
 Int)) +
 (1 :
 Int)) +
 (1 :
 Int)))]))).set
 x02.toNat
 (y_7.putCell
 (6 :
 Nat)
 (CVal.sl
 y_8))).set
 x02.toNat
 (y_10.putCell
 (7 :
 Nat)
 (CVal.sl
 y_11)))[x02.toNat]?.bind
 fun
 y_12 =>
 (y_12.cell
 (8 :
 Nat)).bind
 fun
 c =>
 c.asSl.bind
 fun
 xs =>
 ((((((((x1.set
 x02.toNat
 (CVal.agg
 (CVal.int
 IntKind.i64
 x01 ::
 List.drop
 (1 :
 Nat)
 y.cells))).set
 x02.toNat
 (CVal.agg
 (splice
 y_1.cells
 (1 :
 Nat)
 [CVal.int
 IntKind.i64
 (IntKind.i64.wrap
 (x01 +
 (1 :
 Int)))]))).set
 x02.toNat
 (CVal.agg
 (splice
 y_2.cells
 (2 :
 Nat)
 [CVal.str
 s]))).set
 x02.toNat
 (CVal.agg
 (splice
 y_3.cells
 (3 :
 Nat)
 [CVal.str
 s_1]))).set
 x02.toNat
 (CVal.agg
 (splice
 y_4.cells
 (4 :
 Nat)
 [CVal.int
 IntKind.i64
 (IntKind.i64.wrap
 (IntKind.i64.wrap
 (IntKind.i64.wrap
 (IntKind.i64.wrap
 (x01 +
 (1 :
 Int)) +
 (1 :
 Int)) +
 (1 :
 Int)) +
 (1 :
 Int)))]))).set
 x02.toNat
 (CVal.agg
 (splice
 y_5.cells
 (5 :
 Nat)
 [CVal.int
 IntKind.i64
 (IntKind.i64.wrap
 (IntKind.i64.wrap
 (IntKind.i64.wrap
 (IntKind.i64.wrap
 (IntKind.i64.wrap
 (x01 +
 (1 :
 Int)) +
 (1 :
 Int)) +
 (1 :
 Int)) +
 (1 :
 Int)) +
 (1 :
 Int)))]))).set
 x02.toNat
 (y_7.putCell
 (6 :
 Nat)
 (CVal.sl
 y_8))).set
 x02.toNat
 (y_10.putCell
 (7 :
 Nat)
 (CVal.sl
 y_11)))[x02.toNat]?.bind
 fun
 y_13 =>
 (y_13.cell
 (8 :
 Nat)).bind
 fun
 c =>
 c.asSl.bind
 fun
 xs =>
 br
 (xs.all
 (CVal.fits
 true
 (9 :
 Nat)))
 ((C
 f_l_markTermS
 [AVal.lref
 (0 :
 Nat)
 (0 :
 Nat),
 AVal.v
 r.1]
 [PB.arr
 (Md.mk
 true
 true
 (0 :
 Nat))
 false
 (9 :
 Nat)
 xs]).bind
 fun
 r =>
 r.2[(0 :
 Nat)]?.bind
 fun
 y_14 =>
 (CVal.asInt
 IntKind.i64
 r.1).bind
 fun
 n =>
 L
 f_l_markTermS
 (0 :
 Nat)
 lc_l_markTermS_0
 [PSh.arr
 (Md.mk
 true
 true
 (0 :
 Nat))
 false
 (9 :
 Nat)]
 k_l_markTermS_0
 ((PUnit.unit,
 n,
 IntKind.i64.wrap
 (x02 +
 (1 :
 Int)),
 PUnit.unit),
 ((((((((x1.set
 x02.toNat
 (CVal.agg
 (CVal.int
 IntKind.i64
 x01 ::
 List.drop
 (1 :
 Nat)
 y.cells))).set
 x02.toNat
 (CVal.agg
 (splice
 y_1.cells
 (1 :
 Nat)
 [CVal.int
 IntKind.i64
 (IntKind.i64.wrap
 (x01 +
 (1 :
 Int)))]))).set
 x02.toNat
 (CVal.agg
 (splice
 y_2.cells
 (2 :
 Nat)
 [CVal.str
 s]))).set
 x02.toNat
 (CVal.agg
 (splice
 y_3.cells
 (3 :
 Nat)
 [CVal.str
 s_1]))).set
 x02.toNat
 (CVal.agg
 (splice
 y_4.cells
 (4 :
 Nat)
 [CVal.int
 IntKind.i64
 (IntKind.i64.wrap
 (IntKind.i64.wrap
 (IntKind.i64.wrap
 (IntKind.i64.wrap
 (x01 +
 (1 :
 Int)) +
 (1 :
 Int)) +
 (1 :
 Int)) +
 (1 :
 Int)))]))).set
 x02.toNat
 (CVal.agg
 (splice
 y_5.cells
 (5 :
 Nat)
 [CVal.int
 IntKind.i64
 (IntKind.i64.wrap
 (IntKind.i64.wrap
 (IntKind.i64.wrap
 (IntKind.i64.wrap
 (IntKind.i64.wrap
 (x01 +
 (1 :
 Int)) +
 (1 :
 Int)) +
 (1 :
 Int)) +
 (1 :
 Int)) +
 (1 :
 Int)))]))).set
 x02.toNat
 (y_7.putCell
 (6 :
 Nat)
 (CVal.sl
 y_8))).set
 x02.toNat
 (y_10.putCell
 (7 :
 Nat)
 (CVal.sl
 y_11))).set
 x02.toNat
 (y_13.putCell
 (8 :
 Nat)
 (CVal.sl
 y_14)),
 PUnit.unit))
 none)
 none)
 none)
 none)
 none)
 none)
 none)
 none)
 none)
 none)
 none)
 none)
 none)
 none)
 none)
 none)
 none)
 none)
 none)
 none)
 none)
 none)
 none)
 none)
 none)
 none)
 none))
 none)
 none)
 (some (LO.out (0 : Nat) ((PUnit.unit, x01, x02, PUnit.unit), x1, PUnit.unit)))
theorem el_l_markTermS_0 (C : CallT) (L : LoopT) (x01 : Int) (x02 : Int) (x1 : List CVal) : evL E N C L f_l_markTermS 0 lc_l_markTermS_0 [PSh.arr (Md.mk true true (0 : Nat)) false (9 : Nat)] k_l_markTermS_0 (((), x01, x02, ()), x1, ()) = nl_l_markTermS_0 C L x01 x02 x1 := by kernel_rfl
theorem gl_l_markTermS_0 (x01 : Int) (x02 : Int) (x1 : List CVal) (R : LO k_l_markTermS_0.T) (h : nl_l_markTermS_0 CC LL x01 x02 x1 = some R) : LL f_l_markTermS 0 lc_l_markTermS_0 [PSh.arr (Md.mk true true (0 : Nat)) false (9 : Nat)] k_l_markTermS_0 (((), x01, x02, ()), x1, ()) = some R := loopW ((el_l_markTermS_0 CC LL x01 x02 x1).trans h)
noncomputable def nl_s_l2One_0 (C : CallT) (L : LoopT) (x01 : Int) (x10 : Int) (x11 : Int) (x12 : List UInt8) (x13 : List UInt8) (x14 : Int) (x15 : Int) (x16 : List CVal) (x17 : List CVal) (x18 : List CVal) : Option (LO k_s_l2One_0.T) :=
 br (decide (x01 < (↑x17.length : Int)))
 (br (decide ((0 : Int) ≤ x01) && true)
 (x17[x01.toNat]?.bind fun y =>
 br (CVal.fits true (3 : Nat) y)
 ((y.sub (0 : Nat) (3 : Nat)).bind fun y =>
 (C f_s_TyOk [AVal.v y] []).bind fun r =>
 r.1.asBool.bind fun b =>
 br (!b) (some (LO.ret (CVal.bool false, [])))
 (L f_s_l2One (0 : Nat) lc_s_l2One_0 [] k_s_l2One_0
 ((PUnit.unit, IntKind.i64.wrap (x01 + (1 : Int)), PUnit.unit),
 (x10, x11, x12, x13, x14, x15, x16, x17, x18, PUnit.unit), PUnit.unit)))
 none)
 none)
 (some
 (LO.out (0 : Nat)
 ((PUnit.unit, x01, PUnit.unit), (x10, x11, x12, x13, x14, x15, x16, x17, x18, PUnit.unit), PUnit.unit)))
theorem el_s_l2One_0 (C : CallT) (L : LoopT) (x01 : Int) (x10 : Int) (x11 : Int) (x12 : List UInt8) (x13 : List UInt8) (x14 : Int) (x15 : Int) (x16 : List CVal) (x17 : List CVal) (x18 : List CVal) : evL E N C L f_s_l2One 0 lc_s_l2One_0 [] k_s_l2One_0 (((), x01, ()), (x10, x11, x12, x13, x14, x15, x16, x17, x18, ()), ()) = nl_s_l2One_0 C L x01 x10 x11 x12 x13 x14 x15 x16 x17 x18 := by kernel_rfl
theorem gl_s_l2One_0 (x01 : Int) (x10 : Int) (x11 : Int) (x12 : List UInt8) (x13 : List UInt8) (x14 : Int) (x15 : Int) (x16 : List CVal) (x17 : List CVal) (x18 : List CVal) (R : LO k_s_l2One_0.T) (h : nl_s_l2One_0 CC LL x01 x10 x11 x12 x13 x14 x15 x16 x17 x18 = some R) : LL f_s_l2One 0 lc_s_l2One_0 [] k_s_l2One_0 (((), x01, ()), (x10, x11, x12, x13, x14, x15, x16, x17, x18, ()), ()) = some R := loopW ((el_s_l2One_0 CC LL x01 x10 x11 x12 x13 x14 x15 x16 x17 x18).trans h)
noncomputable def nl_i_isName_0 (C : CallT) (L : LoopT) (x00 : List UInt8) (x01 : Int) (x02 : Int) : Option (LO k_i_isName_0.T) :=
 br (decide (x02 < x01))
 (br (decide ((0 : Int) ≤ x02))
 (x00[x02.toNat]?.bind fun y =>
 (br (decide ((97 : Int) ≤ (↑y.toNat : Int))) (some (decide ((↑y.toNat : Int) ≤ (122 : Int)), PUnit.unit))
 (some (false, PUnit.unit))).bind
 fun y_1 =>
 (br (!y_1.1)
 (br (decide (x02 = (0 : Int))) (some (true, PUnit.unit))
 (br (decide ((↑y.toNat : Int) < (48 : Int)))
 (some (!decide ((↑y.toNat : Int) = (46 : Int)), PUnit.unit))
 (br (decide ((57 : Int) < (↑y.toNat : Int)))
 (some (!decide ((↑y.toNat : Int) = (46 : Int)), PUnit.unit)) (some (false, PUnit.unit)))))
 (some (false, PUnit.unit))).bind
 fun y =>
 br y.1 (some (LO.ret (CVal.bool false, [])))
 (L f_i_isName (0 : Nat) lc_i_isName_0 [] k_i_isName_0
 ((x00, x01, IntKind.i64.wrap (x02 + (1 : Int)), PUnit.unit), PUnit.unit)))
 none)
 (some (LO.out (0 : Nat) ((x00, x01, x02, PUnit.unit), PUnit.unit)))
theorem el_i_isName_0 (C : CallT) (L : LoopT) (x00 : List UInt8) (x01 : Int) (x02 : Int) : evL E N C L f_i_isName 0 lc_i_isName_0 [] k_i_isName_0 ((x00, x01, x02, ()), ()) = nl_i_isName_0 C L x00 x01 x02 := by kernel_rfl
theorem gl_i_isName_0 (x00 : List UInt8) (x01 : Int) (x02 : Int) (R : LO k_i_isName_0.T) (h : nl_i_isName_0 CC LL x00 x01 x02 = some R) : LL f_i_isName 0 lc_i_isName_0 [] k_i_isName_0 ((x00, x01, x02, ()), ()) = some R := loopW ((el_i_isName_0 CC LL x00 x01 x02).trans h)
end Go.Proofs.Ytbimglfmmmlicaa.Abs
