/- What the functions come to in the abstract machine. -/
import Derived.Test.YtbimglfmmmlicaaQ2Ann
import Derived.KernelRfl
set_option linter.unusedVariables false
set_option maxRecDepth 100000
namespace Go.Proofs.Ytbimglfmmmlicaa.Abs
open Go Go.Proofs
noncomputable def nf_l_szTerm (C : CallT) (L : LoopT) (a0 : Int) (a1 : Int) (a2 : List UInt8) (a3 : List UInt8) (a40 : Int) (a41 : Int) (a42 : List CVal) (a5 : List CVal) (a6 : List CVal) (b : Int) : Option Ret :=
 br (decide (IntKind.i64.wrap (b - (↑a2.length : Int)) < (0 : Int))) (some (CVal.int IntKind.i64 (-1 : Int), []))
 (br (decide (IntKind.i64.wrap (IntKind.i64.wrap (b - (↑a2.length : Int)) - (↑a3.length : Int)) < (0 : Int)))
 (some (CVal.int IntKind.i64 (-1 : Int), []))
 ((C f_l_szTy
 [AVal.v (CVal.agg [CVal.int IntKind.i64 a40, CVal.int IntKind.i64 a41, CVal.sl a42]),
 AVal.v
 (CVal.int IntKind.i64
 (IntKind.i64.wrap (IntKind.i64.wrap (b - (↑a2.length : Int)) - (↑a3.length : Int))))]
 []).bind
 fun r =>
 (CVal.asInt IntKind.i64 r.1).bind fun n =>
 br (decide (n < (0 : Int))) (some (CVal.int IntKind.i64 (-1 : Int), []))
 ((C f_l_szTyS [AVal.v (CVal.sl a5), AVal.v r.1] []).bind fun r =>
 (CVal.asInt IntKind.i64 r.1).bind fun n =>
 br (decide (n < (0 : Int))) (some (CVal.int IntKind.i64 (-1 : Int), []))
 ((C f_l_szTermS [AVal.v (CVal.sl a6), AVal.v r.1] []).bind fun r =>
 (CVal.asInt IntKind.i64 r.1).bind fun n =>
 br (decide (n < (0 : Int))) (some (CVal.int IntKind.i64 (-1 : Int), [])) (some (r.1, []))))))
theorem eq_l_szTerm (C : CallT) (L : LoopT) (a0 : Int) (a1 : Int) (a2 : List UInt8) (a3 : List UInt8) (a40 : Int) (a41 : Int) (a42 : List CVal) (a5 : List CVal) (a6 : List CVal) (b : Int) : evF E N C L f_l_szTerm [AVal.v
 (CVal.agg
 [CVal.int IntKind.i64 a0, CVal.int IntKind.i64 a1, CVal.str a2, CVal.str a3, CVal.int IntKind.i64 a40,
 CVal.int IntKind.i64 a41, CVal.sl a42, CVal.sl a5, CVal.sl a6]),
 AVal.v (CVal.int IntKind.i64 b)] [] = nf_l_szTerm C L a0 a1 a2 a3 a40 a41 a42 a5 a6 b := by kernel_rfl
theorem go_l_szTerm (a0 : Int) (a1 : Int) (a2 : List UInt8) (a3 : List UInt8) (a40 : Int) (a41 : Int) (a42 : List CVal) (a5 : List CVal) (a6 : List CVal) (b : Int) (R : Ret) (h : nf_l_szTerm CC LL a0 a1 a2 a3 a40 a41 a42 a5 a6 b = some R) : CC f_l_szTerm [AVal.v
 (CVal.agg
 [CVal.int IntKind.i64 a0, CVal.int IntKind.i64 a1, CVal.str a2, CVal.str a3, CVal.int IntKind.i64 a40,
 CVal.int IntKind.i64 a41, CVal.sl a42, CVal.sl a5, CVal.sl a6]),
 AVal.v (CVal.int IntKind.i64 b)] [] = some R := fnW (by decide) rfl ((eq_l_szTerm CC LL a0 a1 a2 a3 a40 a41 a42 a5 a6 b).trans h)
noncomputable def nf_l_eqTerm (C : CallT) (L : LoopT) (a0 : Int) (a1 : Int) (a2 : List UInt8) (a3 : List UInt8) (a40 : Int) (a41 : Int) (a42 : List CVal) (a5 : List CVal) (a6 : List CVal) (b0 : Int) (b1 : Int) (b2 : List UInt8) (b3 : List UInt8) (b40 : Int) (b41 : Int) (b42 : List CVal) (b5 : List CVal) (b6 : List CVal) : Option Ret :=
 br (!decide (a0 = b0)) (some (CVal.bool false, []))
 (br (!decide (a1 = b1)) (some (CVal.bool false, []))
 (br (!decide (a2 = b2)) (some (CVal.bool false, []))
 (br (!decide (a3 = b3)) (some (CVal.bool false, []))
 ((C f_l_eqTy
 [AVal.v (CVal.agg [CVal.int IntKind.i64 a40, CVal.int IntKind.i64 a41, CVal.sl a42]),
 AVal.v (CVal.agg [CVal.int IntKind.i64 b40, CVal.int IntKind.i64 b41, CVal.sl b42])]
 []).bind
 fun r =>
 r.1.asBool.bind fun b =>
 br (!b) (some (CVal.bool false, []))
 ((C f_l_eqTyS [AVal.v (CVal.sl a5), AVal.v (CVal.sl b5)] []).bind fun r =>
 r.1.asBool.bind fun b =>
 br (!b) (some (CVal.bool false, []))
 ((C f_l_eqTermS [AVal.v (CVal.sl a6), AVal.v (CVal.sl b6)] []).bind fun r =>
 r.1.asBool.bind fun b => br (!b) (some (CVal.bool false, [])) (some (CVal.bool true, []))))))))
theorem eq_l_eqTerm (C : CallT) (L : LoopT) (a0 : Int) (a1 : Int) (a2 : List UInt8) (a3 : List UInt8) (a40 : Int) (a41 : Int) (a42 : List CVal) (a5 : List CVal) (a6 : List CVal) (b0 : Int) (b1 : Int) (b2 : List UInt8) (b3 : List UInt8) (b40 : Int) (b41 : Int) (b42 : List CVal) (b5 : List CVal) (b6 : List CVal) : evF E N C L f_l_eqTerm [AVal.v
 (CVal.agg
 [CVal.int IntKind.i64 a0, CVal.int IntKind.i64 a1, CVal.str a2, CVal.str a3, CVal.int IntKind.i64 a40,
 CVal.int IntKind.i64 a41, CVal.sl a42, CVal.sl a5, CVal.sl a6]),
 AVal.v
 (CVal.agg
 [CVal.int IntKind.i64 b0, CVal.int IntKind.i64 b1, CVal.str b2, CVal.str b3, CVal.int IntKind.i64 b40,
 CVal.int IntKind.i64 b41, CVal.sl b42, CVal.sl b5, CVal.sl b6])] [] = nf_l_eqTerm C L a0 a1 a2 a3 a40 a41 a42 a5 a6 b0 b1 b2 b3 b40 b41 b42 b5 b6 := by kernel_rfl
theorem go_l_eqTerm (a0 : Int) (a1 : Int) (a2 : List UInt8) (a3 : List UInt8) (a40 : Int) (a41 : Int) (a42 : List CVal) (a5 : List CVal) (a6 : List CVal) (b0 : Int) (b1 : Int) (b2 : List UInt8) (b3 : List UInt8) (b40 : Int) (b41 : Int) (b42 : List CVal) (b5 : List CVal) (b6 : List CVal) (R : Ret) (h : nf_l_eqTerm CC LL a0 a1 a2 a3 a40 a41 a42 a5 a6 b0 b1 b2 b3 b40 b41 b42 b5 b6 = some R) : CC f_l_eqTerm [AVal.v
 (CVal.agg
 [CVal.int IntKind.i64 a0, CVal.int IntKind.i64 a1, CVal.str a2, CVal.str a3, CVal.int IntKind.i64 a40,
 CVal.int IntKind.i64 a41, CVal.sl a42, CVal.sl a5, CVal.sl a6]),
 AVal.v
 (CVal.agg
 [CVal.int IntKind.i64 b0, CVal.int IntKind.i64 b1, CVal.str b2, CVal.str b3, CVal.int IntKind.i64 b40,
 CVal.int IntKind.i64 b41, CVal.sl b42, CVal.sl b5, CVal.sl b6])] [] = some R := fnW (by decide) rfl ((eq_l_eqTerm CC LL a0 a1 a2 a3 a40 a41 a42 a5 a6 b0 b1 b2 b3 b40 b41 b42 b5 b6).trans h)
noncomputable def nf_l_toTy (C : CallT) (L : LoopT) (a0 : Int) (a1 : Int) (a2 : List CVal) : Option Ret :=
 (C f_l_toTyS [AVal.v (CVal.sl a2)] []).bind fun r =>
 br r.1.isFlat
 (r.1.asSl.bind fun xs => some (CVal.agg [CVal.int IntKind.i64 a0, CVal.int IntKind.i64 a1, CVal.sl xs], [])) none
theorem eq_l_toTy (C : CallT) (L : LoopT) (a0 : Int) (a1 : Int) (a2 : List CVal) : evF E N C L f_l_toTy [AVal.v (CVal.agg [CVal.int IntKind.i64 a0, CVal.int IntKind.i64 a1, CVal.sl a2])] [] = nf_l_toTy C L a0 a1 a2 := by kernel_rfl
theorem go_l_toTy (a0 : Int) (a1 : Int) (a2 : List CVal) (R : Ret) (h : nf_l_toTy CC LL a0 a1 a2 = some R) : CC f_l_toTy [AVal.v (CVal.agg [CVal.int IntKind.i64 a0, CVal.int IntKind.i64 a1, CVal.sl a2])] [] = some R := fnW (by decide) rfl ((eq_l_toTy CC LL a0 a1 a2).trans h)
noncomputable def nf_s_l2Has (C : CallT) (L : LoopT) (a : List CVal) (b : List UInt8) : Option Ret :=
 (L f_s_l2Has (0 : Nat) lc_s_l2Has_0 [] k_s_l2Has_0 ((a, b, (0 : Int), PUnit.unit), PUnit.unit)).bind fun r =>
 loK r (fun r => some r) fun j p => br (j == (0 : Nat)) (some (CVal.bool false, [])) none
theorem eq_s_l2Has (C : CallT) (L : LoopT) (a : List CVal) (b : List UInt8) : evF E N C L f_s_l2Has [AVal.v (CVal.sl a), AVal.v (CVal.str b)] [] = nf_s_l2Has C L a b := by kernel_rfl
theorem go_s_l2Has (a : List CVal) (b : List UInt8) (R : Ret) (h : nf_s_l2Has CC LL a b = some R) : CC f_s_l2Has [AVal.v (CVal.sl a), AVal.v (CVal.str b)] [] = some R := fnW (by decide) rfl ((eq_s_l2Has CC LL a b).trans h)
noncomputable def nf_l_eqTy (C : CallT) (L : LoopT) (a0 : Int) (a1 : Int) (a2 : List CVal) (b0 : Int) (b1 : Int) (b2 : List CVal) : Option Ret :=
 br (!decide (a0 = b0)) (some (CVal.bool false, []))
 (br (!decide (a1 = b1)) (some (CVal.bool false, []))
 ((C f_l_eqTyS [AVal.v (CVal.sl a2), AVal.v (CVal.sl b2)] []).bind fun r =>
 r.1.asBool.bind fun b => br (!b) (some (CVal.bool false, [])) (some (CVal.bool true, []))))
theorem eq_l_eqTy (C : CallT) (L : LoopT) (a0 : Int) (a1 : Int) (a2 : List CVal) (b0 : Int) (b1 : Int) (b2 : List CVal) : evF E N C L f_l_eqTy [AVal.v (CVal.agg [CVal.int IntKind.i64 a0, CVal.int IntKind.i64 a1, CVal.sl a2]),
 AVal.v (CVal.agg [CVal.int IntKind.i64 b0, CVal.int IntKind.i64 b1, CVal.sl b2])] [] = nf_l_eqTy C L a0 a1 a2 b0 b1 b2 := by kernel_rfl
theorem go_l_eqTy (a0 : Int) (a1 : Int) (a2 : List CVal) (b0 : Int) (b1 : Int) (b2 : List CVal) (R : Ret) (h : nf_l_eqTy CC LL a0 a1 a2 b0 b1 b2 = some R) : CC f_l_eqTy [AVal.v (CVal.agg [CVal.int IntKind.i64 a0, CVal.int IntKind.i64 a1, CVal.sl a2]),
 AVal.v (CVal.agg [CVal.int IntKind.i64 b0, CVal.int IntKind.i64 b1, CVal.sl b2])] [] = some R := fnW (by decide) rfl ((eq_l_eqTy CC LL a0 a1 a2 b0 b1 b2).trans h)
noncomputable def nf_s_l2Look (C : CallT) (L : LoopT) (a0 : Int) (a1 : Int) (a2 : List UInt8) (a3 : List UInt8) (a40 : Int) (a41 : Int) (a42 : List CVal) (a5 : List CVal) (a6 : List CVal) (b : Int) (c : Int) : Option Ret :=
 (br (decide (b = (0 : Int))) (some (true, PUnit.unit))
 (br (decide ((150 : Int) < IntKind.i64.wrap (c + (1 : Int)))) (some (true, PUnit.unit))
 ((C f_s_l2One
 [AVal.v
 (CVal.agg
 [CVal.int IntKind.i64 a0, CVal.int IntKind.i64 a1, CVal.str a2, CVal.str a3,
 CVal.int IntKind.i64 a40, CVal.int IntKind.i64 a41, CVal.sl a42, CVal.sl a5, CVal.sl a6])]
 []).bind
 fun r => r.1.asBool.bind fun b => some (!b, PUnit.unit)))).bind
 fun y =>
 br y.1 (some (CVal.bool false, [[CVal.int IntKind.i64 (IntKind.i64.wrap (c + (1 : Int)))]]))
 ((L f_s_l2Look (0 : Nat) lc_s_l2Look_0 [PSh.box [none]] k_s_l2Look_0
 ((b, PUnit.unit, PUnit.unit, (0 : Int), PUnit.unit), (IntKind.i64.wrap (c + (1 : Int)), PUnit.unit),
 (a0, a1, a2, a3, a40, a41, a42, a5, a6, PUnit.unit), PUnit.unit)).bind
 fun r =>
 loK r (fun r => some r) fun j p =>
 br (j == (0 : Nat)) (some (CVal.bool true, [[CVal.int IntKind.i64 p.snd.fst.1]])) none)
theorem eq_s_l2Look (C : CallT) (L : LoopT) (a0 : Int) (a1 : Int) (a2 : List UInt8) (a3 : List UInt8) (a40 : Int) (a41 : Int) (a42 : List CVal) (a5 : List CVal) (a6 : List CVal) (b : Int) (c : Int) : evF E N C L f_s_l2Look [AVal.v
 (CVal.agg
 [CVal.int IntKind.i64 a0, CVal.int IntKind.i64 a1, CVal.str a2, CVal.str a3, CVal.int IntKind.i64 a40,
 CVal.int IntKind.i64 a41, CVal.sl a42, CVal.sl a5, CVal.sl a6]),
 AVal.v (CVal.int IntKind.i64 b), AVal.lptr (0 : Nat) (0 : Nat)] [PB.box [AVal.v (CVal.int IntKind.i64 c)]] = nf_s_l2Look C L a0 a1 a2 a3 a40 a41 a42 a5 a6 b c := by kernel_rfl
theorem go_s_l2Look (a0 : Int) (a1 : Int) (a2 : List UInt8) (a3 : List UInt8) (a40 : Int) (a41 : Int) (a42 : List CVal) (a5 : List CVal) (a6 : List CVal) (b : Int) (c : Int) (R : Ret) (h : nf_s_l2Look CC LL a0 a1 a2 a3 a40 a41 a42 a5 a6 b c = some R) : CC f_s_l2Look [AVal.v
 (CVal.agg
 [CVal.int IntKind.i64 a0, CVal.int IntKind.i64 a1, CVal.str a2, CVal.str a3, CVal.int IntKind.i64 a40,
 CVal.int IntKind.i64 a41, CVal.sl a42, CVal.sl a5, CVal.sl a6]),
 AVal.v (CVal.int IntKind.i64 b), AVal.lptr (0 : Nat) (0 : Nat)] [PB.box [AVal.v (CVal.int IntKind.i64 c)]] = some R := fnW (by decide) rfl ((eq_s_l2Look CC LL a0 a1 a2 a3 a40 a41 a42 a5 a6 b c).trans h)
noncomputable def nf_s_l2One (C : CallT) (L : LoopT) (a0 : Int) (a1 : Int) (a2 : List UInt8) (a3 : List UInt8) (a40 : Int) (a41 : Int) (a42 : List CVal) (a5 : List CVal) (a6 : List CVal) : Option Ret :=
 (C f_s_l2Of [AVal.v (CVal.int IntKind.i64 a0)] []).bind fun r =>
 br (CVal.isAggN (5 : Nat) r.1)
 ((r.1.cell (0 : Nat)).bind fun c =>
 (r.1.cell (1 : Nat)).bind fun c_1 =>
 (r.1.cell (2 : Nat)).bind fun c_2 =>
 (r.1.cell (3 : Nat)).bind fun c_3 =>
 (r.1.cell (4 : Nat)).bind fun c_4 =>
 ((CVal.asInt IntKind.i64 c).bind fun n =>
 br (!decide ((↑a6.length : Int) = n)) (some (true, PUnit.unit))
 ((C f_s_l2Number
 [AVal.v
 (CVal.agg
 [CVal.int IntKind.i64 a0, CVal.int IntKind.i64 a1, CVal.str a2, CVal.str a3,
 CVal.int IntKind.i64 a40, CVal.int IntKind.i64 a41, CVal.sl a42, CVal.sl a5,
 CVal.sl a6])]
 []).bind
 fun r =>
 r.1.asBool.bind fun b =>
 br (!b) (some (true, PUnit.unit))
 ((C f_s_l2Name [AVal.v (CVal.str a2), AVal.v (CVal.bool false)] []).bind fun r =>
 c_2.asBool.bind fun b =>
 r.1.asBool.bind fun b_1 =>
 br (!b == b_1) (some (true, PUnit.unit))
 (c_2.asBool.bind fun b =>
 br (!b)
 (br (!decide (a2 = [])) (some (true, PUnit.unit))
 ((C f_s_l2Name [AVal.v (CVal.str a3), AVal.v (CVal.bool false)] []).bind
 fun r =>
 c_3.asBool.bind fun b =>
 r.1.asBool.bind fun b_2 =>
 br (!b == b_2) (some (true, PUnit.unit))
 (c_3.asBool.bind fun b =>
 br (!b)
 (br (!decide (a3 = [])) (some (true, PUnit.unit))
 (c_3.asBool.bind fun b =>
 br b (some (decide (a2 = a3), PUnit.unit))
 (some (false, PUnit.unit))))
 (c_3.asBool.bind fun b =>
 br b (some (decide (a2 = a3), PUnit.unit))
 (some (false, PUnit.unit))))))
 ((C f_s_l2Name [AVal.v (CVal.str a3), AVal.v (CVal.bool false)] []).bind
 fun r =>
 c_3.asBool.bind fun b =>
 r.1.asBool.bind fun b_2 =>
 br (!b == b_2) (some (true, PUnit.unit))
 (c_3.asBool.bind fun b =>
 br (!b)
 (br (!decide (a3 = [])) (some (true, PUnit.unit))
 (c_3.asBool.bind fun b =>
 br b (some (decide (a2 = a3), PUnit.unit))
 (some (false, PUnit.unit))))
 (c_3.asBool.bind fun b =>
 br b (some (decide (a2 = a3), PUnit.unit))
 (some (false, PUnit.unit))))))))).bind
 fun y =>
 br y.1 (some (CVal.bool false, []))
 (((C f_s_TyOk [AVal.v (CVal.agg [CVal.int IntKind.i64 a40, CVal.int IntKind.i64 a41, CVal.sl a42])]
 []).bind
 fun r =>
 c_4.asBool.bind fun b =>
 r.1.asBool.bind fun b_1 =>
 br (!b == b_1) (some (true, PUnit.unit))
 (c_4.asBool.bind fun b =>
 br (!b)
 ((C f_s_SameTy
 [AVal.v
 (CVal.agg
 [CVal.int IntKind.i64 a40, CVal.int IntKind.i64 a41, CVal.sl a42]),
 AVal.v
 (CVal.agg
 [CVal.int IntKind.i64 (0 : Int), CVal.int IntKind.i64 (0 : Int),
 CVal.sl []])]
 []).bind
 fun r =>
 br (!scalar r.1) none
 (r.1.asBool.bind fun b =>
 br (!b) (some (true, PUnit.unit))
 (br (decide ((2 : Int) < (↑a5.length : Int))) (some (true, PUnit.unit))
 (br (!decide (a0 = (3 : Int)))
 (some (decide ((0 : Int) < (↑a5.length : Int)), PUnit.unit))
 (some (false, PUnit.unit))))))
 (br (decide ((2 : Int) < (↑a5.length : Int))) (some (true, PUnit.unit))
 (br (!decide (a0 = (3 : Int)))
 (some (decide ((0 : Int) < (↑a5.length : Int)), PUnit.unit))
 (some (false, PUnit.unit)))))).bind
 fun y =>
 br y.1 (some (CVal.bool false, []))
 ((L f_s_l2One (0 : Nat) lc_s_l2One_0 [] k_s_l2One_0
 ((PUnit.unit, (0 : Int), PUnit.unit), (a0, a1, a2, a3, a40, a41, a42, a5, a6, PUnit.unit),
 PUnit.unit)).bind
 fun r =>
 loK r (fun r => some r) fun j p =>
 br (j == (0 : Nat))
 ((br (!decide (p.snd.fst.1 = (7 : Int))) (some (true, PUnit.unit))
 (p.snd.fst.snd.snd.snd.snd.snd.snd.snd.snd.1[(0 : Nat)]?.bind fun y =>
 br (CVal.fits true (9 : Nat) y)
 ((y.cell (0 : Nat)).bind fun c =>
 (CVal.asInt IntKind.i64 c).bind fun n =>
 some (decide (n = (4 : Int)), PUnit.unit))
 none)).bind
 fun y => some (CVal.bool y.1, []))
 none)))
 none
theorem eq_s_l2One (C : CallT) (L : LoopT) (a0 : Int) (a1 : Int) (a2 : List UInt8) (a3 : List UInt8) (a40 : Int) (a41 : Int) (a42 : List CVal) (a5 : List CVal) (a6 : List CVal) : evF E N C L f_s_l2One [AVal.v
 (CVal.agg
 [CVal.int IntKind.i64 a0, CVal.int IntKind.i64 a1, CVal.str a2, CVal.str a3, CVal.int IntKind.i64 a40,
 CVal.int IntKind.i64 a41, CVal.sl a42, CVal.sl a5, CVal.sl a6])] [] = nf_s_l2One C L a0 a1 a2 a3 a40 a41 a42 a5 a6 := by kernel_rfl
theorem go_s_l2One (a0 : Int) (a1 : Int) (a2 : List UInt8) (a3 : List UInt8) (a40 : Int) (a41 : Int) (a42 : List CVal) (a5 : List CVal) (a6 : List CVal) (R : Ret) (h : nf_s_l2One CC LL a0 a1 a2 a3 a40 a41 a42 a5 a6 = some R) : CC f_s_l2One [AVal.v
 (CVal.agg
 [CVal.int IntKind.i64 a0, CVal.int IntKind.i64 a1, CVal.str a2, CVal.str a3, CVal.int IntKind.i64 a40,
 CVal.int IntKind.i64 a41, CVal.sl a42, CVal.sl a5, CVal.sl a6])] [] = some R := fnW (by decide) rfl ((eq_s_l2One CC LL a0 a1 a2 a3 a40 a41 a42 a5 a6).trans h)
noncomputable def nf_s_l2Number (C : CallT) (L : LoopT) (a0 : Int) (a1 : Int) (a2 : List UInt8) (a3 : List UInt8) (a40 : Int) (a41 : Int) (a42 : List CVal) (a5 : List CVal) (a6 : List CVal) : Option Ret :=
 br (decide (a0 = (1 : Int)))
 ((C f_s_l1In
 [AVal.v (CVal.int IntKind.i64 a1), AVal.v (CVal.int IntKind.i64 (-1000000 : Int)),
 AVal.v (CVal.int IntKind.i64 (1000000 : Int))]
 []).bind
 fun r => some (r.1, []))
 (br (decide (a0 = (2 : Int)))
 ((C f_s_l1In
 [AVal.v (CVal.int IntKind.i64 a1), AVal.v (CVal.int IntKind.i64 (0 : Int)),
 AVal.v (CVal.int IntKind.i64 (1 : Int))]
 []).bind
 fun r => some (r.1, []))
 (br (decide (a0 = (6 : Int)))
 ((C f_s_l1In
 [AVal.v (CVal.int IntKind.i64 a1), AVal.v (CVal.int IntKind.i64 (0 : Int)),
 AVal.v (CVal.int IntKind.i64 (2 : Int))]
 []).bind
 fun r => some (r.1, []))
 (br (decide (a0 = (7 : Int)))
 ((C f_s_l1In
 [AVal.v (CVal.int IntKind.i64 a1), AVal.v (CVal.int IntKind.i64 (0 : Int)),
 AVal.v (CVal.int IntKind.i64 (2 : Int))]
 []).bind
 fun r => some (r.1, []))
 (br (decide (a0 = (15 : Int)))
 ((C f_s_l1In
 [AVal.v (CVal.int IntKind.i64 a1), AVal.v (CVal.int IntKind.i64 (1 : Int)),
 AVal.v (CVal.int IntKind.i64 (5 : Int))]
 []).bind
 fun r => some (r.1, []))
 (some (CVal.bool (decide (a1 = (0 : Int))), []))))))
theorem eq_s_l2Number (C : CallT) (L : LoopT) (a0 : Int) (a1 : Int) (a2 : List UInt8) (a3 : List UInt8) (a40 : Int) (a41 : Int) (a42 : List CVal) (a5 : List CVal) (a6 : List CVal) : evF E N C L f_s_l2Number [AVal.v
 (CVal.agg
 [CVal.int IntKind.i64 a0, CVal.int IntKind.i64 a1, CVal.str a2, CVal.str a3, CVal.int IntKind.i64 a40,
 CVal.int IntKind.i64 a41, CVal.sl a42, CVal.sl a5, CVal.sl a6])] [] = nf_s_l2Number C L a0 a1 a2 a3 a40 a41 a42 a5 a6 := by kernel_rfl
theorem go_s_l2Number (a0 : Int) (a1 : Int) (a2 : List UInt8) (a3 : List UInt8) (a40 : Int) (a41 : Int) (a42 : List CVal) (a5 : List CVal) (a6 : List CVal) (R : Ret) (h : nf_s_l2Number CC LL a0 a1 a2 a3 a40 a41 a42 a5 a6 = some R) : CC f_s_l2Number [AVal.v
 (CVal.agg
 [CVal.int IntKind.i64 a0, CVal.int IntKind.i64 a1, CVal.str a2, CVal.str a3, CVal.int IntKind.i64 a40,
 CVal.int IntKind.i64 a41, CVal.sl a42, CVal.sl a5, CVal.sl a6])] [] = some R := fnW (by decide) rfl ((eq_s_l2Number CC LL a0 a1 a2 a3 a40 a41 a42 a5 a6).trans h)
noncomputable def nf_i_parts (C : CallT) (L : LoopT) (a : Int) : Option Ret :=
 br (decide (a = (1 : Int))) (some (CVal.int IntKind.i64 (0 : Int), []))
 (br (decide (a = (2 : Int))) (some (CVal.int IntKind.i64 (0 : Int), []))
 (br (decide (a = (3 : Int))) (some (CVal.int IntKind.i64 (0 : Int), []))
 (br (decide (a = (12 : Int))) (some (CVal.int IntKind.i64 (0 : Int), []))
 (br (decide (a = (4 : Int))) (some (CVal.int IntKind.i64 (1 : Int), []))
 (br (decide (a = (10 : Int))) (some (CVal.int IntKind.i64 (1 : Int), []))
 (br (decide (a = (11 : Int))) (some (CVal.int IntKind.i64 (1 : Int), []))
 (br (decide (a = (16 : Int))) (some (CVal.int IntKind.i64 (1 : Int), []))
 (br (decide (a = (5 : Int))) (some (CVal.int IntKind.i64 (2 : Int), []))
 (br (decide (a = (6 : Int))) (some (CVal.int IntKind.i64 (2 : Int), []))
 (br (decide (a = (7 : Int))) (some (CVal.int IntKind.i64 (2 : Int), []))
 (br (decide (a = (9 : Int))) (some (CVal.int IntKind.i64 (2 : Int), []))
 (br (decide (a = (13 : Int))) (some (CVal.int IntKind.i64 (2 : Int), []))
 (br (decide (a = (15 : Int))) (some (CVal.int IntKind.i64 (2 : Int), []))
 (br (decide (a = (17 : Int))) (some (CVal.int IntKind.i64 (2 : Int), []))
 (br (decide (a = (8 : Int))) (some (CVal.int IntKind.i64 (3 : Int), []))
 (br (decide (a = (14 : Int))) (some (CVal.int IntKind.i64 (3 : Int), []))
 (some (CVal.int IntKind.i64 (-1 : Int), []))))))))))))))))))
theorem eq_i_parts (C : CallT) (L : LoopT) (a : Int) : evF E N C L f_i_parts [AVal.v (CVal.int IntKind.i64 a)] [] = nf_i_parts C L a := by kernel_rfl
theorem go_i_parts (a : Int) (R : Ret) (h : nf_i_parts CC LL a = some R) : CC f_i_parts [AVal.v (CVal.int IntKind.i64 a)] [] = some R := fnW (by decide) rfl ((eq_i_parts CC LL a).trans h)
noncomputable def nf_i_TyOk (C : CallT) (L : LoopT) (a0 : Int) (a1 : Int) (a2 : List CVal) : Option Ret :=
 (C f_i_measure [AVal.v (CVal.agg [CVal.int IntKind.i64 a0, CVal.int IntKind.i64 a1, CVal.sl a2])] []).bind fun r =>
 r.1.asTup.bind fun y =>
 y[(0 : Nat)]?.bind fun y =>
 r.1.asTup.bind fun y_1 =>
 y_1[(1 : Nat)]?.bind fun y_2 =>
 r.1.asTup.bind fun y_3 =>
 y_3[(2 : Nat)]?.bind fun y_4 =>
 (y_4.asBool.bind fun b =>
 br b
 ((CVal.asInt IntKind.i64 y).bind fun n =>
 br (decide (n ≤ (6 : Int)))
 ((CVal.asInt IntKind.i64 y_2).bind fun n => some (decide (n ≤ (60 : Int)), PUnit.unit))
 (some (false, PUnit.unit)))
 (some (false, PUnit.unit))).bind
 fun y => some (CVal.bool y.1, [])
theorem eq_i_TyOk (C : CallT) (L : LoopT) (a0 : Int) (a1 : Int) (a2 : List CVal) : evF E N C L f_i_TyOk [AVal.v (CVal.agg [CVal.int IntKind.i64 a0, CVal.int IntKind.i64 a1, CVal.sl a2])] [] = nf_i_TyOk C L a0 a1 a2 := by kernel_rfl
theorem go_i_TyOk (a0 : Int) (a1 : Int) (a2 : List CVal) (R : Ret) (h : nf_i_TyOk CC LL a0 a1 a2 = some R) : CC f_i_TyOk [AVal.v (CVal.agg [CVal.int IntKind.i64 a0, CVal.int IntKind.i64 a1, CVal.sl a2])] [] = some R := fnW (by decide) rfl ((eq_i_TyOk CC LL a0 a1 a2).trans h)
noncomputable def nf_s_l1In (C : CallT) (L : LoopT) (a : Int) (b : Int) (c : Int) : Option Ret :=
 (br (decide (b ≤ a)) (some (decide (a ≤ c), PUnit.unit)) (some (false, PUnit.unit))).bind fun y =>
 some (CVal.bool y.1, [])
theorem eq_s_l1In (C : CallT) (L : LoopT) (a : Int) (b : Int) (c : Int) : evF E N C L f_s_l1In [AVal.v (CVal.int IntKind.i64 a), AVal.v (CVal.int IntKind.i64 b), AVal.v (CVal.int IntKind.i64 c)] [] = nf_s_l1In C L a b c := by kernel_rfl
theorem go_s_l1In (a : Int) (b : Int) (c : Int) (R : Ret) (h : nf_s_l1In CC LL a b c = some R) : CC f_s_l1In [AVal.v (CVal.int IntKind.i64 a), AVal.v (CVal.int IntKind.i64 b), AVal.v (CVal.int IntKind.i64 c)] [] = some R := fnW (by decide) rfl ((eq_s_l1In CC LL a b c).trans h)
noncomputable def nf_i_measure (C : CallT) (L : LoopT) (a0 : Int) (a1 : Int) (a2 : List CVal) : Option Ret :=
 ((C f_i_tyParts [AVal.v (CVal.int IntKind.i64 a0)] []).bind fun r =>
 (CVal.asInt IntKind.i64 r.1).bind fun n =>
 br (!decide ((↑a2.length : Int) = n)) (some (true, PUnit.unit))
 (br (!decide (a1 = (0 : Int)))
 (br (!decide (a0 = (3 : Int))) (some (true, PUnit.unit)) (some (!decide (a1 = (1 : Int)), PUnit.unit)))
 (some (false, PUnit.unit)))).bind
 fun y =>
 br y.1 (some (CVal.tup [CVal.int IntKind.i64 (0 : Int), CVal.int IntKind.i64 (0 : Int), CVal.bool false], []))
 ((L f_i_measure (0 : Nat) lc_i_measure_0 [] k_i_measure_0
 (((0 : Int), (1 : Int), a2, (↑a2.length : Int), (0 : Int), PUnit.unit), PUnit.unit)).bind
 fun r =>
 loK r (fun r => some r) fun j p =>
 br (j == (0 : Nat))
 (some
 (CVal.tup
 [CVal.int IntKind.i64 (IntKind.i64.wrap (p.fst.1 + (1 : Int))), CVal.int IntKind.i64 p.fst.snd.1,
 CVal.bool true],
 []))
 none)
theorem eq_i_measure (C : CallT) (L : LoopT) (a0 : Int) (a1 : Int) (a2 : List CVal) : evF E N C L f_i_measure [AVal.v (CVal.agg [CVal.int IntKind.i64 a0, CVal.int IntKind.i64 a1, CVal.sl a2])] [] = nf_i_measure C L a0 a1 a2 := by kernel_rfl
theorem go_i_measure (a0 : Int) (a1 : Int) (a2 : List CVal) (R : Ret) (h : nf_i_measure CC LL a0 a1 a2 = some R) : CC f_i_measure [AVal.v (CVal.agg [CVal.int IntKind.i64 a0, CVal.int IntKind.i64 a1, CVal.sl a2])] [] = some R := fnW (by decide) rfl ((eq_i_measure CC LL a0 a1 a2).trans h)
noncomputable def nf_i_tyParts (C : CallT) (L : LoopT) (a : Int) : Option Ret :=
 br (decide (a = (1 : Int))) (some (CVal.int IntKind.i64 (0 : Int), []))
 (br (decide (a = (2 : Int))) (some (CVal.int IntKind.i64 (0 : Int), []))
 (br (decide (a = (3 : Int))) (some (CVal.int IntKind.i64 (0 : Int), []))
 (br (decide (a = (6 : Int))) (some (CVal.int IntKind.i64 (1 : Int), []))
 (br (decide (a = (4 : Int))) (some (CVal.int IntKind.i64 (2 : Int), []))
 (br (decide (a = (5 : Int))) (some (CVal.int IntKind.i64 (2 : Int), []))
 (some (CVal.int IntKind.i64 (-1 : Int), [])))))))
theorem eq_i_tyParts (C : CallT) (L : LoopT) (a : Int) : evF E N C L f_i_tyParts [AVal.v (CVal.int IntKind.i64 a)] [] = nf_i_tyParts C L a := by kernel_rfl
theorem go_i_tyParts (a : Int) (R : Ret) (h : nf_i_tyParts CC LL a = some R) : CC f_i_tyParts [AVal.v (CVal.int IntKind.i64 a)] [] = some R := fnW (by decide) rfl ((eq_i_tyParts CC LL a).trans h)
noncomputable def nl_l_toTyS_0 (C : CallT) (L : LoopT) (x00 : List CVal) (x02 : Int) (x1 : List CVal) : Option (LO k_l_toTyS_0.T) :=
 br (decide (x02 < (↑x00.length : Int)))
 (br (decide ((0 : Int) ≤ x02) && true)
 (x00[x02.toNat]?.bind fun y =>
 br (CVal.fits true (3 : Nat) y)
 ((y.sub (0 : Nat) (3 : Nat)).bind fun y =>
 (C f_l_toTy [AVal.v y] []).bind fun r =>
 br (CVal.isAggN (3 : Nat) r.1)
 ((r.1.cell (0 : Nat)).bind fun c =>
 (r.1.cell (1 : Nat)).bind fun c_1 =>
 (r.1.cell (2 : Nat)).bind fun c_2 =>
 c_2.asSl.bind fun xs =>
 br (decide ((0 : Int) ≤ x02) && true)
 (br (decide (x02.toNat < x1.length) && true)
 ((CVal.asInt IntKind.i64 c).bind fun n =>
 (CVal.asInt IntKind.i64 c_1).bind fun n_1 =>
 x1[x02.toNat]?.bind fun y =>
 br (CVal.fits true (3 : Nat) y)
 (L f_l_toTyS (0 : Nat) lc_l_toTyS_0 [] k_l_toTyS_0
 ((x00, PUnit.unit, IntKind.i64.wrap (x02 + (1 : Int)), PUnit.unit),
 x1.set x02.toNat
 (CVal.agg [CVal.int IntKind.i64 n, CVal.int IntKind.i64 n_1, CVal.sl xs]),
 PUnit.unit))
 (br (y.isAgg && decide ((3 : Nat) ≤ y.cells.length))
 (L f_l_toTyS (0 : Nat) lc_l_toTyS_0 [] k_l_toTyS_0
 ((x00, PUnit.unit, IntKind.i64.wrap (x02 + (1 : Int)), PUnit.unit),
 x1.set x02.toNat
 (CVal.agg
 (CVal.int IntKind.i64 n ::
 CVal.int IntKind.i64 n_1 :: CVal.sl xs :: List.drop (3 : Nat) y.cells)),
 PUnit.unit))
 none))
 none)
 none)
 none)
 none)
 none)
 (some (LO.out (0 : Nat) ((x00, PUnit.unit, x02, PUnit.unit), x1, PUnit.unit)))
theorem el_l_toTyS_0 (C : CallT) (L : LoopT) (x00 : List CVal) (x02 : Int) (x1 : List CVal) : evL E N C L f_l_toTyS 0 lc_l_toTyS_0 [] k_l_toTyS_0 ((x00, (), x02, ()), x1, ()) = nl_l_toTyS_0 C L x00 x02 x1 := by kernel_rfl
theorem gl_l_toTyS_0 (x00 : List CVal) (x02 : Int) (x1 : List CVal) (R : LO k_l_toTyS_0.T) (h : nl_l_toTyS_0 CC LL x00 x02 x1 = some R) : LL f_l_toTyS 0 lc_l_toTyS_0 [] k_l_toTyS_0 ((x00, (), x02, ()), x1, ()) = some R := loopW ((el_l_toTyS_0 CC LL x00 x02 x1).trans h)
noncomputable def nl_l_eqTermS_0 (C : CallT) (L : LoopT) (x00 : List CVal) (x01 : List CVal) (x02 : Int) : Option (LO k_l_eqTermS_0.T) :=
 br (decide (x02 < (↑x00.length : Int)))
 (br (decide ((0 : Int) ≤ x02) && true)
 (x00[x02.toNat]?.bind fun y =>
 br (CVal.fits true (9 : Nat) y)
 ((y.sub (0 : Nat) (9 : Nat)).bind fun y =>
 br (decide ((0 : Int) ≤ x02) && true)
 (x01[x02.toNat]?.bind fun y_1 =>
 br (CVal.fits true (9 : Nat) y_1)
 ((y_1.sub (0 : Nat) (9 : Nat)).bind fun y_2 =>
 (C f_l_eqTerm [AVal.v y, AVal.v y_2] []).bind fun r =>
 r.1.asBool.bind fun b =>
 br (!b) (some (LO.ret (CVal.bool false, [])))
 (L f_l_eqTermS (0 : Nat) lc_l_eqTermS_0 [] k_l_eqTermS_0
 ((x00, x01, IntKind.i64.wrap (x02 + (1 : Int)), PUnit.unit), PUnit.unit)))
 none)
 none)
 none)
 none)
 (some (LO.out (0 : Nat) ((x00, x01, x02, PUnit.unit), PUnit.unit)))
theorem el_l_eqTermS_0 (C : CallT) (L : LoopT) (x00 : List CVal) (x01 : List CVal) (x02 : Int) : evL E N C L f_l_eqTermS 0 lc_l_eqTermS_0 [] k_l_eqTermS_0 ((x00, x01, x02, ()), ()) = nl_l_eqTermS_0 C L x00 x01 x02 := by kernel_rfl
theorem gl_l_eqTermS_0 (x00 : List CVal) (x01 : List CVal) (x02 : Int) (R : LO k_l_eqTermS_0.T) (h : nl_l_eqTermS_0 CC LL x00 x01 x02 = some R) : LL f_l_eqTermS 0 lc_l_eqTermS_0 [] k_l_eqTermS_0 ((x00, x01, x02, ()), ()) = some R := loopW ((el_l_eqTermS_0 CC LL x00 x01 x02).trans h)
noncomputable def nl_i_termSize_0 (C : CallT) (L : LoopT) (x00 : Int) (x01 : Int) (x02 : List CVal) (x03 : Int) (x04 : Int) : Option (LO k_i_termSize_0.T) :=
 br (decide (x04 < x03))
 (br (decide ((0 : Int) ≤ x04) && true)
 (x02[x04.toNat]?.bind fun y =>
 br (CVal.fits true (9 : Nat) y)
 ((y.sub (0 : Nat) (9 : Nat)).bind fun y =>
 br (CVal.isAggN (9 : Nat) y)
 ((y.cell (0 : Nat)).bind fun c =>
 (y.cell (1 : Nat)).bind fun c_1 =>
 (y.cell (2 : Nat)).bind fun c_2 =>
 (y.cell (3 : Nat)).bind fun c_3 =>
 (y.cell (4 : Nat)).bind fun c_4 =>
 (y.cell (5 : Nat)).bind fun c_5 =>
 (y.cell (6 : Nat)).bind fun c_6 =>
 (y.cell (7 : Nat)).bind fun c_7 =>
 (y.cell (8 : Nat)).bind fun c_8 =>
 (C f_i_termSize [AVal.v (CVal.agg [c, c_1, c_2, c_3, c_4, c_5, c_6, c_7, c_8])] []).bind
 fun r =>
 r.1.asTup.bind fun y =>
 y[(0 : Nat)]?.bind fun y =>
 r.1.asTup.bind fun y_1 =>
 y_1[(1 : Nat)]?.bind fun y_2 =>
 r.1.asTup.bind fun y_3 =>
 y_3[(2 : Nat)]?.bind fun y_4 =>
 y_4.asBool.bind fun b =>
 br (!b)
 (some
 (LO.ret
 (CVal.tup
 [CVal.int IntKind.i64 (0 : Int), CVal.int IntKind.i64 (0 : Int),
 CVal.bool false],
 [])))
 ((CVal.asInt IntKind.i64 y).bind fun n =>
 (CVal.asInt IntKind.i64 y_2).bind fun n_1 =>
 L f_i_termSize (0 : Nat) lc_i_termSize_0 [] k_i_termSize_0
 ((bif decide (x00 < n) then n else x00,
 IntKind.i64.wrap (x01 + n_1), x02, x03,
 IntKind.i64.wrap (x04 + (1 : Int)), PUnit.unit),
 PUnit.unit)))
 none)
 none)
 none)
 (some (LO.out (0 : Nat) ((x00, x01, x02, x03, x04, PUnit.unit), PUnit.unit)))
theorem el_i_termSize_0 (C : CallT) (L : LoopT) (x00 : Int) (x01 : Int) (x02 : List CVal) (x03 : Int) (x04 : Int) : evL E N C L f_i_termSize 0 lc_i_termSize_0 [] k_i_termSize_0 ((x00, x01, x02, x03, x04, ()), ()) = nl_i_termSize_0 C L x00 x01 x02 x03 x04 := by kernel_rfl
theorem gl_i_termSize_0 (x00 : Int) (x01 : Int) (x02 : List CVal) (x03 : Int) (x04 : Int) (R : LO k_i_termSize_0.T) (h : nl_i_termSize_0 CC LL x00 x01 x02 x03 x04 = some R) : LL f_i_termSize 0 lc_i_termSize_0 [] k_i_termSize_0 ((x00, x01, x02, x03, x04, ()), ()) = some R := loopW ((el_i_termSize_0 CC LL x00 x01 x02 x03 x04).trans h)
noncomputable def nl_s_l1Look_0 (C : CallT) (L : LoopT) (x00 : Int) (x03 : Int) (x10 : Int) (x20 : Int) (x21 : Int) (x22 : List CVal) : Option (LO k_s_l1Look_0.T) :=
 br (decide (x03 < (↑x22.length : Int)))
 (br (decide ((0 : Int) ≤ x03) && true)
 (x22[x03.toNat]?.bind fun y =>
 br (CVal.fits true (3 : Nat) y)
 ((y.sub (0 : Nat) (3 : Nat)).bind fun y =>
 (C f_s_l1Look
 [AVal.v y, AVal.v (CVal.int IntKind.i64 (IntKind.i64.wrap (x00 - (1 : Int)))),
 AVal.lptr (0 : Nat) (0 : Nat)]
 [PB.box [AVal.v (CVal.int IntKind.i64 x10)]]).bind
 fun r =>
 r.2[(0 : Nat)]?.bind fun y =>
 y[(0 : Nat)]?.bind fun y =>
 r.1.asBool.bind fun b =>
 br (!b) (some (LO.ret (CVal.bool false, [[y]])))
 ((CVal.asInt IntKind.i64 y).bind fun n =>
 L f_s_l1Look (0 : Nat) lc_s_l1Look_0 [PSh.box [none]] k_s_l1Look_0
 ((x00, PUnit.unit, PUnit.unit, IntKind.i64.wrap (x03 + (1 : Int)), PUnit.unit), (n, PUnit.unit),
 (x20, x21, x22, PUnit.unit), PUnit.unit)))
 none)
 none)
 (some
 (LO.out (0 : Nat)
 ((x00, PUnit.unit, PUnit.unit, x03, PUnit.unit), (x10, PUnit.unit), (x20, x21, x22, PUnit.unit), PUnit.unit)))
theorem el_s_l1Look_0 (C : CallT) (L : LoopT) (x00 : Int) (x03 : Int) (x10 : Int) (x20 : Int) (x21 : Int) (x22 : List CVal) : evL E N C L f_s_l1Look 0 lc_s_l1Look_0 [PSh.box [none]] k_s_l1Look_0 ((x00, (), (), x03, ()), (x10, ()), (x20, x21, x22, ()), ()) = nl_s_l1Look_0 C L x00 x03 x10 x20 x21 x22 := by kernel_rfl
theorem gl_s_l1Look_0 (x00 : Int) (x03 : Int) (x10 : Int) (x20 : Int) (x21 : Int) (x22 : List CVal) (R : LO k_s_l1Look_0.T) (h : nl_s_l1Look_0 CC LL x00 x03 x10 x20 x21 x22 = some R) : LL f_s_l1Look 0 lc_s_l1Look_0 [PSh.box [none]] k_s_l1Look_0 ((x00, (), (), x03, ()), (x10, ()), (x20, x21, x22, ()), ()) = some R := loopW ((el_s_l1Look_0 CC LL x00 x03 x10 x20 x21 x22).trans h)
noncomputable def nl_slices_IndexFunc_Ty_0 (C : CallT) (L : LoopT) (x00 : List CVal) (x01 : CVal) (x02 : Int) (x03 : Int) : Option (LO k_slices_IndexFunc_Ty_0.T) :=
 br (decide (x03 < x02))
 (br (decide ((0 : Int) ≤ x03) && true)
 (x00[x03.toNat]?.bind fun y =>
 br (CVal.fits true (3 : Nat) y)
 ((y.sub (0 : Nat) (3 : Nat)).bind fun y =>
 (C apId [AVal.v x01, AVal.v y] []).bind fun r =>
 r.1.asBool.bind fun b =>
 br b (some (LO.ret (CVal.int IntKind.i64 x03, [])))
 (L f_slices_IndexFunc_Ty (0 : Nat) lc_slices_IndexFunc_Ty_0 [] k_slices_IndexFunc_Ty_0
 ((x00, x01, x02, IntKind.i64.wrap (x03 + (1 : Int)), PUnit.unit), PUnit.unit)))
 none)
 none)
 (some (LO.out (0 : Nat) ((x00, x01, x02, x03, PUnit.unit), PUnit.unit)))
theorem el_slices_IndexFunc_Ty_0 (C : CallT) (L : LoopT) (x00 : List CVal) (x01 : CVal) (x02 : Int) (x03 : Int) : evL E N C L f_slices_IndexFunc_Ty 0 lc_slices_IndexFunc_Ty_0 [] k_slices_IndexFunc_Ty_0 ((x00, x01, x02, x03, ()), ()) = nl_slices_IndexFunc_Ty_0 C L x00 x01 x02 x03 := by kernel_rfl
theorem gl_slices_IndexFunc_Ty_0 (x00 : List CVal) (x01 : CVal) (x02 : Int) (x03 : Int) (R : LO k_slices_IndexFunc_Ty_0.T) (h : nl_slices_IndexFunc_Ty_0 CC LL x00 x01 x02 x03 = some R) : LL f_slices_IndexFunc_Ty 0 lc_slices_IndexFunc_Ty_0 [] k_slices_IndexFunc_Ty_0 ((x00, x01, x02, x03, ()), ()) = some R := loopW ((el_slices_IndexFunc_Ty_0 CC LL x00 x01 x02 x03).trans h)
end Go.Proofs.Ytbimglfmmmlicaa.Abs
