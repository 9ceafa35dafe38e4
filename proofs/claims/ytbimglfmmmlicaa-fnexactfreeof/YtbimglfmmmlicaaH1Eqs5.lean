/- What the functions come to in the abstract machine. -/
import Derived.Test.YtbimglfmmmlicaaH1Ann
import Derived.KernelRfl
set_option linter.unusedVariables false
set_option maxRecDepth 100000
namespace Go.Proofs.Ytbimglfmmmlicaa.Abs
open Go Go.Proofs
noncomputable def nf_l_eqStringS (C : CallT) (L : LoopT) (a : List CVal) (b : List CVal) : Option Ret :=
 br (!decide ((↑a.length : Int) = (↑b.length : Int))) (some (CVal.bool false, []))
 ((L f_l_eqStringS (0 : Nat) lc_l_eqStringS_0 [] k_l_eqStringS_0 ((a, b, (0 : Int), PUnit.unit), PUnit.unit)).bind
 fun r => loK r (fun r => some r) fun j p => br (j == (0 : Nat)) (some (CVal.bool true, [])) none)
theorem eq_l_eqStringS (C : CallT) (L : LoopT) (a : List CVal) (b : List CVal) : evF E N C L f_l_eqStringS [AVal.v (CVal.sl a), AVal.v (CVal.sl b)] [] = nf_l_eqStringS C L a b := by kernel_rfl
theorem go_l_eqStringS (a : List CVal) (b : List CVal) (R : Ret) (h : nf_l_eqStringS CC LL a b = some R) : CC f_l_eqStringS [AVal.v (CVal.sl a), AVal.v (CVal.sl b)] [] = some R := fnW (by decide) rfl ((eq_l_eqStringS CC LL a b).trans h)
noncomputable def nf_l_szTyS (C : CallT) (L : LoopT) (a : List CVal) (b : Int) : Option Ret :=
 br (decide (IntKind.i64.wrap (b - (↑a.length : Int)) < (0 : Int))) (some (CVal.int IntKind.i64 (-1 : Int), []))
 ((L f_l_szTyS (0 : Nat) lc_l_szTyS_0 [] k_l_szTyS_0
 ((a, IntKind.i64.wrap (b - (↑a.length : Int)), (0 : Int), PUnit.unit), PUnit.unit)).bind
 fun r => loK r (fun r => some r) fun j p => br (j == (0 : Nat)) (some (CVal.int IntKind.i64 p.fst.snd.1, [])) none)
theorem eq_l_szTyS (C : CallT) (L : LoopT) (a : List CVal) (b : Int) : evF E N C L f_l_szTyS [AVal.v (CVal.sl a), AVal.v (CVal.int IntKind.i64 b)] [] = nf_l_szTyS C L a b := by kernel_rfl
theorem go_l_szTyS (a : List CVal) (b : Int) (R : Ret) (h : nf_l_szTyS CC LL a b = some R) : CC f_l_szTyS [AVal.v (CVal.sl a), AVal.v (CVal.int IntKind.i64 b)] [] = some R := fnW (by decide) rfl ((eq_l_szTyS CC LL a b).trans h)
noncomputable def nf_s_l2Free (C : CallT) (L : LoopT) (a0 : Int) (a1 : Int) (a2 : List UInt8) (a3 : List UInt8) (a40 : Int) (a41 : Int) (a42 : List CVal) (a5 : List CVal) (a6 : List CVal) (b : List CVal) (c : List CVal) : Option Ret :=
 (br (decide (a0 = (3 : Int)))
 ((C f_s_l2Has [AVal.v (CVal.sl b), AVal.v (CVal.str a2)] []).bind fun r =>
 r.1.asBool.bind fun b =>
 br (!b)
 ((C f_s_l2Has [AVal.v (CVal.sl c), AVal.v (CVal.str a2)] []).bind fun r =>
 br (!scalar r.1) none (r.1.asBool.bind fun b => some (!b, PUnit.unit)))
 (some (false, PUnit.unit)))
 (some (false, PUnit.unit))).bind
 fun y =>
 br y.1
 (br (decide (c.length + (1 : Nat) ≤ (4294967296 : Nat)) && true && true)
 ((L f_s_l2Free (0 : Nat) lc_s_l2Free_0 [PSh.arr (Md.mk true false (0 : Nat)) false (1 : Nat)] k_s_l2Free_0
 ((b, PUnit.unit, PUnit.unit, (0 : Int), PUnit.unit), c ++ [CVal.str a2],
 (a0, a1, a2, a3, a40, a41, a42, a5, a6, PUnit.unit), PUnit.unit)).bind
 fun r => loK r (fun r => some r) fun j p => br (j == (0 : Nat)) (some (CVal.nilp, [p.snd.1])) none)
 none)
 ((L f_s_l2Free (0 : Nat) lc_s_l2Free_0 [PSh.arr (Md.mk true false (0 : Nat)) false (1 : Nat)] k_s_l2Free_0
 ((b, PUnit.unit, PUnit.unit, (0 : Int), PUnit.unit), c, (a0, a1, a2, a3, a40, a41, a42, a5, a6, PUnit.unit),
 PUnit.unit)).bind
 fun r => loK r (fun r => some r) fun j p => br (j == (0 : Nat)) (some (CVal.nilp, [p.snd.1])) none)
theorem eq_s_l2Free (C : CallT) (L : LoopT) (a0 : Int) (a1 : Int) (a2 : List UInt8) (a3 : List UInt8) (a40 : Int) (a41 : Int) (a42 : List CVal) (a5 : List CVal) (a6 : List CVal) (b : List CVal) (c : List CVal) : evF E N C L f_s_l2Free [AVal.v
 (CVal.agg
 [CVal.int IntKind.i64 a0, CVal.int IntKind.i64 a1, CVal.str a2, CVal.str a3, CVal.int IntKind.i64 a40,
 CVal.int IntKind.i64 a41, CVal.sl a42, CVal.sl a5, CVal.sl a6]),
 AVal.v (CVal.sl b), AVal.lref (0 : Nat) (0 : Nat)] [PB.arr (Md.mk true false (0 : Nat)) false (1 : Nat) c] = nf_s_l2Free C L a0 a1 a2 a3 a40 a41 a42 a5 a6 b c := by kernel_rfl
theorem go_s_l2Free (a0 : Int) (a1 : Int) (a2 : List UInt8) (a3 : List UInt8) (a40 : Int) (a41 : Int) (a42 : List CVal) (a5 : List CVal) (a6 : List CVal) (b : List CVal) (c : List CVal) (R : Ret) (h : nf_s_l2Free CC LL a0 a1 a2 a3 a40 a41 a42 a5 a6 b c = some R) : CC f_s_l2Free [AVal.v
 (CVal.agg
 [CVal.int IntKind.i64 a0, CVal.int IntKind.i64 a1, CVal.str a2, CVal.str a3, CVal.int IntKind.i64 a40,
 CVal.int IntKind.i64 a41, CVal.sl a42, CVal.sl a5, CVal.sl a6]),
 AVal.v (CVal.sl b), AVal.lref (0 : Nat) (0 : Nat)] [PB.arr (Md.mk true false (0 : Nat)) false (1 : Nat) c] = some R := fnW (by decide) rfl ((eq_s_l2Free CC LL a0 a1 a2 a3 a40 a41 a42 a5 a6 b c).trans h)
noncomputable def nf_l_markTy (C : CallT) (L : LoopT) (a0 : Int) (a1 : Int) (a2 : List CVal) (b : Int) : Option Ret :=
 (C f_l_markTyS [AVal.lref (0 : Nat) (0 : Nat), AVal.v (CVal.int IntKind.i64 b)]
 [PB.arr (Md.mk true true (0 : Nat)) false (3 : Nat) a2]).bind
 fun r => r.2[(0 : Nat)]?.bind fun y => some (r.1, [y])
theorem eq_l_markTy (C : CallT) (L : LoopT) (a0 : Int) (a1 : Int) (a2 : List CVal) (b : Int) : evF E N C L f_l_markTy [AVal.agg [AVal.v (CVal.int IntKind.i64 a0), AVal.v (CVal.int IntKind.i64 a1), AVal.lref (0 : Nat) (0 : Nat)],
 AVal.v (CVal.int IntKind.i64 b)] [PB.arr (Md.mk true true (0 : Nat)) false (3 : Nat) a2] = nf_l_markTy C L a0 a1 a2 b := by kernel_rfl
theorem go_l_markTy (a0 : Int) (a1 : Int) (a2 : List CVal) (b : Int) (R : Ret) (h : nf_l_markTy CC LL a0 a1 a2 b = some R) : CC f_l_markTy [AVal.agg [AVal.v (CVal.int IntKind.i64 a0), AVal.v (CVal.int IntKind.i64 a1), AVal.lref (0 : Nat) (0 : Nat)],
 AVal.v (CVal.int IntKind.i64 b)] [PB.arr (Md.mk true true (0 : Nat)) false (3 : Nat) a2] = some R := fnW (by decide) rfl ((eq_l_markTy CC LL a0 a1 a2 b).trans h)
noncomputable def nf_s_l2Binds (C : CallT) (L : LoopT) (a0 : Int) (a1 : Int) (a2 : List UInt8) (a3 : List UInt8) (a40 : Int) (a41 : Int) (a42 : List CVal) (a5 : List CVal) (a6 : List CVal) (b : Int) : Option Ret :=
 (br (decide (a0 = (4 : Int))) (some (true, PUnit.unit))
 (br (decide (a0 = (7 : Int))) (some (true, PUnit.unit))
 (br (decide (a0 = (6 : Int)))
 (br (decide (b = (1 : Int))) (some (true, PUnit.unit))
 (br (decide (a0 = (17 : Int))) (some (decide (b = (1 : Int)), PUnit.unit)) (some (false, PUnit.unit))))
 (br (decide (a0 = (17 : Int))) (some (decide (b = (1 : Int)), PUnit.unit)) (some (false, PUnit.unit)))))).bind
 fun y =>
 br y.1 (some (CVal.sl [CVal.str a2], []))
 ((br (decide (a0 = (14 : Int))) (some (decide (b = (2 : Int)), PUnit.unit)) (some (false, PUnit.unit))).bind
 fun y => br y.1 (some (CVal.sl [CVal.str a2, CVal.str a3], [])) (some (CVal.sl [], [])))
theorem eq_s_l2Binds (C : CallT) (L : LoopT) (a0 : Int) (a1 : Int) (a2 : List UInt8) (a3 : List UInt8) (a40 : Int) (a41 : Int) (a42 : List CVal) (a5 : List CVal) (a6 : List CVal) (b : Int) : evF E N C L f_s_l2Binds [AVal.v
 (CVal.agg
 [CVal.int IntKind.i64 a0, CVal.int IntKind.i64 a1, CVal.str a2, CVal.str a3, CVal.int IntKind.i64 a40,
 CVal.int IntKind.i64 a41, CVal.sl a42, CVal.sl a5, CVal.sl a6]),
 AVal.v (CVal.int IntKind.i64 b)] [] = nf_s_l2Binds C L a0 a1 a2 a3 a40 a41 a42 a5 a6 b := by kernel_rfl
theorem go_s_l2Binds (a0 : Int) (a1 : Int) (a2 : List UInt8) (a3 : List UInt8) (a40 : Int) (a41 : Int) (a42 : List CVal) (a5 : List CVal) (a6 : List CVal) (b : Int) (R : Ret) (h : nf_s_l2Binds CC LL a0 a1 a2 a3 a40 a41 a42 a5 a6 b = some R) : CC f_s_l2Binds [AVal.v
 (CVal.agg
 [CVal.int IntKind.i64 a0, CVal.int IntKind.i64 a1, CVal.str a2, CVal.str a3, CVal.int IntKind.i64 a40,
 CVal.int IntKind.i64 a41, CVal.sl a42, CVal.sl a5, CVal.sl a6]),
 AVal.v (CVal.int IntKind.i64 b)] [] = some R := fnW (by decide) rfl ((eq_s_l2Binds CC LL a0 a1 a2 a3 a40 a41 a42 a5 a6 b).trans h)
noncomputable def nf_i_headOk (C : CallT) (L : LoopT) (a0 : Int) (a1 : Int) (a2 : List UInt8) (a3 : List UInt8) (a40 : Int) (a41 : Int) (a42 : List CVal) (a5 : List CVal) (a6 : List CVal) : Option Ret :=
 ((C f_i_parts [AVal.v (CVal.int IntKind.i64 a0)] []).bind fun r =>
 (CVal.asInt IntKind.i64 r.1).bind fun n =>
 br (!decide ((↑a6.length : Int) = n)) (some (true, PUnit.unit))
 ((C f_i_numberOk [AVal.v (CVal.int IntKind.i64 a0), AVal.v (CVal.int IntKind.i64 a1)] []).bind fun r =>
 r.1.asBool.bind fun b =>
 br (!b) (some (true, PUnit.unit))
 ((C f_i_namesOk [AVal.v (CVal.int IntKind.i64 a0), AVal.v (CVal.str a2), AVal.v (CVal.str a3)] []).bind
 fun r =>
 r.1.asBool.bind fun b =>
 br (!b) (some (true, PUnit.unit))
 (br (decide (a0 = (7 : Int)))
 (a6[(0 : Nat)]?.bind fun y =>
 br (CVal.fits true (9 : Nat) y)
 ((y.cell (0 : Nat)).bind fun c =>
 (CVal.asInt IntKind.i64 c).bind fun n => some (!decide (n = (4 : Int)), PUnit.unit))
 none)
 (some (false, PUnit.unit)))))).bind
 fun y =>
 br y.1 (some (CVal.bool false, []))
 (((C f_i_hasT [AVal.v (CVal.int IntKind.i64 a0)] []).bind fun r =>
 (C f_i_TyOk [AVal.v (CVal.agg [CVal.int IntKind.i64 a40, CVal.int IntKind.i64 a41, CVal.sl a42])] []).bind
 fun r_1 =>
 r.1.asBool.bind fun b =>
 r_1.1.asBool.bind fun b_1 =>
 br (!b == b_1) (some (true, PUnit.unit))
 ((C f_i_hasT [AVal.v (CVal.int IntKind.i64 a0)] []).bind fun r =>
 r.1.asBool.bind fun b =>
 br (!b)
 ((C f_i_SameTy
 [AVal.v (CVal.agg [CVal.int IntKind.i64 a40, CVal.int IntKind.i64 a41, CVal.sl a42]),
 AVal.v
 (CVal.agg
 [CVal.int IntKind.i64 (0 : Int), CVal.int IntKind.i64 (0 : Int), CVal.sl []])]
 []).bind
 fun r => br (!scalar r.1) none (r.1.asBool.bind fun b => some (!b, PUnit.unit)))
 (some (false, PUnit.unit)))).bind
 fun y =>
 br y.1 (some (CVal.bool false, []))
 (br (decide (a0 = (3 : Int)))
 ((br (decide ((↑a5.length : Int) ≤ (2 : Int)))
 ((C f_slices_ContainsFunc_Ty [AVal.v (CVal.sl a5), AVal.v (CVal.func f_i_headOk_1 [])] []).bind fun r =>
 r.1.asBool.bind fun b => some (!b, PUnit.unit))
 (some (false, PUnit.unit))).bind
 fun y => some (CVal.bool y.1, []))
 ((br (decide ((↑a5.length : Int) ≤ (0 : Int)))
 ((C f_slices_ContainsFunc_Ty [AVal.v (CVal.sl a5), AVal.v (CVal.func f_i_headOk_1 [])] []).bind fun r =>
 r.1.asBool.bind fun b => some (!b, PUnit.unit))
 (some (false, PUnit.unit))).bind
 fun y => some (CVal.bool y.1, []))))
theorem eq_i_headOk (C : CallT) (L : LoopT) (a0 : Int) (a1 : Int) (a2 : List UInt8) (a3 : List UInt8) (a40 : Int) (a41 : Int) (a42 : List CVal) (a5 : List CVal) (a6 : List CVal) : evF E N C L f_i_headOk [AVal.v
 (CVal.agg
 [CVal.int IntKind.i64 a0, CVal.int IntKind.i64 a1, CVal.str a2, CVal.str a3, CVal.int IntKind.i64 a40,
 CVal.int IntKind.i64 a41, CVal.sl a42, CVal.sl a5, CVal.sl a6])] [] = nf_i_headOk C L a0 a1 a2 a3 a40 a41 a42 a5 a6 := by kernel_rfl
theorem go_i_headOk (a0 : Int) (a1 : Int) (a2 : List UInt8) (a3 : List UInt8) (a40 : Int) (a41 : Int) (a42 : List CVal) (a5 : List CVal) (a6 : List CVal) (R : Ret) (h : nf_i_headOk CC LL a0 a1 a2 a3 a40 a41 a42 a5 a6 = some R) : CC f_i_headOk [AVal.v
 (CVal.agg
 [CVal.int IntKind.i64 a0, CVal.int IntKind.i64 a1, CVal.str a2, CVal.str a3, CVal.int IntKind.i64 a40,
 CVal.int IntKind.i64 a41, CVal.sl a42, CVal.sl a5, CVal.sl a6])] [] = some R := fnW (by decide) rfl ((eq_i_headOk CC LL a0 a1 a2 a3 a40 a41 a42 a5 a6).trans h)
noncomputable def nf_s_SameTy (C : CallT) (L : LoopT) (a0 : Int) (a1 : Int) (a2 : List CVal) (b0 : Int) (b1 : Int) (b2 : List CVal) : Option Ret :=
 (br (!decide (a0 = b0)) (some (true, PUnit.unit))
 (br (!decide (a1 = b1)) (some (true, PUnit.unit))
 (some (!decide ((↑a2.length : Int) = (↑b2.length : Int)), PUnit.unit)))).bind
 fun y =>
 br y.1 (some (CVal.bool false, []))
 ((L f_s_SameTy (0 : Nat) lc_s_SameTy_0 [] k_s_SameTy_0
 ((PUnit.unit, PUnit.unit, (0 : Int), PUnit.unit), (a0, a1, a2, PUnit.unit), (b0, b1, b2, PUnit.unit),
 PUnit.unit)).bind
 fun r => loK r (fun r => some r) fun j p => br (j == (0 : Nat)) (some (CVal.bool true, [])) none)
theorem eq_s_SameTy (C : CallT) (L : LoopT) (a0 : Int) (a1 : Int) (a2 : List CVal) (b0 : Int) (b1 : Int) (b2 : List CVal) : evF E N C L f_s_SameTy [AVal.v (CVal.agg [CVal.int IntKind.i64 a0, CVal.int IntKind.i64 a1, CVal.sl a2]),
 AVal.v (CVal.agg [CVal.int IntKind.i64 b0, CVal.int IntKind.i64 b1, CVal.sl b2])] [] = nf_s_SameTy C L a0 a1 a2 b0 b1 b2 := by kernel_rfl
theorem go_s_SameTy (a0 : Int) (a1 : Int) (a2 : List CVal) (b0 : Int) (b1 : Int) (b2 : List CVal) (R : Ret) (h : nf_s_SameTy CC LL a0 a1 a2 b0 b1 b2 = some R) : CC f_s_SameTy [AVal.v (CVal.agg [CVal.int IntKind.i64 a0, CVal.int IntKind.i64 a1, CVal.sl a2]),
 AVal.v (CVal.agg [CVal.int IntKind.i64 b0, CVal.int IntKind.i64 b1, CVal.sl b2])] [] = some R := fnW (by decide) rfl ((eq_s_SameTy CC LL a0 a1 a2 b0 b1 b2).trans h)
noncomputable def nf_i_SameTy (C : CallT) (L : LoopT) (a0 : Int) (a1 : Int) (a2 : List CVal) (b0 : Int) (b1 : Int) (b2 : List CVal) : Option Ret :=
 (br (decide (a0 = b0))
 (br (decide (a1 = b1))
 ((C f_slices_EqualFunc_Ty [AVal.v (CVal.sl a2), AVal.v (CVal.sl b2), AVal.v (CVal.func f_i_SameTy [])] []).bind
 fun r => (bif true then r.1 else CVal.bool false).asBool.bind fun b => some (b, PUnit.unit))
 (some (false, PUnit.unit)))
 (some (false, PUnit.unit))).bind
 fun y => some (CVal.bool y.1, [])
theorem eq_i_SameTy (C : CallT) (L : LoopT) (a0 : Int) (a1 : Int) (a2 : List CVal) (b0 : Int) (b1 : Int) (b2 : List CVal) : evF E N C L f_i_SameTy [AVal.v (CVal.agg [CVal.int IntKind.i64 a0, CVal.int IntKind.i64 a1, CVal.sl a2]),
 AVal.v (CVal.agg [CVal.int IntKind.i64 b0, CVal.int IntKind.i64 b1, CVal.sl b2])] [] = nf_i_SameTy C L a0 a1 a2 b0 b1 b2 := by kernel_rfl
theorem go_i_SameTy (a0 : Int) (a1 : Int) (a2 : List CVal) (b0 : Int) (b1 : Int) (b2 : List CVal) (R : Ret) (h : nf_i_SameTy CC LL a0 a1 a2 b0 b1 b2 = some R) : CC f_i_SameTy [AVal.v (CVal.agg [CVal.int IntKind.i64 a0, CVal.int IntKind.i64 a1, CVal.sl a2]),
 AVal.v (CVal.agg [CVal.int IntKind.i64 b0, CVal.int IntKind.i64 b1, CVal.sl b2])] [] = some R := fnW (by decide) rfl ((eq_i_SameTy CC LL a0 a1 a2 b0 b1 b2).trans h)
noncomputable def nf_i_isName (C : CallT) (L : LoopT) (a : List UInt8) : Option Ret :=
 (L f_i_isName (0 : Nat) lc_i_isName_0 [] k_i_isName_0 ((a, (↑a.length : Int), (0 : Int), PUnit.unit), PUnit.unit)).bind
 fun r =>
 loK r (fun r => some r) fun j p =>
 br (j == (0 : Nat))
 ((C f_i_in
 [AVal.v (CVal.int IntKind.i64 (↑(List.length p.fst.1) : Int)), AVal.v (CVal.int IntKind.i64 (1 : Int)),
 AVal.v (CVal.int IntKind.i64 (8 : Int))]
 []).bind
 fun r => some (r.1, []))
 none
theorem eq_i_isName (C : CallT) (L : LoopT) (a : List UInt8) : evF E N C L f_i_isName [AVal.v (CVal.str a)] [] = nf_i_isName C L a := by kernel_rfl
theorem go_i_isName (a : List UInt8) (R : Ret) (h : nf_i_isName CC LL a = some R) : CC f_i_isName [AVal.v (CVal.str a)] [] = some R := fnW (by decide) rfl ((eq_i_isName CC LL a).trans h)
noncomputable def nf_i_tyParts (C : CallT) (L : LoopT) (a : Int) : Option Ret :=
 br (decide (a = (1 : Int))) (some (CVal.int IntKind.i64 (0 : Int), []))
 (br (decide (a = (2 : Int))) (some (CVal.int IntKind.i64 (0 : Int), []))
 (br (decide (a = (3 : Int))) (some (CVal.int IntKind.i64 (0 : Int), []))
 (br (decide (a = (6 : Int))) (some (CVal.int IntKind.i64 (1 : Int), []))
 (br (decide (a = (4 : Int))) (some (CVal.int IntKind.i64 (2 : Int), []))
 (br (decide (a = (5 : Int))) (some (CVal.int IntKind.i64 (2 : Int), []))
 (some (CVal.int IntKind.i64 (-1 : Int), [])))))))
theorem eq_i_tyParts (C : CallT) (L : LoopT) (a : Int) : evF E N C L f_i_tyParts [AVal.v (CVal.int IntKind.i64 a)] [] = nf_i_tyParts C L a := by kernel_rfl
theorem go_i_tyParts (a : Int) (R : Ret) (h : nf_i_tyParts CC LL a = some R) : CC f_i_tyParts [AVal.v (CVal.int IntKind.i64 a)] [] = some R := fnW (by decide) rfl ((eq_i_tyParts CC LL a).trans h)
noncomputable def nl_l_toTyS_0 (C : CallT) (L : LoopT) (x00 : List CVal) (x02 : Int) (x1 : List CVal) : Option (LO k_l_toTyS_0.T) :=
 br (decide (x02 < (↑x00.length : Int)))
 (br (decide ((0 : Int) ≤ x02) && true)
 (x00[x02.toNat]?.bind fun y =>
 br (CVal.fits true (3 : Nat) y)
 ((y.sub (0 : Nat) (3 : Nat)).bind fun y =>
 (C f_l_toTy [AVal.v y] []).bind fun r =>
 br (CVal.isAggN (3 : Nat) r.1)
 ((r.1.cell (0 : Nat)).bind fun c =>
 (r.1.cell (1 : Nat)).bind fun c_1 =>
 (r.1.cell (2 : Nat)).bind fun c_2 =>
 c_2.asSl.bind fun xs =>
 br (decide ((0 : Int) ≤ x02) && true)
 (br (decide (x02.toNat < x1.length) && true)
 ((CVal.asInt IntKind.i64 c).bind fun n =>
 (CVal.asInt IntKind.i64 c_1).bind fun n_1 =>
 x1[x02.toNat]?.bind fun y =>
 br (CVal.fits true (3 : Nat) y)
 (L f_l_toTyS (0 : Nat) lc_l_toTyS_0 [] k_l_toTyS_0
 ((x00, PUnit.unit, IntKind.i64.wrap (x02 + (1 : Int)), PUnit.unit),
 x1.set x02.toNat
 (CVal.agg [CVal.int IntKind.i64 n, CVal.int IntKind.i64 n_1, CVal.sl xs]),
 PUnit.unit))
 (br (y.isAgg && decide ((3 : Nat) ≤ y.cells.length))
 (L f_l_toTyS (0 : Nat) lc_l_toTyS_0 [] k_l_toTyS_0
 ((x00, PUnit.unit, IntKind.i64.wrap (x02 + (1 : Int)), PUnit.unit),
 x1.set x02.toNat
 (CVal.agg
 (CVal.int IntKind.i64 n ::
 CVal.int IntKind.i64 n_1 :: CVal.sl xs :: List.drop (3 : Nat) y.cells)),
 PUnit.unit))
 none))
 none)
 none)
 none)
 none)
 none)
 (some (LO.out (0 : Nat) ((x00, PUnit.unit, x02, PUnit.unit), x1, PUnit.unit)))
theorem el_l_toTyS_0 (C : CallT) (L : LoopT) (x00 : List CVal) (x02 : Int) (x1 : List CVal) : evL E N C L f_l_toTyS 0 lc_l_toTyS_0 [] k_l_toTyS_0 ((x00, (), x02, ()), x1, ()) = nl_l_toTyS_0 C L x00 x02 x1 := by kernel_rfl
theorem gl_l_toTyS_0 (x00 : List CVal) (x02 : Int) (x1 : List CVal) (R : LO k_l_toTyS_0.T) (h : nl_l_toTyS_0 CC LL x00 x02 x1 = some R) : LL f_l_toTyS 0 lc_l_toTyS_0 [] k_l_toTyS_0 ((x00, (), x02, ()), x1, ()) = some R := loopW ((el_l_toTyS_0 CC LL x00 x02 x1).trans h)
noncomputable def nl_l_markTyS_0 (C : CallT) (L : LoopT) (x01 : Int) (x02 : Int) (x1 : List CVal) : Option (LO k_l_markTyS_0.T) :=
 br (decide (x02 < (↑x1.length : Int)))
 (br (decide ((0 : Int) ≤ x02) && true)
 (br (decide (x02.toNat < x1.length) && true)
 (x1[x02.toNat]?.bind fun y =>
 br (CVal.fits false (1 : Nat) y)
 (br (decide ((0 : Int) ≤ x02) && true)
 (br (decide (x02.toNat < (x1.set x02.toNat (CVal.int IntKind.i64 x01)).length) && true)
 ((x1.set x02.toNat (CVal.int IntKind.i64 x01))[x02.toNat]?.bind fun y =>
 br (y.isAgg && decide ((2 : Nat) ≤ y.cells.length))
 (br (decide ((0 : Int) ≤ x02) && true)
 (br
 (decide
 (x02.toNat <
 ((x1.set x02.toNat (CVal.int IntKind.i64 x01)).set x02.toNat
 (CVal.agg
 (splice y.cells (1 : Nat)
 [CVal.int IntKind.i64 (IntKind.i64.wrap (x01 + (1 : Int)))]))).length) &&
 true)
 (((x1.set x02.toNat (CVal.int IntKind.i64 x01)).set x02.toNat
 (CVal.agg
 (splice y.cells (1 : Nat)
 [CVal.int IntKind.i64 (IntKind.i64.wrap (x01 + (1 : Int)))])))[x02.toNat]?.bind
 fun y_1 =>
 (y_1.cell (2 : Nat)).bind fun c =>
 c.asSl.bind fun xs =>
 ((x1.set x02.toNat (CVal.int IntKind.i64 x01)).set x02.toNat
 (CVal.agg
 (splice y.cells (1 : Nat)
 [CVal.int IntKind.i64 (IntKind.i64.wrap (x01 + (1 : Int)))])))[x02.toNat]?.bind
 fun y_2 =>
 (y_2.cell (2 : Nat)).bind fun c =>
 c.asSl.bind fun xs =>
 br (xs.all (CVal.fits true (3 : Nat)))
 ((C f_l_markTyS
 [AVal.lref (0 : Nat) (0 : Nat),
 AVal.v
 (CVal.int IntKind.i64
 (IntKind.i64.wrap (IntKind.i64.wrap (x01 + (1 : Int)) + (1 : Int))))]
 [PB.arr (Md.mk true true (0 : Nat)) false (3 : Nat) xs]).bind
 fun r =>
 r.2[(0 : Nat)]?.bind fun y_3 =>
 (CVal.asInt IntKind.i64 r.1).bind fun n =>
 L f_l_markTyS (0 : Nat) lc_l_markTyS_0
 [PSh.arr (Md.mk true true (0 : Nat)) false (3 : Nat)] k_l_markTyS_0
 ((PUnit.unit, n, IntKind.i64.wrap (x02 + (1 : Int)), PUnit.unit),
 ((x1.set x02.toNat (CVal.int IntKind.i64 x01)).set x02.toNat
 (CVal.agg
 (splice y.cells (1 : Nat)
 [CVal.int IntKind.i64
 (IntKind.i64.wrap (x01 + (1 : Int)))]))).set
 x02.toNat (y_2.putCell (2 : Nat) (CVal.sl y_3)),
 PUnit.unit))
 none)
 none)
 none)
 none)
 none)
 none)
 (br (y.isAgg && decide ((1 : Nat) ≤ y.cells.length))
 (br (decide ((0 : Int) ≤ x02) && true)
 (br
 (decide
 (x02.toNat <
 (x1.set x02.toNat (CVal.agg (CVal.int IntKind.i64 x01 :: List.drop (1 : Nat) y.cells))).length) &&
 true)
 ((x1.set x02.toNat
 (CVal.agg (CVal.int IntKind.i64 x01 :: List.drop (1 : Nat) y.cells)))[x02.toNat]?.bind
 fun y_1 =>
 br (y_1.isAgg && decide ((2 : Nat) ≤ y_1.cells.length))
 (br (decide ((0 : Int) ≤ x02) && true)
 (br
 (decide
 (x02.toNat <
 ((x1.set x02.toNat
 (CVal.agg (CVal.int IntKind.i64 x01 :: List.drop (1 : Nat) y.cells))).set
 x02.toNat
 (CVal.agg
 (splice y_1.cells (1 : Nat)
 [CVal.int IntKind.i64 (IntKind.i64.wrap (x01 + (1 : Int)))]))).length) &&
 true)
 (((x1.set x02.toNat (CVal.agg (CVal.int IntKind.i64 x01 :: List.drop (1 : Nat) y.cells))).set
 x02.toNat
 (CVal.agg
 (splice y_1.cells (1 : Nat)
 [CVal.int IntKind.i64 (IntKind.i64.wrap (x01 + (1 : Int)))])))[x02.toNat]?.bind
 fun y_2 =>
 (y_2.cell (2 : Nat)).bind fun c =>
 c.asSl.bind fun xs =>
 ((x1.set x02.toNat
 (CVal.agg (CVal.int IntKind.i64 x01 :: List.drop (1 : Nat) y.cells))).set
 x02.toNat
 (CVal.agg
 (splice y_1.cells (1 : Nat)
 [CVal.int IntKind.i64
 (IntKind.i64.wrap (x01 + (1 : Int)))])))[x02.toNat]?.bind
 fun y_3 =>
 (y_3.cell (2 : Nat)).bind fun c =>
 c.asSl.bind fun xs =>
 br (xs.all (CVal.fits true (3 : Nat)))
 ((C f_l_markTyS
 [AVal.lref (0 : Nat) (0 : Nat),
 AVal.v
 (CVal.int IntKind.i64
 (IntKind.i64.wrap (IntKind.i64.wrap (x01 + (1 : Int)) + (1 : Int))))]
 [PB.arr (Md.mk true true (0 : Nat)) false (3 : Nat) xs]).bind
 fun r =>
 r.2[(0 : Nat)]?.bind fun y_4 =>
 (CVal.asInt IntKind.i64 r.1).bind fun n =>
 L f_l_markTyS (0 : Nat) lc_l_markTyS_0
 [PSh.arr (Md.mk true true (0 : Nat)) false (3 : Nat)] k_l_markTyS_0
 ((PUnit.unit, n, IntKind.i64.wrap (x02 + (1 : Int)), PUnit.unit),
 ((x1.set x02.toNat
 (CVal.agg
 (CVal.int IntKind.i64 x01 ::
 List.drop (1 : Nat) y.cells))).set
 x02.toNat
 (CVal.agg
 (splice y_1.cells (1 : Nat)
 [CVal.int IntKind.i64
 (IntKind.i64.wrap (x01 + (1 : Int)))]))).set
 x02.toNat (y_3.putCell (2 : Nat) (CVal.sl y_4)),
 PUnit.unit))
 none)
 none)
 none)
 none)
 none)
 none)
 none))
 none)
 none)
 (some (LO.out (0 : Nat) ((PUnit.unit, x01, x02, PUnit.unit), x1, PUnit.unit)))
theorem el_l_markTyS_0 (C : CallT) (L : LoopT) (x01 : Int) (x02 : Int) (x1 : List CVal) : evL E N C L f_l_markTyS 0 lc_l_markTyS_0 [PSh.arr (Md.mk true true (0 : Nat)) false (3 : Nat)] k_l_markTyS_0 (((), x01, x02, ()), x1, ()) = nl_l_markTyS_0 C L x01 x02 x1 := by kernel_rfl
theorem gl_l_markTyS_0 (x01 : Int) (x02 : Int) (x1 : List CVal) (R : LO k_l_markTyS_0.T) (h : nl_l_markTyS_0 CC LL x01 x02 x1 = some R) : LL f_l_markTyS 0 lc_l_markTyS_0 [PSh.arr (Md.mk true true (0 : Nat)) false (3 : Nat)] k_l_markTyS_0 (((), x01, x02, ()), x1, ()) = some R := loopW ((el_l_markTyS_0 CC LL x01 x02 x1).trans h)
noncomputable def nl_slices_Concat_string_2 (C : CallT) (L : LoopT) (x01 : List CVal) (x02 : Int) (x03 : Int) (x1 : List CVal) : Option (LO k_slices_Concat_string_2.T) :=
 br (decide (x03 < x02))
 (br (decide ((0 : Int) ≤ x03) && true)
 (x01[x03.toNat]?.bind fun y =>
 br (CVal.fits false (1 : Nat) y)
 ((y.cell (0 : Nat)).bind fun c =>
 c.asSl.bind fun xs =>
 br (xs.all (CVal.fitsF false [CK.str]))
 (br (decide (x1.length + xs.length ≤ (4294967296 : Nat)) && true && true)
 (L f_slices_Concat_string (2 : Nat) lc_slices_Concat_string_2 [] k_slices_Concat_string_2
 ((PUnit.unit, x01, x02, IntKind.i64.wrap (x03 + (1 : Int)), PUnit.unit), x1 ++ xs, PUnit.unit))
 none)
 none)
 none)
 none)
 (some (LO.out (2 : Nat) ((PUnit.unit, x01, x02, x03, PUnit.unit), x1, PUnit.unit)))
theorem el_slices_Concat_string_2 (C : CallT) (L : LoopT) (x01 : List CVal) (x02 : Int) (x03 : Int) (x1 : List CVal) : evL E N C L f_slices_Concat_string 2 lc_slices_Concat_string_2 [] k_slices_Concat_string_2 (((), x01, x02, x03, ()), x1, ()) = nl_slices_Concat_string_2 C L x01 x02 x03 x1 := by kernel_rfl
theorem gl_slices_Concat_string_2 (x01 : List CVal) (x02 : Int) (x03 : Int) (x1 : List CVal) (R : LO k_slices_Concat_string_2.T) (h : nl_slices_Concat_string_2 CC LL x01 x02 x03 x1 = some R) : LL f_slices_Concat_string 2 lc_slices_Concat_string_2 [] k_slices_Concat_string_2 (((), x01, x02, x03, ()), x1, ()) = some R := loopW ((el_slices_Concat_string_2 CC LL x01 x02 x03 x1).trans h)
noncomputable def nl_s_l1Look_0 (C : CallT) (L : LoopT) (x00 : Int) (x03 : Int) (x10 : Int) (x20 : Int) (x21 : Int) (x22 : List CVal) : Option (LO k_s_l1Look_0.T) :=
 br (decide (x03 < (↑x22.length : Int)))
 (br (decide ((0 : Int) ≤ x03) && true)
 (x22[x03.toNat]?.bind fun y =>
 br (CVal.fits true (3 : Nat) y)
 ((y.sub (0 : Nat) (3 : Nat)).bind fun y =>
 (C f_s_l1Look
 [AVal.v y, AVal.v (CVal.int IntKind.i64 (IntKind.i64.wrap (x00 - (1 : Int)))),
 AVal.lptr (0 : Nat) (0 : Nat)]
 [PB.box [AVal.v (CVal.int IntKind.i64 x10)]]).bind
 fun r =>
 r.2[(0 : Nat)]?.bind fun y =>
 y[(0 : Nat)]?.bind fun y =>
 r.1.asBool.bind fun b =>
 br (!b) (some (LO.ret (CVal.bool false, [[y]])))
 ((CVal.asInt IntKind.i64 y).bind fun n =>
 L f_s_l1Look (0 : Nat) lc_s_l1Look_0 [PSh.box [none]] k_s_l1Look_0
 ((x00, PUnit.unit, PUnit.unit, IntKind.i64.wrap (x03 + (1 : Int)), PUnit.unit), (n, PUnit.unit),
 (x20, x21, x22, PUnit.unit), PUnit.unit)))
 none)
 none)
 (some
 (LO.out (0 : Nat)
 ((x00, PUnit.unit, PUnit.unit, x03, PUnit.unit), (x10, PUnit.unit), (x20, x21, x22, PUnit.unit), PUnit.unit)))
theorem el_s_l1Look_0 (C : CallT) (L : LoopT) (x00 : Int) (x03 : Int) (x10 : Int) (x20 : Int) (x21 : Int) (x22 : List CVal) : evL E N C L f_s_l1Look 0 lc_s_l1Look_0 [PSh.box [none]] k_s_l1Look_0 ((x00, (), (), x03, ()), (x10, ()), (x20, x21, x22, ()), ()) = nl_s_l1Look_0 C L x00 x03 x10 x20 x21 x22 := by kernel_rfl
theorem gl_s_l1Look_0 (x00 : Int) (x03 : Int) (x10 : Int) (x20 : Int) (x21 : Int) (x22 : List CVal) (R : LO k_s_l1Look_0.T) (h : nl_s_l1Look_0 CC LL x00 x03 x10 x20 x21 x22 = some R) : LL f_s_l1Look 0 lc_s_l1Look_0 [PSh.box [none]] k_s_l1Look_0 ((x00, (), (), x03, ()), (x10, ()), (x20, x21, x22, ()), ()) = some R := loopW ((el_s_l1Look_0 CC LL x00 x03 x10 x20 x21 x22).trans h)
end Go.Proofs.Ytbimglfmmmlicaa.Abs
