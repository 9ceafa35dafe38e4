/- What the functions come to in the abstract machine. -/
import Derived.Test.YtbimglfmmmlicaaQ2Ann
import Derived.KernelRfl
set_option linter.unusedVariables false
set_option maxRecDepth 100000
namespace Go.Proofs.Ytbimglfmmmlicaa.Abs
open Go Go.Proofs
noncomputable def nf_l_toTerm (C : CallT) (L : LoopT) (a0 : Int) (a1 : Int) (a2 : List UInt8) (a3 : List UInt8) (a40 : Int) (a41 : Int) (a42 : List CVal) (a5 : List CVal) (a6 : List CVal) : Option Ret :=
 (C f_l_toTy [AVal.v (CVal.agg [CVal.int IntKind.i64 a40, CVal.int IntKind.i64 a41, CVal.sl a42])] []).bind fun r =>
 br (CVal.isAggN (3 : Nat) r.1)
 ((r.1.cell (0 : Nat)).bind fun c =>
 (r.1.cell (1 : Nat)).bind fun c_1 =>
 (r.1.cell (2 : Nat)).bind fun c_2 =>
 c_2.asSl.bind fun xs =>
 (C f_l_toTyS [AVal.v (CVal.sl a5)] []).bind fun r =>
 br r.1.isFlat
 (r.1.asSl.bind fun xs_1 =>
 (C f_l_toTermS [AVal.v (CVal.sl a6)] []).bind fun r =>
 br r.1.isFlat
 (r.1.asSl.bind fun xs_2 =>
 (CVal.asInt IntKind.i64 c).bind fun n =>
 (CVal.asInt IntKind.i64 c_1).bind fun n_1 =>
 some
 (CVal.agg
 [CVal.int IntKind.i64 a0, CVal.int IntKind.i64 a1, CVal.str a2, CVal.str a3,
 CVal.int IntKind.i64 n, CVal.int IntKind.i64 n_1, CVal.sl xs, CVal.sl xs_1,
 CVal.sl xs_2],
 []))
 none)
 none)
 none
theorem eq_l_toTerm (C : CallT) (L : LoopT) (a0 : Int) (a1 : Int) (a2 : List UInt8) (a3 : List UInt8) (a40 : Int) (a41 : Int) (a42 : List CVal) (a5 : List CVal) (a6 : List CVal) : evF E N C L f_l_toTerm [AVal.v
 (CVal.agg
 [CVal.int IntKind.i64 a0, CVal.int IntKind.i64 a1, CVal.str a2, CVal.str a3, CVal.int IntKind.i64 a40,
 CVal.int IntKind.i64 a41, CVal.sl a42, CVal.sl a5, CVal.sl a6])] [] = nf_l_toTerm C L a0 a1 a2 a3 a40 a41 a42 a5 a6 := by kernel_rfl
theorem go_l_toTerm (a0 : Int) (a1 : Int) (a2 : List UInt8) (a3 : List UInt8) (a40 : Int) (a41 : Int) (a42 : List CVal) (a5 : List CVal) (a6 : List CVal) (R : Ret) (h : nf_l_toTerm CC LL a0 a1 a2 a3 a40 a41 a42 a5 a6 = some R) : CC f_l_toTerm [AVal.v
 (CVal.agg
 [CVal.int IntKind.i64 a0, CVal.int IntKind.i64 a1, CVal.str a2, CVal.str a3, CVal.int IntKind.i64 a40,
 CVal.int IntKind.i64 a41, CVal.sl a42, CVal.sl a5, CVal.sl a6])] [] = some R := fnW (by decide) rfl ((eq_l_toTerm CC LL a0 a1 a2 a3 a40 a41 a42 a5 a6).trans h)
noncomputable def nf_l_szTy (C : CallT) (L : LoopT) (a0 : Int) (a1 : Int) (a2 : List CVal) (b : Int) : Option Ret :=
 (C f_l_szTyS [AVal.v (CVal.sl a2), AVal.v (CVal.int IntKind.i64 b)] []).bind fun r =>
 (CVal.asInt IntKind.i64 r.1).bind fun n =>
 br (decide (n < (0 : Int))) (some (CVal.int IntKind.i64 (-1 : Int), [])) (some (r.1, []))
theorem eq_l_szTy (C : CallT) (L : LoopT) (a0 : Int) (a1 : Int) (a2 : List CVal) (b : Int) : evF E N C L f_l_szTy [AVal.v (CVal.agg [CVal.int IntKind.i64 a0, CVal.int IntKind.i64 a1, CVal.sl a2]), AVal.v (CVal.int IntKind.i64 b)] [] = nf_l_szTy C L a0 a1 a2 b := by kernel_rfl
theorem go_l_szTy (a0 : Int) (a1 : Int) (a2 : List CVal) (b : Int) (R : Ret) (h : nf_l_szTy CC LL a0 a1 a2 b = some R) : CC f_l_szTy [AVal.v (CVal.agg [CVal.int IntKind.i64 a0, CVal.int IntKind.i64 a1, CVal.sl a2]), AVal.v (CVal.int IntKind.i64 b)] [] = some R := fnW (by decide) rfl ((eq_l_szTy CC LL a0 a1 a2 b).trans h)
noncomputable def nf_l_toTyS (C : CallT) (L : LoopT) (a : List CVal) : Option Ret :=
 br (decide ((↑a.length : Int) = (↑a.length : Int)) && decide ((↑a.length : Int) ≤ (1048576 : Int)))
 ((L f_l_toTyS (0 : Nat) lc_l_toTyS_0 [] k_l_toTyS_0
 ((a, PUnit.unit, (0 : Int), PUnit.unit),
 List.replicate (↑a.length : Int).toNat
 (CVal.agg [CVal.int IntKind.i64 (0 : Int), CVal.int IntKind.i64 (0 : Int), CVal.sl []]),
 PUnit.unit)).bind
 fun r => loK r (fun r => some r) fun j p => br (j == (0 : Nat)) (some (CVal.sl p.snd.1, [])) none)
 none
theorem eq_l_toTyS (C : CallT) (L : LoopT) (a : List CVal) : evF E N C L f_l_toTyS [AVal.v (CVal.sl a)] [] = nf_l_toTyS C L a := by kernel_rfl
theorem go_l_toTyS (a : List CVal) (R : Ret) (h : nf_l_toTyS CC LL a = some R) : CC f_l_toTyS [AVal.v (CVal.sl a)] [] = some R := fnW (by decide) rfl ((eq_l_toTyS CC LL a).trans h)
noncomputable def nf_s_TermOk (C : CallT) (L : LoopT) (a0 : Int) (a1 : Int) (a2 : List UInt8) (a3 : List UInt8) (a40 : Int) (a41 : Int) (a42 : List CVal) (a5 : List CVal) (a6 : List CVal) : Option Ret :=
 (C f_s_l2Look
 [AVal.v
 (CVal.agg
 [CVal.int IntKind.i64 a0, CVal.int IntKind.i64 a1, CVal.str a2, CVal.str a3, CVal.int IntKind.i64 a40,
 CVal.int IntKind.i64 a41, CVal.sl a42, CVal.sl a5, CVal.sl a6]),
 AVal.v (CVal.int IntKind.i64 (24 : Int)), AVal.lptr (0 : Nat) (0 : Nat)]
 [PB.box [AVal.v (CVal.int IntKind.i64 (0 : Int))]]).bind
 fun r => r.2[(0 : Nat)]?.bind fun y => y[(0 : Nat)]?.bind fun y => some (r.1, [])
theorem eq_s_TermOk (C : CallT) (L : LoopT) (a0 : Int) (a1 : Int) (a2 : List UInt8) (a3 : List UInt8) (a40 : Int) (a41 : Int) (a42 : List CVal) (a5 : List CVal) (a6 : List CVal) : evF E N C L f_s_TermOk [AVal.v
 (CVal.agg
 [CVal.int IntKind.i64 a0, CVal.int IntKind.i64 a1, CVal.str a2, CVal.str a3, CVal.int IntKind.i64 a40,
 CVal.int IntKind.i64 a41, CVal.sl a42, CVal.sl a5, CVal.sl a6])] [] = nf_s_TermOk C L a0 a1 a2 a3 a40 a41 a42 a5 a6 := by kernel_rfl
theorem go_s_TermOk (a0 : Int) (a1 : Int) (a2 : List UInt8) (a3 : List UInt8) (a40 : Int) (a41 : Int) (a42 : List CVal) (a5 : List CVal) (a6 : List CVal) (R : Ret) (h : nf_s_TermOk CC LL a0 a1 a2 a3 a40 a41 a42 a5 a6 = some R) : CC f_s_TermOk [AVal.v
 (CVal.agg
 [CVal.int IntKind.i64 a0, CVal.int IntKind.i64 a1, CVal.str a2, CVal.str a3, CVal.int IntKind.i64 a40,
 CVal.int IntKind.i64 a41, CVal.sl a42, CVal.sl a5, CVal.sl a6])] [] = some R := fnW (by decide) rfl ((eq_s_TermOk CC LL a0 a1 a2 a3 a40 a41 a42 a5 a6).trans h)
noncomputable def nf_l_eqTyS (C : CallT) (L : LoopT) (a : List CVal) (b : List CVal) : Option Ret :=
 br (!decide ((↑a.length : Int) = (↑b.length : Int))) (some (CVal.bool false, []))
 ((L f_l_eqTyS (0 : Nat) lc_l_eqTyS_0 [] k_l_eqTyS_0 ((a, b, (0 : Int), PUnit.unit), PUnit.unit)).bind fun r =>
 loK r (fun r => some r) fun j p => br (j == (0 : Nat)) (some (CVal.bool true, [])) none)
theorem eq_l_eqTyS (C : CallT) (L : LoopT) (a : List CVal) (b : List CVal) : evF E N C L f_l_eqTyS [AVal.v (CVal.sl a), AVal.v (CVal.sl b)] [] = nf_l_eqTyS C L a b := by kernel_rfl
theorem go_l_eqTyS (a : List CVal) (b : List CVal) (R : Ret) (h : nf_l_eqTyS CC LL a b = some R) : CC f_l_eqTyS [AVal.v (CVal.sl a), AVal.v (CVal.sl b)] [] = some R := fnW (by decide) rfl ((eq_l_eqTyS CC LL a b).trans h)
noncomputable def nf_i_bindersIn (C : CallT) (L : LoopT) (a0 : Int) (a1 : Int) (a2 : List UInt8) (a3 : List UInt8) (a40 : Int) (a41 : Int) (a42 : List CVal) (a5 : List CVal) (a6 : List CVal) (b : List CVal) : Option Ret :=
 (C f_i_bindsS [AVal.v (CVal.int IntKind.i64 a0)] []).bind fun r =>
 r.1.asBool.bind fun b_1 =>
 br b_1
 (br (decide (b.length + (1 : Nat) ≤ (4294967296 : Nat)) && true && true)
 (br (decide (a0 = (14 : Int)))
 (br (decide ((b ++ [CVal.str a2]).length + (1 : Nat) ≤ (4294967296 : Nat)) && true && true)
 ((L f_i_bindersIn (0 : Nat) lc_i_bindersIn_0 [PSh.arr (Md.mk true false (0 : Nat)) false (1 : Nat)]
 k_i_bindersIn_0
 ((PUnit.unit, a6, (↑a6.length : Int), (0 : Int), PUnit.unit), b ++ [CVal.str a2] ++ [CVal.str a3],
 PUnit.unit)).bind
 fun r => loK r (fun r => some r) fun j p => br (j == (0 : Nat)) (some (CVal.nilp, [p.snd.1])) none)
 none)
 ((L f_i_bindersIn (0 : Nat) lc_i_bindersIn_0 [PSh.arr (Md.mk true false (0 : Nat)) false (1 : Nat)]
 k_i_bindersIn_0
 ((PUnit.unit, a6, (↑a6.length : Int), (0 : Int), PUnit.unit), b ++ [CVal.str a2], PUnit.unit)).bind
 fun r => loK r (fun r => some r) fun j p => br (j == (0 : Nat)) (some (CVal.nilp, [p.snd.1])) none))
 none)
 (br (decide (a0 = (14 : Int)))
 (br (decide (b.length + (1 : Nat) ≤ (4294967296 : Nat)) && true && true)
 ((L f_i_bindersIn (0 : Nat) lc_i_bindersIn_0 [PSh.arr (Md.mk true false (0 : Nat)) false (1 : Nat)]
 k_i_bindersIn_0
 ((PUnit.unit, a6, (↑a6.length : Int), (0 : Int), PUnit.unit), b ++ [CVal.str a3], PUnit.unit)).bind
 fun r => loK r (fun r => some r) fun j p => br (j == (0 : Nat)) (some (CVal.nilp, [p.snd.1])) none)
 none)
 ((L f_i_bindersIn (0 : Nat) lc_i_bindersIn_0 [PSh.arr (Md.mk true false (0 : Nat)) false (1 : Nat)]
 k_i_bindersIn_0 ((PUnit.unit, a6, (↑a6.length : Int), (0 : Int), PUnit.unit), b, PUnit.unit)).bind
 fun r => loK r (fun r => some r) fun j p => br (j == (0 : Nat)) (some (CVal.nilp, [p.snd.1])) none))
theorem eq_i_bindersIn (C : CallT) (L : LoopT) (a0 : Int) (a1 : Int) (a2 : List UInt8) (a3 : List UInt8) (a40 : Int) (a41 : Int) (a42 : List CVal) (a5 : List CVal) (a6 : List CVal) (b : List CVal) : evF E N C L f_i_bindersIn [AVal.v
 (CVal.agg
 [CVal.int IntKind.i64 a0, CVal.int IntKind.i64 a1, CVal.str a2, CVal.str a3, CVal.int IntKind.i64 a40,
 CVal.int IntKind.i64 a41, CVal.sl a42, CVal.sl a5, CVal.sl a6]),
 AVal.lref (0 : Nat) (0 : Nat)] [PB.arr (Md.mk true false (0 : Nat)) false (1 : Nat) b] = nf_i_bindersIn C L a0 a1 a2 a3 a40 a41 a42 a5 a6 b := by kernel_rfl
theorem go_i_bindersIn (a0 : Int) (a1 : Int) (a2 : List UInt8) (a3 : List UInt8) (a40 : Int) (a41 : Int) (a42 : List CVal) (a5 : List CVal) (a6 : List CVal) (b : List CVal) (R : Ret) (h : nf_i_bindersIn CC LL a0 a1 a2 a3 a40 a41 a42 a5 a6 b = some R) : CC f_i_bindersIn [AVal.v
 (CVal.agg
 [CVal.int IntKind.i64 a0, CVal.int IntKind.i64 a1, CVal.str a2, CVal.str a3, CVal.int IntKind.i64 a40,
 CVal.int IntKind.i64 a41, CVal.sl a42, CVal.sl a5, CVal.sl a6]),
 AVal.lref (0 : Nat) (0 : Nat)] [PB.arr (Md.mk true false (0 : Nat)) false (1 : Nat) b] = some R := fnW (by decide) rfl ((eq_i_bindersIn CC LL a0 a1 a2 a3 a40 a41 a42 a5 a6 b).trans h)
noncomputable def nf_i_bindsS (C : CallT) (L : LoopT) (a : Int) : Option Ret :=
 (br (decide (a = (4 : Int))) (some (true, PUnit.unit))
 (br (decide (a = (6 : Int))) (some (true, PUnit.unit))
 (br (decide (a = (7 : Int))) (some (true, PUnit.unit))
 (br (decide (a = (14 : Int))) (some (true, PUnit.unit)) (some (decide (a = (17 : Int)), PUnit.unit)))))).bind
 fun y => some (CVal.bool y.1, [])
theorem eq_i_bindsS (C : CallT) (L : LoopT) (a : Int) : evF E N C L f_i_bindsS [AVal.v (CVal.int IntKind.i64 a)] [] = nf_i_bindsS C L a := by kernel_rfl
theorem go_i_bindsS (a : Int) (R : Ret) (h : nf_i_bindsS CC LL a = some R) : CC f_i_bindsS [AVal.v (CVal.int IntKind.i64 a)] [] = some R := fnW (by decide) rfl ((eq_i_bindsS CC LL a).trans h)
noncomputable def nf_s_l2Name (C : CallT) (L : LoopT) (a : List UInt8) (b : Bool) : Option Ret :=
 ((C f_s_l1In
 [AVal.v (CVal.int IntKind.i64 (↑a.length : Int)), AVal.v (CVal.int IntKind.i64 (1 : Int)),
 AVal.v (CVal.int IntKind.i64 (8 : Int))]
 []).bind
 fun r =>
 r.1.asBool.bind fun b =>
 br (!b) (some (true, PUnit.unit))
 (a[(0 : Nat)]?.bind fun y =>
 (C f_s_l1In
 [AVal.v (CVal.int IntKind.i64 (IntKind.i64.wrap (↑y.toNat : Int))),
 AVal.v (CVal.int IntKind.i64 (97 : Int)), AVal.v (CVal.int IntKind.i64 (122 : Int))]
 []).bind
 fun r => r.1.asBool.bind fun b => some (!b, PUnit.unit))).bind
 fun y =>
 br y.1 (some (CVal.bool false, []))
 ((L f_s_l2Name (0 : Nat) lc_s_l2Name_0 [] k_s_l2Name_0 ((a, b, (0 : Int), PUnit.unit), PUnit.unit)).bind fun r =>
 loK r (fun r => some r) fun j p => br (j == (0 : Nat)) (some (CVal.bool true, [])) none)
theorem eq_s_l2Name (C : CallT) (L : LoopT) (a : List UInt8) (b : Bool) : evF E N C L f_s_l2Name [AVal.v (CVal.str a), AVal.v (CVal.bool b)] [] = nf_s_l2Name C L a b := by kernel_rfl
theorem go_s_l2Name (a : List UInt8) (b : Bool) (R : Ret) (h : nf_s_l2Name CC LL a b = some R) : CC f_s_l2Name [AVal.v (CVal.str a), AVal.v (CVal.bool b)] [] = some R := fnW (by decide) rfl ((eq_s_l2Name CC LL a b).trans h)
noncomputable def nf_i_numberOk (C : CallT) (L : LoopT) (a : Int) (b : Int) : Option Ret :=
 br (decide (a = (1 : Int)))
 ((C f_i_in
 [AVal.v (CVal.int IntKind.i64 b), AVal.v (CVal.int IntKind.i64 (-1000000 : Int)),
 AVal.v (CVal.int IntKind.i64 (1000000 : Int))]
 []).bind
 fun r => some (r.1, []))
 (br (decide (a = (2 : Int)))
 ((C f_i_in
 [AVal.v (CVal.int IntKind.i64 b), AVal.v (CVal.int IntKind.i64 (0 : Int)),
 AVal.v (CVal.int IntKind.i64 (1 : Int))]
 []).bind
 fun r => some (r.1, []))
 (br (decide (a = (6 : Int)))
 ((C f_i_in
 [AVal.v (CVal.int IntKind.i64 b), AVal.v (CVal.int IntKind.i64 (0 : Int)),
 AVal.v (CVal.int IntKind.i64 (2 : Int))]
 []).bind
 fun r => some (r.1, []))
 (br (decide (a = (7 : Int)))
 ((C f_i_in
 [AVal.v (CVal.int IntKind.i64 b), AVal.v (CVal.int IntKind.i64 (0 : Int)),
 AVal.v (CVal.int IntKind.i64 (2 : Int))]
 []).bind
 fun r => some (r.1, []))
 (br (decide (a = (15 : Int)))
 ((C f_i_in
 [AVal.v (CVal.int IntKind.i64 b), AVal.v (CVal.int IntKind.i64 (1 : Int)),
 AVal.v (CVal.int IntKind.i64 (5 : Int))]
 []).bind
 fun r => some (r.1, []))
 (some (CVal.bool (decide (b = (0 : Int))), []))))))
theorem eq_i_numberOk (C : CallT) (L : LoopT) (a : Int) (b : Int) : evF E N C L f_i_numberOk [AVal.v (CVal.int IntKind.i64 a), AVal.v (CVal.int IntKind.i64 b)] [] = nf_i_numberOk C L a b := by kernel_rfl
theorem go_i_numberOk (a : Int) (b : Int) (R : Ret) (h : nf_i_numberOk CC LL a b = some R) : CC f_i_numberOk [AVal.v (CVal.int IntKind.i64 a), AVal.v (CVal.int IntKind.i64 b)] [] = some R := fnW (by decide) rfl ((eq_i_numberOk CC LL a b).trans h)
noncomputable def nf_i_SameTy (C : CallT) (L : LoopT) (a0 : Int) (a1 : Int) (a2 : List CVal) (b0 : Int) (b1 : Int) (b2 : List CVal) : Option Ret :=
 (br (decide (a0 = b0))
 (br (decide (a1 = b1))
 ((C f_slices_EqualFunc_Ty [AVal.v (CVal.sl a2), AVal.v (CVal.sl b2), AVal.v (CVal.func f_i_SameTy [])] []).bind
 fun r => (bif true then r.1 else CVal.bool false).asBool.bind fun b => some (b, PUnit.unit))
 (some (false, PUnit.unit)))
 (some (false, PUnit.unit))).bind
 fun y => some (CVal.bool y.1, [])
theorem eq_i_SameTy (C : CallT) (L : LoopT) (a0 : Int) (a1 : Int) (a2 : List CVal) (b0 : Int) (b1 : Int) (b2 : List CVal) : evF E N C L f_i_SameTy [AVal.v (CVal.agg [CVal.int IntKind.i64 a0, CVal.int IntKind.i64 a1, CVal.sl a2]),
 AVal.v (CVal.agg [CVal.int IntKind.i64 b0, CVal.int IntKind.i64 b1, CVal.sl b2])] [] = nf_i_SameTy C L a0 a1 a2 b0 b1 b2 := by kernel_rfl
theorem go_i_SameTy (a0 : Int) (a1 : Int) (a2 : List CVal) (b0 : Int) (b1 : Int) (b2 : List CVal) (R : Ret) (h : nf_i_SameTy CC LL a0 a1 a2 b0 b1 b2 = some R) : CC f_i_SameTy [AVal.v (CVal.agg [CVal.int IntKind.i64 a0, CVal.int IntKind.i64 a1, CVal.sl a2]),
 AVal.v (CVal.agg [CVal.int IntKind.i64 b0, CVal.int IntKind.i64 b1, CVal.sl b2])] [] = some R := fnW (by decide) rfl ((eq_i_SameTy CC LL a0 a1 a2 b0 b1 b2).trans h)
noncomputable def nf_s_l1Look (C : CallT) (L : LoopT) (a0 : Int) (a1 : Int) (a2 : List CVal) (b : Int) (c : Int) : Option Ret :=
 (br (decide (b = (0 : Int))) (some (true, PUnit.unit))
 (br (decide ((60 : Int) < IntKind.i64.wrap (c + (1 : Int)))) (some (true, PUnit.unit))
 ((C f_s_l1Args [AVal.v (CVal.int IntKind.i64 a0)] []).bind fun r =>
 (CVal.asInt IntKind.i64 r.1).bind fun n =>
 br (!decide ((↑a2.length : Int) = n)) (some (true, PUnit.unit))
 (br (decide (a0 = (3 : Int)))
 ((C f_s_l1In
 [AVal.v (CVal.int IntKind.i64 a1), AVal.v (CVal.int IntKind.i64 (0 : Int)),
 AVal.v (CVal.int IntKind.i64 (1 : Int))]
 []).bind
 fun r =>
 r.1.asBool.bind fun b =>
 br (!b) (some (true, PUnit.unit))
 (br (!decide (a0 = (3 : Int))) (some (!decide (a1 = (0 : Int)), PUnit.unit))
 (some (false, PUnit.unit))))
 (br (!decide (a0 = (3 : Int))) (some (!decide (a1 = (0 : Int)), PUnit.unit))
 (some (false, PUnit.unit))))))).bind
 fun y =>
 br y.1 (some (CVal.bool false, [[CVal.int IntKind.i64 (IntKind.i64.wrap (c + (1 : Int)))]]))
 ((L f_s_l1Look (0 : Nat) lc_s_l1Look_0 [PSh.box [none]] k_s_l1Look_0
 ((b, PUnit.unit, PUnit.unit, (0 : Int), PUnit.unit), (IntKind.i64.wrap (c + (1 : Int)), PUnit.unit),
 (a0, a1, a2, PUnit.unit), PUnit.unit)).bind
 fun r =>
 loK r (fun r => some r) fun j p =>
 br (j == (0 : Nat)) (some (CVal.bool true, [[CVal.int IntKind.i64 p.snd.fst.1]])) none)
theorem eq_s_l1Look (C : CallT) (L : LoopT) (a0 : Int) (a1 : Int) (a2 : List CVal) (b : Int) (c : Int) : evF E N C L f_s_l1Look [AVal.v (CVal.agg [CVal.int IntKind.i64 a0, CVal.int IntKind.i64 a1, CVal.sl a2]), AVal.v (CVal.int IntKind.i64 b),
 AVal.lptr (0 : Nat) (0 : Nat)] [PB.box [AVal.v (CVal.int IntKind.i64 c)]] = nf_s_l1Look C L a0 a1 a2 b c := by kernel_rfl
theorem go_s_l1Look (a0 : Int) (a1 : Int) (a2 : List CVal) (b : Int) (c : Int) (R : Ret) (h : nf_s_l1Look CC LL a0 a1 a2 b c = some R) : CC f_s_l1Look [AVal.v (CVal.agg [CVal.int IntKind.i64 a0, CVal.int IntKind.i64 a1, CVal.sl a2]), AVal.v (CVal.int IntKind.i64 b),
 AVal.lptr (0 : Nat) (0 : Nat)] [PB.box [AVal.v (CVal.int IntKind.i64 c)]] = some R := fnW (by decide) rfl ((eq_s_l1Look CC LL a0 a1 a2 b c).trans h)
noncomputable def nf_slices_EqualFunc_Ty (C : CallT) (L : LoopT) (a : List CVal) (b : List CVal) (c : CVal) : Option Ret :=
 br (!decide ((↑a.length : Int) = (↑b.length : Int))) (some (CVal.bool false, []))
 ((L f_slices_EqualFunc_Ty (0 : Nat) lc_slices_EqualFunc_Ty_0 [] k_slices_EqualFunc_Ty_0
 ((b, c, a, (↑a.length : Int), (0 : Int), PUnit.unit), PUnit.unit)).bind
 fun r => loK r (fun r => some r) fun j p => br (j == (0 : Nat)) (some (CVal.bool true, [])) none)
theorem eq_slices_EqualFunc_Ty (C : CallT) (L : LoopT) (a : List CVal) (b : List CVal) (c : CVal) : evF E N C L f_slices_EqualFunc_Ty [AVal.v (CVal.sl a), AVal.v (CVal.sl b), AVal.v c] [] = nf_slices_EqualFunc_Ty C L a b c := by kernel_rfl
theorem go_slices_EqualFunc_Ty (a : List CVal) (b : List CVal) (c : CVal) (R : Ret) (h : nf_slices_EqualFunc_Ty CC LL a b c = some R) : CC f_slices_EqualFunc_Ty [AVal.v (CVal.sl a), AVal.v (CVal.sl b), AVal.v c] [] = some R := fnW (by decide) rfl ((eq_slices_EqualFunc_Ty CC LL a b c).trans h)
noncomputable def nl_s_AllUnlike_0 (C : CallT) (L : LoopT) (x01 : List CVal) (x02 : Int) (x10 : Int) (x11 : Int) (x12 : List UInt8) (x13 : List UInt8) (x14 : Int) (x15 : Int) (x16 : List CVal) (x17 : List CVal) (x18 : List CVal) : Option (LO k_s_AllUnlike_0.T) :=
 br (decide (x02 < (↑x01.length : Int)))
 (br (decide ((0 : Int) ≤ x02) && decide (x02 ≤ (↑x01.length : Int)) && x01.all (CVal.fits false (1 : Nat)))
 (br (decide ((0 : Int) ≤ x02) && true)
 (x01[x02.toNat]?.bind fun y =>
 br (CVal.fits false (1 : Nat) y)
 ((y.cell (0 : Nat)).bind fun c =>
 (C f_s_l2Has [AVal.v (CVal.sl (List.drop (0 : Nat) (List.take x02.toNat x01))), AVal.v c] []).bind fun r =>
 r.1.asBool.bind fun b =>
 br b (some (LO.ret (CVal.bool false, [])))
 (L f_s_AllUnlike (0 : Nat) lc_s_AllUnlike_0 [] k_s_AllUnlike_0
 ((PUnit.unit, x01, IntKind.i64.wrap (x02 + (1 : Int)), PUnit.unit),
 (x10, x11, x12, x13, x14, x15, x16, x17, x18, PUnit.unit), PUnit.unit)))
 none)
 none)
 none)
 (some
 (LO.out (0 : Nat)
 ((PUnit.unit, x01, x02, PUnit.unit), (x10, x11, x12, x13, x14, x15, x16, x17, x18, PUnit.unit), PUnit.unit)))
theorem el_s_AllUnlike_0 (C : CallT) (L : LoopT) (x01 : List CVal) (x02 : Int) (x10 : Int) (x11 : Int) (x12 : List UInt8) (x13 : List UInt8) (x14 : Int) (x15 : Int) (x16 : List CVal) (x17 : List CVal) (x18 : List CVal) : evL E N C L f_s_AllUnlike 0 lc_s_AllUnlike_0 [] k_s_AllUnlike_0 (((), x01, x02, ()), (x10, x11, x12, x13, x14, x15, x16, x17, x18, ()), ()) = nl_s_AllUnlike_0 C L x01 x02 x10 x11 x12 x13 x14 x15 x16 x17 x18 := by kernel_rfl
theorem gl_s_AllUnlike_0 (x01 : List CVal) (x02 : Int) (x10 : Int) (x11 : Int) (x12 : List UInt8) (x13 : List UInt8) (x14 : Int) (x15 : Int) (x16 : List CVal) (x17 : List CVal) (x18 : List CVal) (R : LO k_s_AllUnlike_0.T) (h : nl_s_AllUnlike_0 CC LL x01 x02 x10 x11 x12 x13 x14 x15 x16 x17 x18 = some R) : LL f_s_AllUnlike 0 lc_s_AllUnlike_0 [] k_s_AllUnlike_0 (((), x01, x02, ()), (x10, x11, x12, x13, x14, x15, x16, x17, x18, ()), ()) = some R := loopW ((el_s_AllUnlike_0 CC LL x01 x02 x10 x11 x12 x13 x14 x15 x16 x17 x18).trans h)
noncomputable def nl_l_toTermS_0 (C : CallT) (L : LoopT) (x00 : List CVal) (x02 : Int) (x1 : List CVal) : Option (LO k_l_toTermS_0.T) :=
 br (decide (x02 < (↑x00.length : Int)))
 (br (decide ((0 : Int) ≤ x02) && true)
 (x00[x02.toNat]?.bind fun y =>
 br (CVal.fits true (9 : Nat) y)
 ((y.sub (0 : Nat) (9 : Nat)).bind fun y =>
 (C f_l_toTerm [AVal.v y] []).bind fun r =>
 br (CVal.isAggN (9 : Nat) r.1)
 ((r.1.cell (0 : Nat)).bind fun c =>
 (r.1.cell (1 : Nat)).bind fun c_1 =>
 (r.1.cell (2 : Nat)).bind fun c_2 =>
 (r.1.cell (3 : Nat)).bind fun c_3 =>
 (r.1.cell (4 : Nat)).bind fun c_4 =>
 (r.1.cell (5 : Nat)).bind fun c_5 =>
 (r.1.cell (6 : Nat)).bind fun c_6 =>
 (r.1.cell (7 : Nat)).bind fun c_7 =>
 (r.1.cell (8 : Nat)).bind fun c_8 =>
 c_6.asSl.bind fun xs =>
 c_7.asSl.bind fun xs_1 =>
 c_8.asSl.bind fun xs_2 =>
 br (decide ((0 : Int) ≤ x02) && true)
 (br (decide (x02.toNat < x1.length) && true)
 ((CVal.asInt IntKind.i64 c).bind fun n =>
 (CVal.asInt IntKind.i64 c_1).bind fun n_1 =>
 c_2.asStr.bind fun s =>
 c_3.asStr.bind fun s_1 =>
 (CVal.asInt IntKind.i64 c_4).bind fun n_2 =>
 (CVal.asInt IntKind.i64 c_5).bind fun n_3 =>
 x1[x02.toNat]?.bind fun y =>
 br (CVal.fits true (9 : Nat) y)
 (L f_l_toTermS (0 : Nat) lc_l_toTermS_0 [] k_l_toTermS_0
 ((x00, PUnit.unit, IntKind.i64.wrap (x02 + (1 : Int)),
 PUnit.unit),
 x1.set x02.toNat
 (CVal.agg
 [CVal.int IntKind.i64 n, CVal.int IntKind.i64 n_1,
 CVal.str s, CVal.str s_1, CVal.int IntKind.i64 n_2,
 CVal.int IntKind.i64 n_3, CVal.sl xs, CVal.sl xs_1,
 CVal.sl xs_2]),
 PUnit.unit))
 (br (y.isAgg && decide ((9 : Nat) ≤ y.cells.length))
 (L f_l_toTermS (0 : Nat) lc_l_toTermS_0 [] k_l_toTermS_0
 ((x00, PUnit.unit, IntKind.i64.wrap (x02 + (1 : Int)),
 PUnit.unit),
 x1.set x02.toNat
 (CVal.agg
 (CVal.int IntKind.i64 n ::
 CVal.int IntKind.i64 n_1 ::
 CVal.str s ::
 CVal.str s_1 ::
 CVal.int IntKind.i64 n_2 ::
 CVal.int IntKind.i64 n_3 ::
 CVal.sl xs ::
 CVal.sl xs_1 ::
 CVal.sl xs_2 ::
 List.drop (9 : Nat) y.cells)),
 PUnit.unit))
 none))
 none)
 none)
 none)
 none)
 none)
 (some (LO.out (0 : Nat) ((x00, PUnit.unit, x02, PUnit.unit), x1, PUnit.unit)))
theorem el_l_toTermS_0 (C : CallT) (L : LoopT) (x00 : List CVal) (x02 : Int) (x1 : List CVal) : evL E N C L f_l_toTermS 0 lc_l_toTermS_0 [] k_l_toTermS_0 ((x00, (), x02, ()), x1, ()) = nl_l_toTermS_0 C L x00 x02 x1 := by kernel_rfl
theorem gl_l_toTermS_0 (x00 : List CVal) (x02 : Int) (x1 : List CVal) (R : LO k_l_toTermS_0.T) (h : nl_l_toTermS_0 CC LL x00 x02 x1 = some R) : LL f_l_toTermS 0 lc_l_toTermS_0 [] k_l_toTermS_0 ((x00, (), x02, ()), x1, ()) = some R := loopW ((el_l_toTermS_0 CC LL x00 x02 x1).trans h)
noncomputable def nl_s_l6Binders_0 (C : CallT) (L : LoopT) (x02 : Int) (x1 : List CVal) (x20 : Int) (x21 : Int) (x22 : List UInt8) (x23 : List UInt8) (x24 : Int) (x25 : Int) (x26 : List CVal) (x27 : List CVal) (x28 : List CVal) : Option (LO k_s_l6Binders_0.T) :=
 br (decide (x02 < (↑x28.length : Int)))
 (br (decide ((0 : Int) ≤ x02) && true)
 (x28[x02.toNat]?.bind fun y =>
 br (CVal.fits true (9 : Nat) y)
 ((y.sub (0 : Nat) (9 : Nat)).bind fun y =>
 (C f_s_l6Binders [AVal.v y, AVal.lref (0 : Nat) (0 : Nat)]
 [PB.arr (Md.mk true false (0 : Nat)) false (1 : Nat) x1]).bind
 fun r =>
 r.2[(0 : Nat)]?.bind fun y =>
 L f_s_l6Binders (0 : Nat) lc_s_l6Binders_0 [PSh.arr (Md.mk true false (0 : Nat)) false (1 : Nat)]
 k_s_l6Binders_0
 ((PUnit.unit, PUnit.unit, IntKind.i64.wrap (x02 + (1 : Int)), PUnit.unit), y,
 (x20, x21, x22, x23, x24, x25, x26, x27, x28, PUnit.unit), PUnit.unit))
 none)
 none)
 (some
 (LO.out (0 : Nat)
 ((PUnit.unit, PUnit.unit, x02, PUnit.unit), x1, (x20, x21, x22, x23, x24, x25, x26, x27, x28, PUnit.unit),
 PUnit.unit)))
theorem el_s_l6Binders_0 (C : CallT) (L : LoopT) (x02 : Int) (x1 : List CVal) (x20 : Int) (x21 : Int) (x22 : List UInt8) (x23 : List UInt8) (x24 : Int) (x25 : Int) (x26 : List CVal) (x27 : List CVal) (x28 : List CVal) : evL E N C L f_s_l6Binders 0 lc_s_l6Binders_0 [PSh.arr (Md.mk true false (0 : Nat)) false (1 : Nat)] k_s_l6Binders_0 (((), (), x02, ()), x1, (x20, x21, x22, x23, x24, x25, x26, x27, x28, ()), ()) = nl_s_l6Binders_0 C L x02 x1 x20 x21 x22 x23 x24 x25 x26 x27 x28 := by kernel_rfl
theorem gl_s_l6Binders_0 (x02 : Int) (x1 : List CVal) (x20 : Int) (x21 : Int) (x22 : List UInt8) (x23 : List UInt8) (x24 : Int) (x25 : Int) (x26 : List CVal) (x27 : List CVal) (x28 : List CVal) (R : LO k_s_l6Binders_0.T) (h : nl_s_l6Binders_0 CC LL x02 x1 x20 x21 x22 x23 x24 x25 x26 x27 x28 = some R) : LL f_s_l6Binders 0 lc_s_l6Binders_0 [PSh.arr (Md.mk true false (0 : Nat)) false (1 : Nat)] k_s_l6Binders_0 (((), (), x02, ()), x1, (x20, x21, x22, x23, x24, x25, x26, x27, x28, ()), ()) = some R := loopW ((el_s_l6Binders_0 CC LL x02 x1 x20 x21 x22 x23 x24 x25 x26 x27 x28).trans h)
noncomputable def nl_s_l2One_0 (C : CallT) (L : LoopT) (x01 : Int) (x10 : Int) (x11 : Int) (x12 : List UInt8) (x13 : List UInt8) (x14 : Int) (x15 : Int) (x16 : List CVal) (x17 : List CVal) (x18 : List CVal) : Option (LO k_s_l2One_0.T) :=
 br (decide (x01 < (↑x17.length : Int)))
 (br (decide ((0 : Int) ≤ x01) && true)
 (x17[x01.toNat]?.bind fun y =>
 br (CVal.fits true (3 : Nat) y)
 ((y.sub (0 : Nat) (3 : Nat)).bind fun y =>
 (C f_s_TyOk [AVal.v y] []).bind fun r =>
 r.1.asBool.bind fun b =>
 br (!b) (some (LO.ret (CVal.bool false, [])))
 (L f_s_l2One (0 : Nat) lc_s_l2One_0 [] k_s_l2One_0
 ((PUnit.unit, IntKind.i64.wrap (x01 + (1 : Int)), PUnit.unit),
 (x10, x11, x12, x13, x14, x15, x16, x17, x18, PUnit.unit), PUnit.unit)))
 none)
 none)
 (some
 (LO.out (0 : Nat)
 ((PUnit.unit, x01, PUnit.unit), (x10, x11, x12, x13, x14, x15, x16, x17, x18, PUnit.unit), PUnit.unit)))
theorem el_s_l2One_0 (C : CallT) (L : LoopT) (x01 : Int) (x10 : Int) (x11 : Int) (x12 : List UInt8) (x13 : List UInt8) (x14 : Int) (x15 : Int) (x16 : List CVal) (x17 : List CVal) (x18 : List CVal) : evL E N C L f_s_l2One 0 lc_s_l2One_0 [] k_s_l2One_0 (((), x01, ()), (x10, x11, x12, x13, x14, x15, x16, x17, x18, ()), ()) = nl_s_l2One_0 C L x01 x10 x11 x12 x13 x14 x15 x16 x17 x18 := by kernel_rfl
theorem gl_s_l2One_0 (x01 : Int) (x10 : Int) (x11 : Int) (x12 : List UInt8) (x13 : List UInt8) (x14 : Int) (x15 : Int) (x16 : List CVal) (x17 : List CVal) (x18 : List CVal) (R : LO k_s_l2One_0.T) (h : nl_s_l2One_0 CC LL x01 x10 x11 x12 x13 x14 x15 x16 x17 x18 = some R) : LL f_s_l2One 0 lc_s_l2One_0 [] k_s_l2One_0 (((), x01, ()), (x10, x11, x12, x13, x14, x15, x16, x17, x18, ()), ()) = some R := loopW ((el_s_l2One_0 CC LL x01 x10 x11 x12 x13 x14 x15 x16 x17 x18).trans h)
noncomputable def nl_i_isName_0 (C : CallT) (L : LoopT) (x00 : List UInt8) (x01 : Int) (x02 : Int) : Option (LO k_i_isName_0.T) :=
 br (decide (x02 < x01))
 (br (decide ((0 : Int) ≤ x02))
 (x00[x02.toNat]?.bind fun y =>
 (br (decide ((97 : Int) ≤ (↑y.toNat : Int))) (some (decide ((↑y.toNat : Int) ≤ (122 : Int)), PUnit.unit))
 (some (false, PUnit.unit))).bind
 fun y_1 =>
 (br (!y_1.1)
 (br (decide (x02 = (0 : Int))) (some (true, PUnit.unit))
 (br (decide ((↑y.toNat : Int) < (48 : Int)))
 (some (!decide ((↑y.toNat : Int) = (46 : Int)), PUnit.unit))
 (br (decide ((57 : Int) < (↑y.toNat : Int)))
 (some (!decide ((↑y.toNat : Int) = (46 : Int)), PUnit.unit)) (some (false, PUnit.unit)))))
 (some (false, PUnit.unit))).bind
 fun y =>
 br y.1 (some (LO.ret (CVal.bool false, [])))
 (L f_i_isName (0 : Nat) lc_i_isName_0 [] k_i_isName_0
 ((x00, x01, IntKind.i64.wrap (x02 + (1 : Int)), PUnit.unit), PUnit.unit)))
 none)
 (some (LO.out (0 : Nat) ((x00, x01, x02, PUnit.unit), PUnit.unit)))
theorem el_i_isName_0 (C : CallT) (L : LoopT) (x00 : List UInt8) (x01 : Int) (x02 : Int) : evL E N C L f_i_isName 0 lc_i_isName_0 [] k_i_isName_0 ((x00, x01, x02, ()), ()) = nl_i_isName_0 C L x00 x01 x02 := by kernel_rfl
theorem gl_i_isName_0 (x00 : List UInt8) (x01 : Int) (x02 : Int) (R : LO k_i_isName_0.T) (h : nl_i_isName_0 CC LL x00 x01 x02 = some R) : LL f_i_isName 0 lc_i_isName_0 [] k_i_isName_0 ((x00, x01, x02, ()), ()) = some R := loopW ((el_i_isName_0 CC LL x00 x01 x02).trans h)
end Go.Proofs.Ytbimglfmmmlicaa.Abs
