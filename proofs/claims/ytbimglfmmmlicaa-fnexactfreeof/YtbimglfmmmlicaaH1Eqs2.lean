/- What the functions come to in the abstract machine. -/
import Derived.Test.YtbimglfmmmlicaaH1Ann
import Derived.KernelRfl
set_option linter.unusedVariables false
set_option maxRecDepth 100000
namespace Go.Proofs.Ytbimglfmmmlicaa.Abs
open Go Go.Proofs
noncomputable def nf_l_toTerm (C : CallT) (L : LoopT) (a0 : Int) (a1 : Int) (a2 : List UInt8) (a3 : List UInt8) (a40 : Int) (a41 : Int) (a42 : List CVal) (a5 : List CVal) (a6 : List CVal) : Option Ret :=
 (C f_l_toTy [AVal.v (CVal.agg [CVal.int IntKind.i64 a40, CVal.int IntKind.i64 a41, CVal.sl a42])] []).bind fun r =>
 br (CVal.isAggN (3 : Nat) r.1)
 ((r.1.cell (0 : Nat)).bind fun c =>
 (r.1.cell (1 : Nat)).bind fun c_1 =>
 (r.1.cell (2 : Nat)).bind fun c_2 =>
 c_2.asSl.bind fun xs =>
 (C f_l_toTyS [AVal.v (CVal.sl a5)] []).bind fun r =>
 br r.1.isFlat
 (r.1.asSl.bind fun xs_1 =>
 (C f_l_toTermS [AVal.v (CVal.sl a6)] []).bind fun r =>
 br r.1.isFlat
 (r.1.asSl.bind fun xs_2 =>
 (CVal.asInt IntKind.i64 c).bind fun n =>
 (CVal.asInt IntKind.i64 c_1).bind fun n_1 =>
 some
 (CVal.agg
 [CVal.int IntKind.i64 a0, CVal.int IntKind.i64 a1, CVal.str a2, CVal.str a3,
 CVal.int IntKind.i64 n, CVal.int IntKind.i64 n_1, CVal.sl xs, CVal.sl xs_1,
 CVal.sl xs_2],
 []))
 none)
 none)
 none
theorem eq_l_toTerm (C : CallT) (L : LoopT) (a0 : Int) (a1 : Int) (a2 : List UInt8) (a3 : List UInt8) (a40 : Int) (a41 : Int) (a42 : List CVal) (a5 : List CVal) (a6 : List CVal) : evF E N C L f_l_toTerm [AVal.v
 (CVal.agg
 [CVal.int IntKind.i64 a0, CVal.int IntKind.i64 a1, CVal.str a2, CVal.str a3, CVal.int IntKind.i64 a40,
 CVal.int IntKind.i64 a41, CVal.sl a42, CVal.sl a5, CVal.sl a6])] [] = nf_l_toTerm C L a0 a1 a2 a3 a40 a41 a42 a5 a6 := by kernel_rfl
theorem go_l_toTerm (a0 : Int) (a1 : Int) (a2 : List UInt8) (a3 : List UInt8) (a40 : Int) (a41 : Int) (a42 : List CVal) (a5 : List CVal) (a6 : List CVal) (R : Ret) (h : nf_l_toTerm CC LL a0 a1 a2 a3 a40 a41 a42 a5 a6 = some R) : CC f_l_toTerm [AVal.v
 (CVal.agg
 [CVal.int IntKind.i64 a0, CVal.int IntKind.i64 a1, CVal.str a2, CVal.str a3, CVal.int IntKind.i64 a40,
 CVal.int IntKind.i64 a41, CVal.sl a42, CVal.sl a5, CVal.sl a6])] [] = some R := fnW (by decide) rfl ((eq_l_toTerm CC LL a0 a1 a2 a3 a40 a41 a42 a5 a6).trans h)
noncomputable def nf_l_markStringS (C : CallT) (L : LoopT) (a : List CVal) (b : Int) : Option Ret :=
 (L f_l_markStringS (0 : Nat) lc_l_markStringS_0 [PSh.arr (Md.mk true true (0 : Nat)) false (1 : Nat)] k_l_markStringS_0
 ((PUnit.unit, b, (0 : Int), PUnit.unit), a, PUnit.unit)).bind
 fun r =>
 loK r (fun r => some r) fun j p => br (j == (0 : Nat)) (some (CVal.int IntKind.i64 p.fst.snd.1, [p.snd.1])) none
theorem eq_l_markStringS (C : CallT) (L : LoopT) (a : List CVal) (b : Int) : evF E N C L f_l_markStringS [AVal.lref (0 : Nat) (0 : Nat), AVal.v (CVal.int IntKind.i64 b)] [PB.arr (Md.mk true true (0 : Nat)) false (1 : Nat) a] = nf_l_markStringS C L a b := by kernel_rfl
theorem go_l_markStringS (a : List CVal) (b : Int) (R : Ret) (h : nf_l_markStringS CC LL a b = some R) : CC f_l_markStringS [AVal.lref (0 : Nat) (0 : Nat), AVal.v (CVal.int IntKind.i64 b)] [PB.arr (Md.mk true true (0 : Nat)) false (1 : Nat) a] = some R := fnW (by decide) rfl ((eq_l_markStringS CC LL a b).trans h)
noncomputable def nf_l_toTyS (C : CallT) (L : LoopT) (a : List CVal) : Option Ret :=
 br (decide ((↑a.length : Int) = (↑a.length : Int)) && decide ((↑a.length : Int) ≤ (1048576 : Int)))
 ((L f_l_toTyS (0 : Nat) lc_l_toTyS_0 [] k_l_toTyS_0
 ((a, PUnit.unit, (0 : Int), PUnit.unit),
 List.replicate (↑a.length : Int).toNat
 (CVal.agg [CVal.int IntKind.i64 (0 : Int), CVal.int IntKind.i64 (0 : Int), CVal.sl []]),
 PUnit.unit)).bind
 fun r => loK r (fun r => some r) fun j p => br (j == (0 : Nat)) (some (CVal.sl p.snd.1, [])) none)
 none
theorem eq_l_toTyS (C : CallT) (L : LoopT) (a : List CVal) : evF E N C L f_l_toTyS [AVal.v (CVal.sl a)] [] = nf_l_toTyS C L a := by kernel_rfl
theorem go_l_toTyS (a : List CVal) (R : Ret) (h : nf_l_toTyS CC LL a = some R) : CC f_l_toTyS [AVal.v (CVal.sl a)] [] = some R := fnW (by decide) rfl ((eq_l_toTyS CC LL a).trans h)
noncomputable def nf_l_eqTy (C : CallT) (L : LoopT) (a0 : Int) (a1 : Int) (a2 : List CVal) (b0 : Int) (b1 : Int) (b2 : List CVal) : Option Ret :=
 br (!decide (a0 = b0)) (some (CVal.bool false, []))
 (br (!decide (a1 = b1)) (some (CVal.bool false, []))
 ((C f_l_eqTyS [AVal.v (CVal.sl a2), AVal.v (CVal.sl b2)] []).bind fun r =>
 r.1.asBool.bind fun b => br (!b) (some (CVal.bool false, [])) (some (CVal.bool true, []))))
theorem eq_l_eqTy (C : CallT) (L : LoopT) (a0 : Int) (a1 : Int) (a2 : List CVal) (b0 : Int) (b1 : Int) (b2 : List CVal) : evF E N C L f_l_eqTy [AVal.v (CVal.agg [CVal.int IntKind.i64 a0, CVal.int IntKind.i64 a1, CVal.sl a2]),
 AVal.v (CVal.agg [CVal.int IntKind.i64 b0, CVal.int IntKind.i64 b1, CVal.sl b2])] [] = nf_l_eqTy C L a0 a1 a2 b0 b1 b2 := by kernel_rfl
theorem go_l_eqTy (a0 : Int) (a1 : Int) (a2 : List CVal) (b0 : Int) (b1 : Int) (b2 : List CVal) (R : Ret) (h : nf_l_eqTy CC LL a0 a1 a2 b0 b1 b2 = some R) : CC f_l_eqTy [AVal.v (CVal.agg [CVal.int IntKind.i64 a0, CVal.int IntKind.i64 a1, CVal.sl a2]),
 AVal.v (CVal.agg [CVal.int IntKind.i64 b0, CVal.int IntKind.i64 b1, CVal.sl b2])] [] = some R := fnW (by decide) rfl ((eq_l_eqTy CC LL a0 a1 a2 b0 b1 b2).trans h)
noncomputable def nf_l_markText (C : CallT) (L : LoopT) (a : Int) : Option Ret :=
 br (decide (a ≤ (0 : Int))) (some (CVal.str [(109 : UInt8), (48 : UInt8)], []))
 ((L f_l_markText (0 : Nat) lc_l_markText_0 [] k_l_markText_0 ((a, [], PUnit.unit), PUnit.unit)).bind fun r =>
 loK r (fun r => some r) fun j p =>
 br (j == (0 : Nat))
 (br (decide ((1 : Nat) + List.length p.fst.snd.1 ≤ (1152921504606846976 : Nat)))
 (some (CVal.str ([(109 : UInt8)] ++ p.fst.snd.1), [])) none)
 none)
theorem eq_l_markText (C : CallT) (L : LoopT) (a : Int) : evF E N C L f_l_markText [AVal.v (CVal.int IntKind.i64 a)] [] = nf_l_markText C L a := by kernel_rfl
theorem go_l_markText (a : Int) (R : Ret) (h : nf_l_markText CC LL a = some R) : CC f_l_markText [AVal.v (CVal.int IntKind.i64 a)] [] = some R := fnW (by decide) rfl ((eq_l_markText CC LL a).trans h)
noncomputable def nf_i_boundIn (C : CallT) (L : LoopT) (a0 : Int) (a1 : Int) (a2 : List UInt8) (a3 : List UInt8) (a40 : Int) (a41 : Int) (a42 : List CVal) (a5 : List CVal) (a6 : List CVal) (b : Int) : Option Ret :=
 (br (decide (a0 = (4 : Int))) (some (true, PUnit.unit))
 (br (decide (a0 = (7 : Int))) (some (true, PUnit.unit))
 (br (decide (a0 = (6 : Int))) (some (decide (b = (1 : Int)), PUnit.unit))
 (br (decide (a0 = (17 : Int))) (some (decide (b = (1 : Int)), PUnit.unit)) (some (false, PUnit.unit)))))).bind
 fun y =>
 br y.1 (some (CVal.sl [CVal.str a2], []))
 ((br (decide (a0 = (14 : Int))) (some (decide (b = (2 : Int)), PUnit.unit)) (some (false, PUnit.unit))).bind
 fun y => br y.1 (some (CVal.sl [CVal.str a2, CVal.str a3], [])) (some (CVal.sl [], [])))
theorem eq_i_boundIn (C : CallT) (L : LoopT) (a0 : Int) (a1 : Int) (a2 : List UInt8) (a3 : List UInt8) (a40 : Int) (a41 : Int) (a42 : List CVal) (a5 : List CVal) (a6 : List CVal) (b : Int) : evF E N C L f_i_boundIn [AVal.v
 (CVal.agg
 [CVal.int IntKind.i64 a0, CVal.int IntKind.i64 a1, CVal.str a2, CVal.str a3, CVal.int IntKind.i64 a40,
 CVal.int IntKind.i64 a41, CVal.sl a42, CVal.sl a5, CVal.sl a6]),
 AVal.v (CVal.int IntKind.i64 b)] [] = nf_i_boundIn C L a0 a1 a2 a3 a40 a41 a42 a5 a6 b := by kernel_rfl
theorem go_i_boundIn (a0 : Int) (a1 : Int) (a2 : List UInt8) (a3 : List UInt8) (a40 : Int) (a41 : Int) (a42 : List CVal) (a5 : List CVal) (a6 : List CVal) (b : Int) (R : Ret) (h : nf_i_boundIn CC LL a0 a1 a2 a3 a40 a41 a42 a5 a6 b = some R) : CC f_i_boundIn [AVal.v
 (CVal.agg
 [CVal.int IntKind.i64 a0, CVal.int IntKind.i64 a1, CVal.str a2, CVal.str a3, CVal.int IntKind.i64 a40,
 CVal.int IntKind.i64 a41, CVal.sl a42, CVal.sl a5, CVal.sl a6]),
 AVal.v (CVal.int IntKind.i64 b)] [] = some R := fnW (by decide) rfl ((eq_i_boundIn CC LL a0 a1 a2 a3 a40 a41 a42 a5 a6 b).trans h)
noncomputable def nf_s_l2Number (C : CallT) (L : LoopT) (a0 : Int) (a1 : Int) (a2 : List UInt8) (a3 : List UInt8) (a40 : Int) (a41 : Int) (a42 : List CVal) (a5 : List CVal) (a6 : List CVal) : Option Ret :=
 br (decide (a0 = (1 : Int)))
 ((C f_s_l1In
 [AVal.v (CVal.int IntKind.i64 a1), AVal.v (CVal.int IntKind.i64 (-1000000 : Int)),
 AVal.v (CVal.int IntKind.i64 (1000000 : Int))]
 []).bind
 fun r => some (r.1, []))
 (br (decide (a0 = (2 : Int)))
 ((C f_s_l1In
 [AVal.v (CVal.int IntKind.i64 a1), AVal.v (CVal.int IntKind.i64 (0 : Int)),
 AVal.v (CVal.int IntKind.i64 (1 : Int))]
 []).bind
 fun r => some (r.1, []))
 (br (decide (a0 = (6 : Int)))
 ((C f_s_l1In
 [AVal.v (CVal.int IntKind.i64 a1), AVal.v (CVal.int IntKind.i64 (0 : Int)),
 AVal.v (CVal.int IntKind.i64 (2 : Int))]
 []).bind
 fun r => some (r.1, []))
 (br (decide (a0 = (7 : Int)))
 ((C f_s_l1In
 [AVal.v (CVal.int IntKind.i64 a1), AVal.v (CVal.int IntKind.i64 (0 : Int)),
 AVal.v (CVal.int IntKind.i64 (2 : Int))]
 []).bind
 fun r => some (r.1, []))
 (br (decide (a0 = (15 : Int)))
 ((C f_s_l1In
 [AVal.v (CVal.int IntKind.i64 a1), AVal.v (CVal.int IntKind.i64 (1 : Int)),
 AVal.v (CVal.int IntKind.i64 (5 : Int))]
 []).bind
 fun r => some (r.1, []))
 (some (CVal.bool (decide (a1 = (0 : Int))), []))))))
theorem eq_s_l2Number (C : CallT) (L : LoopT) (a0 : Int) (a1 : Int) (a2 : List UInt8) (a3 : List UInt8) (a40 : Int) (a41 : Int) (a42 : List CVal) (a5 : List CVal) (a6 : List CVal) : evF E N C L f_s_l2Number [AVal.v
 (CVal.agg
 [CVal.int IntKind.i64 a0, CVal.int IntKind.i64 a1, CVal.str a2, CVal.str a3, CVal.int IntKind.i64 a40,
 CVal.int IntKind.i64 a41, CVal.sl a42, CVal.sl a5, CVal.sl a6])] [] = nf_s_l2Number C L a0 a1 a2 a3 a40 a41 a42 a5 a6 := by kernel_rfl
theorem go_s_l2Number (a0 : Int) (a1 : Int) (a2 : List UInt8) (a3 : List UInt8) (a40 : Int) (a41 : Int) (a42 : List CVal) (a5 : List CVal) (a6 : List CVal) (R : Ret) (h : nf_s_l2Number CC LL a0 a1 a2 a3 a40 a41 a42 a5 a6 = some R) : CC f_s_l2Number [AVal.v
 (CVal.agg
 [CVal.int IntKind.i64 a0, CVal.int IntKind.i64 a1, CVal.str a2, CVal.str a3, CVal.int IntKind.i64 a40,
 CVal.int IntKind.i64 a41, CVal.sl a42, CVal.sl a5, CVal.sl a6])] [] = some R := fnW (by decide) rfl ((eq_s_l2Number CC LL a0 a1 a2 a3 a40 a41 a42 a5 a6).trans h)
noncomputable def nf_i_namesOk (C : CallT) (L : LoopT) (a : Int) (b : List UInt8) (c : List UInt8) : Option Ret :=
 br (decide (a = (14 : Int)))
 (((C f_i_isName [AVal.v (CVal.str b)] []).bind fun r =>
 r.1.asBool.bind fun b_1 =>
 br b_1
 ((C f_i_isName [AVal.v (CVal.str c)] []).bind fun r =>
 (bif true then r.1 else CVal.bool false).asBool.bind fun b_2 =>
 br b_2 (some (!decide (b = c), PUnit.unit)) (some (false, PUnit.unit)))
 (some (false, PUnit.unit))).bind
 fun y => some (CVal.bool y.1, []))
 ((br (decide (c = []))
 ((C f_i_isName [AVal.v (CVal.str b)] []).bind fun r =>
 (C f_i_bindsS [AVal.v (CVal.int IntKind.i64 a)] []).bind fun r_1 =>
 r_1.1.asBool.bind fun b_1 =>
 br b_1
 (r.1.asBool.bind fun b_2 =>
 br (b_2 == true)
 (br (decide (b = [])) (some (true, PUnit.unit))
 ((C f_i_isName [AVal.v (CVal.str b)] []).bind fun r =>
 (bif true then bif false then CVal.bool true else r.1 else CVal.bool false).asBool.bind fun b =>
 some (b, PUnit.unit)))
 (some (false, PUnit.unit)))
 (r.1.asBool.bind fun b_2 =>
 br (b_2 == decide (a = (3 : Int)))
 (br (decide (b = [])) (some (true, PUnit.unit))
 ((C f_i_isName [AVal.v (CVal.str b)] []).bind fun r =>
 (bif true then bif false then CVal.bool true else r.1 else CVal.bool false).asBool.bind fun b =>
 some (b, PUnit.unit)))
 (some (false, PUnit.unit))))
 (some (false, PUnit.unit))).bind
 fun y => some (CVal.bool y.1, []))
theorem eq_i_namesOk (C : CallT) (L : LoopT) (a : Int) (b : List UInt8) (c : List UInt8) : evF E N C L f_i_namesOk [AVal.v (CVal.int IntKind.i64 a), AVal.v (CVal.str b), AVal.v (CVal.str c)] [] = nf_i_namesOk C L a b c := by kernel_rfl
theorem go_i_namesOk (a : Int) (b : List UInt8) (c : List UInt8) (R : Ret) (h : nf_i_namesOk CC LL a b c = some R) : CC f_i_namesOk [AVal.v (CVal.int IntKind.i64 a), AVal.v (CVal.str b), AVal.v (CVal.str c)] [] = some R := fnW (by decide) rfl ((eq_i_namesOk CC LL a b c).trans h)
noncomputable def nf_s_l1In (C : CallT) (L : LoopT) (a : Int) (b : Int) (c : Int) : Option Ret :=
 (br (decide (b ≤ a)) (some (decide (a ≤ c), PUnit.unit)) (some (false, PUnit.unit))).bind fun y =>
 some (CVal.bool y.1, [])
theorem eq_s_l1In (C : CallT) (L : LoopT) (a : Int) (b : Int) (c : Int) : evF E N C L f_s_l1In [AVal.v (CVal.int IntKind.i64 a), AVal.v (CVal.int IntKind.i64 b), AVal.v (CVal.int IntKind.i64 c)] [] = nf_s_l1In C L a b c := by kernel_rfl
theorem go_s_l1In (a : Int) (b : Int) (c : Int) (R : Ret) (h : nf_s_l1In CC LL a b c = some R) : CC f_s_l1In [AVal.v (CVal.int IntKind.i64 a), AVal.v (CVal.int IntKind.i64 b), AVal.v (CVal.int IntKind.i64 c)] [] = some R := fnW (by decide) rfl ((eq_s_l1In CC LL a b c).trans h)
noncomputable def nf_slices_EqualFunc_Ty (C : CallT) (L : LoopT) (a : List CVal) (b : List CVal) (c : CVal) : Option Ret :=
 br (!decide ((↑a.length : Int) = (↑b.length : Int))) (some (CVal.bool false, []))
 ((L f_slices_EqualFunc_Ty (0 : Nat) lc_slices_EqualFunc_Ty_0 [] k_slices_EqualFunc_Ty_0
 ((b, c, a, (↑a.length : Int), (0 : Int), PUnit.unit), PUnit.unit)).bind
 fun r => loK r (fun r => some r) fun j p => br (j == (0 : Nat)) (some (CVal.bool true, [])) none)
theorem eq_slices_EqualFunc_Ty (C : CallT) (L : LoopT) (a : List CVal) (b : List CVal) (c : CVal) : evF E N C L f_slices_EqualFunc_Ty [AVal.v (CVal.sl a), AVal.v (CVal.sl b), AVal.v c] [] = nf_slices_EqualFunc_Ty C L a b c := by kernel_rfl
theorem go_slices_EqualFunc_Ty (a : List CVal) (b : List CVal) (c : CVal) (R : Ret) (h : nf_slices_EqualFunc_Ty CC LL a b c = some R) : CC f_slices_EqualFunc_Ty [AVal.v (CVal.sl a), AVal.v (CVal.sl b), AVal.v c] [] = some R := fnW (by decide) rfl ((eq_slices_EqualFunc_Ty CC LL a b c).trans h)
noncomputable def nl_l_heldStringS_0 (C : CallT) (L : LoopT) (x00 : List CVal) (x01 : Int) (x02 : Int) : Option (LO k_l_heldStringS_0.T) :=
 br (decide (x02 < (↑x00.length : Int)))
 (br (decide ((0 : Int) ≤ x02) && true)
 (x00[x02.toNat]?.bind fun y =>
 br (CVal.fits false (1 : Nat) y)
 ((y.cell (0 : Nat)).bind fun c =>
 (C f_l_markText [AVal.v (CVal.int IntKind.i64 x01)] []).bind fun r =>
 c.asStr.bind fun s =>
 r.1.asStr.bind fun s_1 =>
 br (!decide (s = s_1)) (some (LO.ret (CVal.int IntKind.i64 (-1 : Int), [])))
 (L f_l_heldStringS (0 : Nat) lc_l_heldStringS_0 [] k_l_heldStringS_0
 ((x00, IntKind.i64.wrap (x01 + (1 : Int)), IntKind.i64.wrap (x02 + (1 : Int)), PUnit.unit),
 PUnit.unit)))
 none)
 none)
 (some (LO.out (0 : Nat) ((x00, x01, x02, PUnit.unit), PUnit.unit)))
theorem el_l_heldStringS_0 (C : CallT) (L : LoopT) (x00 : List CVal) (x01 : Int) (x02 : Int) : evL E N C L f_l_heldStringS 0 lc_l_heldStringS_0 [] k_l_heldStringS_0 ((x00, x01, x02, ()), ()) = nl_l_heldStringS_0 C L x00 x01 x02 := by kernel_rfl
theorem gl_l_heldStringS_0 (x00 : List CVal) (x01 : Int) (x02 : Int) (R : LO k_l_heldStringS_0.T) (h : nl_l_heldStringS_0 CC LL x00 x01 x02 = some R) : LL f_l_heldStringS 0 lc_l_heldStringS_0 [] k_l_heldStringS_0 ((x00, x01, x02, ()), ()) = some R := loopW ((el_l_heldStringS_0 CC LL x00 x01 x02).trans h)
noncomputable def nl_i_freeIn_0 (C : CallT) (L : LoopT) (x00 : List CVal) (x03 : List CVal) (x04 : Int) (x05 : Int) (x1 : List CVal) (x20 : Int) (x21 : Int) (x22 : List UInt8) (x23 : List UInt8) (x24 : Int) (x25 : Int) (x26 : List CVal) (x27 : List CVal) (x28 : List CVal) : Option (LO k_i_freeIn_0.T) :=
 br (decide (x05 < x04))
 (br (decide ((0 : Int) ≤ x05) && true)
 (x03[x05.toNat]?.bind fun y =>
 br (CVal.fits true (9 : Nat) y)
 ((y.sub (0 : Nat) (9 : Nat)).bind fun y =>
 br (CVal.isAggN (9 : Nat) y)
 ((y.cell (0 : Nat)).bind fun c =>
 (y.cell (1 : Nat)).bind fun c_1 =>
 (y.cell (2 : Nat)).bind fun c_2 =>
 (y.cell (3 : Nat)).bind fun c_3 =>
 (y.cell (4 : Nat)).bind fun c_4 =>
 (y.cell (5 : Nat)).bind fun c_5 =>
 (y.cell (6 : Nat)).bind fun c_6 =>
 (y.cell (7 : Nat)).bind fun c_7 =>
 (y.cell (8 : Nat)).bind fun c_8 =>
 (C f_i_boundIn
 [AVal.v
 (CVal.agg
 [CVal.int IntKind.i64 x20, CVal.int IntKind.i64 x21, CVal.str x22,
 CVal.str x23, CVal.int IntKind.i64 x24, CVal.int IntKind.i64 x25,
 CVal.sl x26, CVal.sl x27, CVal.sl x28]),
 AVal.v (CVal.int IntKind.i64 x05)]
 []).bind
 fun r =>
 br ([CVal.sl x00, r.1].all (CVal.fits false (1 : Nat)))
 ((C f_slices_Concat_string [AVal.v (CVal.sl [CVal.sl x00, r.1])] []).bind fun r =>
 br (!r.1.plain) none
 (br r.1.isFlat
 (r.1.asSl.bind fun xs =>
 (C f_i_freeIn
 [AVal.v (CVal.agg [c, c_1, c_2, c_3, c_4, c_5, c_6, c_7, c_8]),
 AVal.v (CVal.sl xs), AVal.lref (0 : Nat) (0 : Nat)]
 [PB.arr (Md.mk true false (0 : Nat)) false (1 : Nat) x1]).bind
 fun r =>
 r.2[(0 : Nat)]?.bind fun y =>
 L f_i_freeIn (0 : Nat) lc_i_freeIn_0
 [PSh.arr (Md.mk true false (0 : Nat)) false (1 : Nat)] k_i_freeIn_0
 ((x00, PUnit.unit, PUnit.unit, x03, x04,
 IntKind.i64.wrap (x05 + (1 : Int)), PUnit.unit),
 y, (x20, x21, x22, x23, x24, x25, x26, x27, x28, PUnit.unit),
 PUnit.unit))
 none))
 none)
 none)
 none)
 none)
 (some
 (LO.out (0 : Nat)
 ((x00, PUnit.unit, PUnit.unit, x03, x04, x05, PUnit.unit), x1,
 (x20, x21, x22, x23, x24, x25, x26, x27, x28, PUnit.unit), PUnit.unit)))
theorem el_i_freeIn_0 (C : CallT) (L : LoopT) (x00 : List CVal) (x03 : List CVal) (x04 : Int) (x05 : Int) (x1 : List CVal) (x20 : Int) (x21 : Int) (x22 : List UInt8) (x23 : List UInt8) (x24 : Int) (x25 : Int) (x26 : List CVal) (x27 : List CVal) (x28 : List CVal) : evL E N C L f_i_freeIn 0 lc_i_freeIn_0 [PSh.arr (Md.mk true false (0 : Nat)) false (1 : Nat)] k_i_freeIn_0 ((x00, (), (), x03, x04, x05, ()), x1, (x20, x21, x22, x23, x24, x25, x26, x27, x28, ()), ()) = nl_i_freeIn_0 C L x00 x03 x04 x05 x1 x20 x21 x22 x23 x24 x25 x26 x27 x28 := by kernel_rfl
theorem gl_i_freeIn_0 (x00 : List CVal) (x03 : List CVal) (x04 : Int) (x05 : Int) (x1 : List CVal) (x20 : Int) (x21 : Int) (x22 : List UInt8) (x23 : List UInt8) (x24 : Int) (x25 : Int) (x26 : List CVal) (x27 : List CVal) (x28 : List CVal) (R : LO k_i_freeIn_0.T) (h : nl_i_freeIn_0 CC LL x00 x03 x04 x05 x1 x20 x21 x22 x23 x24 x25 x26 x27 x28 = some R) : LL f_i_freeIn 0 lc_i_freeIn_0 [PSh.arr (Md.mk true false (0 : Nat)) false (1 : Nat)] k_i_freeIn_0 ((x00, (), (), x03, x04, x05, ()), x1, (x20, x21, x22, x23, x24, x25, x26, x27, x28, ()), ()) = some R := loopW ((el_i_freeIn_0 CC LL x00 x03 x04 x05 x1 x20 x21 x22 x23 x24 x25 x26 x27 x28).trans h)
noncomputable def nl_s_l2Look_0 (C : CallT) (L : LoopT) (x00 : Int) (x03 : Int) (x10 : Int) (x20 : Int) (x21 : Int) (x22 : List UInt8) (x23 : List UInt8) (x24 : Int) (x25 : Int) (x26 : List CVal) (x27 : List CVal) (x28 : List CVal) : Option (LO k_s_l2Look_0.T) :=
 br (decide (x03 < (↑x28.length : Int)))
 (br (decide ((0 : Int) ≤ x03) && true)
 (x28[x03.toNat]?.bind fun y =>
 br (CVal.fits true (9 : Nat) y)
 ((y.sub (0 : Nat) (9 : Nat)).bind fun y =>
 (C f_s_l2Look
 [AVal.v y, AVal.v (CVal.int IntKind.i64 (IntKind.i64.wrap (x00 - (1 : Int)))),
 AVal.lptr (0 : Nat) (0 : Nat)]
 [PB.box [AVal.v (CVal.int IntKind.i64 x10)]]).bind
 fun r =>
 r.2[(0 : Nat)]?.bind fun y =>
 y[(0 : Nat)]?.bind fun y =>
 r.1.asBool.bind fun b =>
 br (!b) (some (LO.ret (CVal.bool false, [[y]])))
 ((CVal.asInt IntKind.i64 y).bind fun n =>
 L f_s_l2Look (0 : Nat) lc_s_l2Look_0 [PSh.box [none]] k_s_l2Look_0
 ((x00, PUnit.unit, PUnit.unit, IntKind.i64.wrap (x03 + (1 : Int)), PUnit.unit), (n, PUnit.unit),
 (x20, x21, x22, x23, x24, x25, x26, x27, x28, PUnit.unit), PUnit.unit)))
 none)
 none)
 (some
 (LO.out (0 : Nat)
 ((x00, PUnit.unit, PUnit.unit, x03, PUnit.unit), (x10, PUnit.unit),
 (x20, x21, x22, x23, x24, x25, x26, x27, x28, PUnit.unit), PUnit.unit)))
theorem el_s_l2Look_0 (C : CallT) (L : LoopT) (x00 : Int) (x03 : Int) (x10 : Int) (x20 : Int) (x21 : Int) (x22 : List UInt8) (x23 : List UInt8) (x24 : Int) (x25 : Int) (x26 : List CVal) (x27 : List CVal) (x28 : List CVal) : evL E N C L f_s_l2Look 0 lc_s_l2Look_0 [PSh.box [none]] k_s_l2Look_0 ((x00, (), (), x03, ()), (x10, ()), (x20, x21, x22, x23, x24, x25, x26, x27, x28, ()), ()) = nl_s_l2Look_0 C L x00 x03 x10 x20 x21 x22 x23 x24 x25 x26 x27 x28 := by kernel_rfl
theorem gl_s_l2Look_0 (x00 : Int) (x03 : Int) (x10 : Int) (x20 : Int) (x21 : Int) (x22 : List UInt8) (x23 : List UInt8) (x24 : Int) (x25 : Int) (x26 : List CVal) (x27 : List CVal) (x28 : List CVal) (R : LO k_s_l2Look_0.T) (h : nl_s_l2Look_0 CC LL x00 x03 x10 x20 x21 x22 x23 x24 x25 x26 x27 x28 = some R) : LL f_s_l2Look 0 lc_s_l2Look_0 [PSh.box [none]] k_s_l2Look_0 ((x00, (), (), x03, ()), (x10, ()), (x20, x21, x22, x23, x24, x25, x26, x27, x28, ()), ()) = some R := loopW ((el_s_l2Look_0 CC LL x00 x03 x10 x20 x21 x22 x23 x24 x25 x26 x27 x28).trans h)
noncomputable def nl_slices_Index_string_0 (C : CallT) (L : LoopT) (x00 : List CVal) (x01 : List UInt8) (x02 : Int) (x03 : Int) : Option (LO k_slices_Index_string_0.T) :=
 br (decide (x03 < x02))
 (br (decide ((0 : Int) ≤ x03) && true)
 (x00[x03.toNat]?.bind fun y =>
 br (CVal.fits false (1 : Nat) y)
 ((y.cell (0 : Nat)).bind fun c =>
 c.asStr.bind fun s =>
 br (decide (x01 = s)) (some (LO.ret (CVal.int IntKind.i64 x03, [])))
 (L f_slices_Index_string (0 : Nat) lc_slices_Index_string_0 [] k_slices_Index_string_0
 ((x00, x01, x02, IntKind.i64.wrap (x03 + (1 : Int)), PUnit.unit), PUnit.unit)))
 none)
 none)
 (some (LO.out (0 : Nat) ((x00, x01, x02, x03, PUnit.unit), PUnit.unit)))
theorem el_slices_Index_string_0 (C : CallT) (L : LoopT) (x00 : List CVal) (x01 : List UInt8) (x02 : Int) (x03 : Int) : evL E N C L f_slices_Index_string 0 lc_slices_Index_string_0 [] k_slices_Index_string_0 ((x00, x01, x02, x03, ()), ()) = nl_slices_Index_string_0 C L x00 x01 x02 x03 := by kernel_rfl
theorem gl_slices_Index_string_0 (x00 : List CVal) (x01 : List UInt8) (x02 : Int) (x03 : Int) (R : LO k_slices_Index_string_0.T) (h : nl_slices_Index_string_0 CC LL x00 x01 x02 x03 = some R) : LL f_slices_Index_string 0 lc_slices_Index_string_0 [] k_slices_Index_string_0 ((x00, x01, x02, x03, ()), ()) = some R := loopW ((el_slices_Index_string_0 CC LL x00 x01 x02 x03).trans h)
noncomputable def nl_slices_EqualFunc_Ty_0 (C : CallT) (L : LoopT) (x00 : List CVal) (x01 : CVal) (x02 : List CVal) (x03 : Int) (x04 : Int) : Option (LO k_slices_EqualFunc_Ty_0.T) :=
 br (decide (x04 < x03))
 (br (decide ((0 : Int) ≤ x04) && true)
 (x02[x04.toNat]?.bind fun y =>
 br (CVal.fits true (3 : Nat) y)
 ((y.sub (0 : Nat) (3 : Nat)).bind fun y =>
 br (CVal.isAggN (3 : Nat) y)
 ((y.cell (0 : Nat)).bind fun c =>
 (y.cell (1 : Nat)).bind fun c_1 =>
 (y.cell (2 : Nat)).bind fun c_2 =>
 br (decide ((0 : Int) ≤ x04) && true)
 (x00[x04.toNat]?.bind fun y =>
 br (CVal.fits true (3 : Nat) y)
 ((y.sub (0 : Nat) (3 : Nat)).bind fun y =>
 br (CVal.isAggN (3 : Nat) y)
 ((y.cell (0 : Nat)).bind fun c_3 =>
 (y.cell (1 : Nat)).bind fun c_4 =>
 (y.cell (2 : Nat)).bind fun c_5 =>
 (C apId
 [AVal.v x01, AVal.v (CVal.agg [c, c_1, c_2]), AVal.v (CVal.agg [c_3, c_4, c_5])]
 []).bind
 fun r =>
 r.1.asBool.bind fun b =>
 br (!b) (some (LO.ret (CVal.bool false, [])))
 (L f_slices_EqualFunc_Ty (0 : Nat) lc_slices_EqualFunc_Ty_0 []
 k_slices_EqualFunc_Ty_0
 ((x00, x01, x02, x03, IntKind.i64.wrap (x04 + (1 : Int)), PUnit.unit),
 PUnit.unit)))
 none)
 none)
 none)
 none)
 none)
 none)
 (some (LO.out (0 : Nat) ((x00, x01, x02, x03, x04, PUnit.unit), PUnit.unit)))
theorem el_slices_EqualFunc_Ty_0 (C : CallT) (L : LoopT) (x00 : List CVal) (x01 : CVal) (x02 : List CVal) (x03 : Int) (x04 : Int) : evL E N C L f_slices_EqualFunc_Ty 0 lc_slices_EqualFunc_Ty_0 [] k_slices_EqualFunc_Ty_0 ((x00, x01, x02, x03, x04, ()), ()) = nl_slices_EqualFunc_Ty_0 C L x00 x01 x02 x03 x04 := by kernel_rfl
theorem gl_slices_EqualFunc_Ty_0 (x00 : List CVal) (x01 : CVal) (x02 : List CVal) (x03 : Int) (x04 : Int) (R : LO k_slices_EqualFunc_Ty_0.T) (h : nl_slices_EqualFunc_Ty_0 CC LL x00 x01 x02 x03 x04 = some R) : LL f_slices_EqualFunc_Ty 0 lc_slices_EqualFunc_Ty_0 [] k_slices_EqualFunc_Ty_0 ((x00, x01, x02, x03, x04, ()), ()) = some R := loopW ((el_slices_EqualFunc_Ty_0 CC LL x00 x01 x02 x03 x04).trans h)
end Go.Proofs.Ytbimglfmmmlicaa.Abs
