/- What the functions come to in the abstract machine. -/
import Derived.Test.YtbimglfmmmlicaaH1Ann
import Derived.KernelRfl
set_option linter.unusedVariables false
set_option maxRecDepth 100000
namespace Go.Proofs.Ytbimglfmmmlicaa.Abs
open Go Go.Proofs
noncomputable def nf_l_szTerm (C : CallT) (L : LoopT) (a0 : Int) (a1 : Int) (a2 : List UInt8) (a3 : List UInt8) (a40 : Int) (a41 : Int) (a42 : List CVal) (a5 : List CVal) (a6 : List CVal) (b : Int) : Option Ret :=
 br (decide (IntKind.i64.wrap (b - (↑a2.length : Int)) < (0 : Int))) (some (CVal.int IntKind.i64 (-1 : Int), []))
 (br (decide (IntKind.i64.wrap (IntKind.i64.wrap (b - (↑a2.length : Int)) - (↑a3.length : Int)) < (0 : Int)))
 (some (CVal.int IntKind.i64 (-1 : Int), []))
 ((C f_l_szTy
 [AVal.v (CVal.agg [CVal.int IntKind.i64 a40, CVal.int IntKind.i64 a41, CVal.sl a42]),
 AVal.v
 (CVal.int IntKind.i64
 (IntKind.i64.wrap (IntKind.i64.wrap (b - (↑a2.length : Int)) - (↑a3.length : Int))))]
 []).bind
 fun r =>
 (CVal.asInt IntKind.i64 r.1).bind fun n =>
 br (decide (n < (0 : Int))) (some (CVal.int IntKind.i64 (-1 : Int), []))
 ((C f_l_szTyS [AVal.v (CVal.sl a5), AVal.v r.1] []).bind fun r =>
 (CVal.asInt IntKind.i64 r.1).bind fun n =>
 br (decide (n < (0 : Int))) (some (CVal.int IntKind.i64 (-1 : Int), []))
 ((C f_l_szTermS [AVal.v (CVal.sl a6), AVal.v r.1] []).bind fun r =>
 (CVal.asInt IntKind.i64 r.1).bind fun n =>
 br (decide (n < (0 : Int))) (some (CVal.int IntKind.i64 (-1 : Int), [])) (some (r.1, []))))))
theorem eq_l_szTerm (C : CallT) (L : LoopT) (a0 : Int) (a1 : Int) (a2 : List UInt8) (a3 : List UInt8) (a40 : Int) (a41 : Int) (a42 : List CVal) (a5 : List CVal) (a6 : List CVal) (b : Int) : evF E N C L f_l_szTerm [AVal.v
 (CVal.agg
 [CVal.int IntKind.i64 a0, CVal.int IntKind.i64 a1, CVal.str a2, CVal.str a3, CVal.int IntKind.i64 a40,
 CVal.int IntKind.i64 a41, CVal.sl a42, CVal.sl a5, CVal.sl a6]),
 AVal.v (CVal.int IntKind.i64 b)] [] = nf_l_szTerm C L a0 a1 a2 a3 a40 a41 a42 a5 a6 b := by kernel_rfl
theorem go_l_szTerm (a0 : Int) (a1 : Int) (a2 : List UInt8) (a3 : List UInt8) (a40 : Int) (a41 : Int) (a42 : List CVal) (a5 : List CVal) (a6 : List CVal) (b : Int) (R : Ret) (h : nf_l_szTerm CC LL a0 a1 a2 a3 a40 a41 a42 a5 a6 b = some R) : CC f_l_szTerm [AVal.v
 (CVal.agg
 [CVal.int IntKind.i64 a0, CVal.int IntKind.i64 a1, CVal.str a2, CVal.str a3, CVal.int IntKind.i64 a40,
 CVal.int IntKind.i64 a41, CVal.sl a42, CVal.sl a5, CVal.sl a6]),
 AVal.v (CVal.int IntKind.i64 b)] [] = some R := fnW (by decide) rfl ((eq_l_szTerm CC LL a0 a1 a2 a3 a40 a41 a42 a5 a6 b).trans h)
noncomputable def nf_l_markTerm (C : CallT) (L : LoopT) (a0 : Int) (a1 : Int) (a2 : List UInt8) (a3 : List UInt8) (a40 : Int) (a41 : Int) (a42 : List CVal) (a5 : List CVal) (a6 : List CVal) (b : Int) : Option Ret :=
 (C f_l_markTy
 [AVal.agg [AVal.v (CVal.int IntKind.i64 a40), AVal.v (CVal.int IntKind.i64 a41), AVal.lref (0 : Nat) (0 : Nat)],
 AVal.v (CVal.int IntKind.i64 b)]
 [PB.arr (Md.mk true true (0 : Nat)) false (3 : Nat) a42]).bind
 fun r =>
 r.2[(0 : Nat)]?.bind fun y =>
 (C f_l_markTyS [AVal.lref (0 : Nat) (0 : Nat), AVal.v r.1]
 [PB.arr (Md.mk true true (0 : Nat)) false (3 : Nat) a5]).bind
 fun r =>
 r.2[(0 : Nat)]?.bind fun y_1 =>
 (C f_l_markTermS [AVal.lref (0 : Nat) (0 : Nat), AVal.v r.1]
 [PB.arr (Md.mk true true (0 : Nat)) false (9 : Nat) a6]).bind
 fun r => r.2[(0 : Nat)]?.bind fun y_2 => some (r.1, [y, y_1, y_2])
theorem eq_l_markTerm (C : CallT) (L : LoopT) (a0 : Int) (a1 : Int) (a2 : List UInt8) (a3 : List UInt8) (a40 : Int) (a41 : Int) (a42 : List CVal) (a5 : List CVal) (a6 : List CVal) (b : Int) : evF E N C L f_l_markTerm [AVal.agg
 [AVal.v (CVal.int IntKind.i64 a0), AVal.v (CVal.int IntKind.i64 a1), AVal.v (CVal.str a2), AVal.v (CVal.str a3),
 AVal.v (CVal.int IntKind.i64 a40), AVal.v (CVal.int IntKind.i64 a41), AVal.lref (0 : Nat) (0 : Nat),
 AVal.lref (1 : Nat) (0 : Nat), AVal.lref (2 : Nat) (0 : Nat)],
 AVal.v (CVal.int IntKind.i64 b)] [PB.arr (Md.mk true true (0 : Nat)) false (3 : Nat) a42, PB.arr (Md.mk true true (0 : Nat)) false (3 : Nat) a5,
 PB.arr (Md.mk true true (0 : Nat)) false (9 : Nat) a6] = nf_l_markTerm C L a0 a1 a2 a3 a40 a41 a42 a5 a6 b := by kernel_rfl
theorem go_l_markTerm (a0 : Int) (a1 : Int) (a2 : List UInt8) (a3 : List UInt8) (a40 : Int) (a41 : Int) (a42 : List CVal) (a5 : List CVal) (a6 : List CVal) (b : Int) (R : Ret) (h : nf_l_markTerm CC LL a0 a1 a2 a3 a40 a41 a42 a5 a6 b = some R) : CC f_l_markTerm [AVal.agg
 [AVal.v (CVal.int IntKind.i64 a0), AVal.v (CVal.int IntKind.i64 a1), AVal.v (CVal.str a2), AVal.v (CVal.str a3),
 AVal.v (CVal.int IntKind.i64 a40), AVal.v (CVal.int IntKind.i64 a41), AVal.lref (0 : Nat) (0 : Nat),
 AVal.lref (1 : Nat) (0 : Nat), AVal.lref (2 : Nat) (0 : Nat)],
 AVal.v (CVal.int IntKind.i64 b)] [PB.arr (Md.mk true true (0 : Nat)) false (3 : Nat) a42, PB.arr (Md.mk true true (0 : Nat)) false (3 : Nat) a5,
 PB.arr (Md.mk true true (0 : Nat)) false (9 : Nat) a6] = some R := fnW (by decide) rfl ((eq_l_markTerm CC LL a0 a1 a2 a3 a40 a41 a42 a5 a6 b).trans h)
noncomputable def nf_l_toTy (C : CallT) (L : LoopT) (a0 : Int) (a1 : Int) (a2 : List CVal) : Option Ret :=
 (C f_l_toTyS [AVal.v (CVal.sl a2)] []).bind fun r =>
 br r.1.isFlat
 (r.1.asSl.bind fun xs => some (CVal.agg [CVal.int IntKind.i64 a0, CVal.int IntKind.i64 a1, CVal.sl xs], [])) none
theorem eq_l_toTy (C : CallT) (L : LoopT) (a0 : Int) (a1 : Int) (a2 : List CVal) : evF E N C L f_l_toTy [AVal.v (CVal.agg [CVal.int IntKind.i64 a0, CVal.int IntKind.i64 a1, CVal.sl a2])] [] = nf_l_toTy C L a0 a1 a2 := by kernel_rfl
theorem go_l_toTy (a0 : Int) (a1 : Int) (a2 : List CVal) (R : Ret) (h : nf_l_toTy CC LL a0 a1 a2 = some R) : CC f_l_toTy [AVal.v (CVal.agg [CVal.int IntKind.i64 a0, CVal.int IntKind.i64 a1, CVal.sl a2])] [] = some R := fnW (by decide) rfl ((eq_l_toTy CC LL a0 a1 a2).trans h)
noncomputable def nf_i_freeIn (C : CallT) (L : LoopT) (a0 : Int) (a1 : Int) (a2 : List UInt8) (a3 : List UInt8) (a40 : Int) (a41 : Int) (a42 : List CVal) (a5 : List CVal) (a6 : List CVal) (b : List CVal) (c : List CVal) : Option Ret :=
 (br (decide (a0 = (3 : Int)))
 ((C f_slices_Contains_string [AVal.v (CVal.sl b), AVal.v (CVal.str a2)] []).bind fun r =>
 r.1.asBool.bind fun b =>
 br (!b)
 ((C f_slices_Contains_string [AVal.v (CVal.sl c), AVal.v (CVal.str a2)] []).bind fun r =>
 br (!scalar r.1) none (r.1.asBool.bind fun b => some (!b, PUnit.unit)))
 (some (false, PUnit.unit)))
 (some (false, PUnit.unit))).bind
 fun y =>
 br y.1
 (br (decide (c.length + (1 : Nat) ≤ (4294967296 : Nat)) && true && true) (some (CVal.nilp, [c ++ [CVal.str a2]]))
 none)
 ((L f_i_freeIn (0 : Nat) lc_i_freeIn_0 [PSh.arr (Md.mk true false (0 : Nat)) false (1 : Nat)] k_i_freeIn_0
 ((b, PUnit.unit, PUnit.unit, a6, (↑a6.length : Int), (0 : Int), PUnit.unit), c,
 (a0, a1, a2, a3, a40, a41, a42, a5, a6, PUnit.unit), PUnit.unit)).bind
 fun r => loK r (fun r => some r) fun j p => br (j == (0 : Nat)) (some (CVal.nilp, [p.snd.1])) none)
theorem eq_i_freeIn (C : CallT) (L : LoopT) (a0 : Int) (a1 : Int) (a2 : List UInt8) (a3 : List UInt8) (a40 : Int) (a41 : Int) (a42 : List CVal) (a5 : List CVal) (a6 : List CVal) (b : List CVal) (c : List CVal) : evF E N C L f_i_freeIn [AVal.v
 (CVal.agg
 [CVal.int IntKind.i64 a0, CVal.int IntKind.i64 a1, CVal.str a2, CVal.str a3, CVal.int IntKind.i64 a40,
 CVal.int IntKind.i64 a41, CVal.sl a42, CVal.sl a5, CVal.sl a6]),
 AVal.v (CVal.sl b), AVal.lref (0 : Nat) (0 : Nat)] [PB.arr (Md.mk true false (0 : Nat)) false (1 : Nat) c] = nf_i_freeIn C L a0 a1 a2 a3 a40 a41 a42 a5 a6 b c := by kernel_rfl
theorem go_i_freeIn (a0 : Int) (a1 : Int) (a2 : List UInt8) (a3 : List UInt8) (a40 : Int) (a41 : Int) (a42 : List CVal) (a5 : List CVal) (a6 : List CVal) (b : List CVal) (c : List CVal) (R : Ret) (h : nf_i_freeIn CC LL a0 a1 a2 a3 a40 a41 a42 a5 a6 b c = some R) : CC f_i_freeIn [AVal.v
 (CVal.agg
 [CVal.int IntKind.i64 a0, CVal.int IntKind.i64 a1, CVal.str a2, CVal.str a3, CVal.int IntKind.i64 a40,
 CVal.int IntKind.i64 a41, CVal.sl a42, CVal.sl a5, CVal.sl a6]),
 AVal.v (CVal.sl b), AVal.lref (0 : Nat) (0 : Nat)] [PB.arr (Md.mk true false (0 : Nat)) false (1 : Nat) c] = some R := fnW (by decide) rfl ((eq_i_freeIn CC LL a0 a1 a2 a3 a40 a41 a42 a5 a6 b c).trans h)
noncomputable def nf_l_markTermS (C : CallT) (L : LoopT) (a : List CVal) (b : Int) : Option Ret :=
 (L f_l_markTermS (0 : Nat) lc_l_markTermS_0 [PSh.arr (Md.mk true true (0 : Nat)) false (9 : Nat)] k_l_markTermS_0
 ((PUnit.unit, b, (0 : Int), PUnit.unit), a, PUnit.unit)).bind
 fun r =>
 loK r (fun r => some r) fun j p => br (j == (0 : Nat)) (some (CVal.int IntKind.i64 p.fst.snd.1, [p.snd.1])) none
theorem eq_l_markTermS (C : CallT) (L : LoopT) (a : List CVal) (b : Int) : evF E N C L f_l_markTermS [AVal.lref (0 : Nat) (0 : Nat), AVal.v (CVal.int IntKind.i64 b)] [PB.arr (Md.mk true true (0 : Nat)) false (9 : Nat) a] = nf_l_markTermS C L a b := by kernel_rfl
theorem go_l_markTermS (a : List CVal) (b : Int) (R : Ret) (h : nf_l_markTermS CC LL a b = some R) : CC f_l_markTermS [AVal.lref (0 : Nat) (0 : Nat), AVal.v (CVal.int IntKind.i64 b)] [PB.arr (Md.mk true true (0 : Nat)) false (9 : Nat) a] = some R := fnW (by decide) rfl ((eq_l_markTermS CC LL a b).trans h)
noncomputable def nf_slices_Contains_string (C : CallT) (L : LoopT) (a : List CVal) (b : List UInt8) : Option Ret :=
 (C f_slices_Index_string [AVal.v (CVal.sl a), AVal.v (CVal.str b)] []).bind fun r =>
 (CVal.asInt IntKind.i64 r.1).bind fun n => some (CVal.bool (decide ((0 : Int) ≤ n)), [])
theorem eq_slices_Contains_string (C : CallT) (L : LoopT) (a : List CVal) (b : List UInt8) : evF E N C L f_slices_Contains_string [AVal.v (CVal.sl a), AVal.v (CVal.str b)] [] = nf_slices_Contains_string C L a b := by kernel_rfl
theorem go_slices_Contains_string (a : List CVal) (b : List UInt8) (R : Ret) (h : nf_slices_Contains_string CC LL a b = some R) : CC f_slices_Contains_string [AVal.v (CVal.sl a), AVal.v (CVal.str b)] [] = some R := fnW (by decide) rfl ((eq_slices_Contains_string CC LL a b).trans h)
noncomputable def nf_s_l2Of (C : CallT) (L : LoopT) (a : Int) : Option Ret :=
 br (decide (a = (1 : Int)))
 (some
 (CVal.agg
 [CVal.int IntKind.i64 (0 : Int), CVal.int IntKind.i64 (1 : Int), CVal.bool false, CVal.bool false,
 CVal.bool false],
 []))
 (br (decide (a = (2 : Int)))
 (some
 (CVal.agg
 [CVal.int IntKind.i64 (0 : Int), CVal.int IntKind.i64 (1 : Int), CVal.bool false, CVal.bool false,
 CVal.bool false],
 []))
 (br (decide (a = (3 : Int)))
 (some
 (CVal.agg
 [CVal.int IntKind.i64 (0 : Int), CVal.int IntKind.i64 (0 : Int), CVal.bool true, CVal.bool false,
 CVal.bool false],
 []))
 (br (decide (a = (4 : Int)))
 (some
 (CVal.agg
 [CVal.int IntKind.i64 (1 : Int), CVal.int IntKind.i64 (0 : Int), CVal.bool true, CVal.bool false,
 CVal.bool true],
 []))
 (br (decide (a = (5 : Int)))
 (some
 (CVal.agg
 [CVal.int IntKind.i64 (2 : Int), CVal.int IntKind.i64 (0 : Int), CVal.bool false, CVal.bool false,
 CVal.bool false],
 []))
 (br (decide (a = (9 : Int)))
 (some
 (CVal.agg
 [CVal.int IntKind.i64 (2 : Int), CVal.int IntKind.i64 (0 : Int), CVal.bool false, CVal.bool false,
 CVal.bool false],
 []))
 (br (decide (a = (13 : Int)))
 (some
 (CVal.agg
 [CVal.int IntKind.i64 (2 : Int), CVal.int IntKind.i64 (0 : Int), CVal.bool false, CVal.bool false,
 CVal.bool false],
 []))
 (br (decide (a = (6 : Int)))
 (some
 (CVal.agg
 [CVal.int IntKind.i64 (2 : Int), CVal.int IntKind.i64 (1 : Int), CVal.bool true, CVal.bool false,
 CVal.bool false],
 []))
 (br (decide (a = (7 : Int)))
 (some
 (CVal.agg
 [CVal.int IntKind.i64 (2 : Int), CVal.int IntKind.i64 (1 : Int), CVal.bool true,
 CVal.bool false, CVal.bool true],
 []))
 (br (decide (a = (8 : Int)))
 (some
 (CVal.agg
 [CVal.int IntKind.i64 (3 : Int), CVal.int IntKind.i64 (0 : Int), CVal.bool false,
 CVal.bool false, CVal.bool false],
 []))
 (br (decide (a = (10 : Int)))
 (some
 (CVal.agg
 [CVal.int IntKind.i64 (1 : Int), CVal.int IntKind.i64 (0 : Int), CVal.bool false,
 CVal.bool false, CVal.bool false],
 []))
 (br (decide (a = (11 : Int)))
 (some
 (CVal.agg
 [CVal.int IntKind.i64 (1 : Int), CVal.int IntKind.i64 (0 : Int), CVal.bool false,
 CVal.bool false, CVal.bool false],
 []))
 (br (decide (a = (12 : Int)))
 (some
 (CVal.agg
 [CVal.int IntKind.i64 (0 : Int), CVal.int IntKind.i64 (0 : Int), CVal.bool false,
 CVal.bool false, CVal.bool true],
 []))
 (br (decide (a = (14 : Int)))
 (some
 (CVal.agg
 [CVal.int IntKind.i64 (3 : Int), CVal.int IntKind.i64 (0 : Int), CVal.bool true,
 CVal.bool true, CVal.bool false],
 []))
 (br (decide (a = (15 : Int)))
 (some
 (CVal.agg
 [CVal.int IntKind.i64 (2 : Int), CVal.int IntKind.i64 (1 : Int), CVal.bool false,
 CVal.bool false, CVal.bool false],
 []))
 (br (decide (a = (16 : Int)))
 (some
 (CVal.agg
 [CVal.int IntKind.i64 (1 : Int), CVal.int IntKind.i64 (0 : Int), CVal.bool false,
 CVal.bool false, CVal.bool true],
 []))
 (br (decide (a = (17 : Int)))
 (some
 (CVal.agg
 [CVal.int IntKind.i64 (2 : Int), CVal.int IntKind.i64 (0 : Int), CVal.bool true,
 CVal.bool false, CVal.bool false],
 []))
 (some
 (CVal.agg
 [CVal.int IntKind.i64 (-1 : Int), CVal.int IntKind.i64 (0 : Int),
 CVal.bool false, CVal.bool false, CVal.bool false],
 []))))))))))))))))))
theorem eq_s_l2Of (C : CallT) (L : LoopT) (a : Int) : evF E N C L f_s_l2Of [AVal.v (CVal.int IntKind.i64 a)] [] = nf_s_l2Of C L a := by kernel_rfl
theorem go_s_l2Of (a : Int) (R : Ret) (h : nf_s_l2Of CC LL a = some R) : CC f_s_l2Of [AVal.v (CVal.int IntKind.i64 a)] [] = some R := fnW (by decide) rfl ((eq_s_l2Of CC LL a).trans h)
noncomputable def nf_i_numberOk (C : CallT) (L : LoopT) (a : Int) (b : Int) : Option Ret :=
 br (decide (a = (1 : Int)))
 ((C f_i_in
 [AVal.v (CVal.int IntKind.i64 b), AVal.v (CVal.int IntKind.i64 (-1000000 : Int)),
 AVal.v (CVal.int IntKind.i64 (1000000 : Int))]
 []).bind
 fun r => some (r.1, []))
 (br (decide (a = (2 : Int)))
 ((C f_i_in
 [AVal.v (CVal.int IntKind.i64 b), AVal.v (CVal.int IntKind.i64 (0 : Int)),
 AVal.v (CVal.int IntKind.i64 (1 : Int))]
 []).bind
 fun r => some (r.1, []))
 (br (decide (a = (6 : Int)))
 ((C f_i_in
 [AVal.v (CVal.int IntKind.i64 b), AVal.v (CVal.int IntKind.i64 (0 : Int)),
 AVal.v (CVal.int IntKind.i64 (2 : Int))]
 []).bind
 fun r => some (r.1, []))
 (br (decide (a = (7 : Int)))
 ((C f_i_in
 [AVal.v (CVal.int IntKind.i64 b), AVal.v (CVal.int IntKind.i64 (0 : Int)),
 AVal.v (CVal.int IntKind.i64 (2 : Int))]
 []).bind
 fun r => some (r.1, []))
 (br (decide (a = (15 : Int)))
 ((C f_i_in
 [AVal.v (CVal.int IntKind.i64 b), AVal.v (CVal.int IntKind.i64 (1 : Int)),
 AVal.v (CVal.int IntKind.i64 (5 : Int))]
 []).bind
 fun r => some (r.1, []))
 (some (CVal.bool (decide (b = (0 : Int))), []))))))
theorem eq_i_numberOk (C : CallT) (L : LoopT) (a : Int) (b : Int) : evF E N C L f_i_numberOk [AVal.v (CVal.int IntKind.i64 a), AVal.v (CVal.int IntKind.i64 b)] [] = nf_i_numberOk C L a b := by kernel_rfl
theorem go_i_numberOk (a : Int) (b : Int) (R : Ret) (h : nf_i_numberOk CC LL a b = some R) : CC f_i_numberOk [AVal.v (CVal.int IntKind.i64 a), AVal.v (CVal.int IntKind.i64 b)] [] = some R := fnW (by decide) rfl ((eq_i_numberOk CC LL a b).trans h)
noncomputable def nf_i_headOk_1 (C : CallT) (L : LoopT) (a0 : Int) (a1 : Int) (a2 : List CVal) : Option Ret :=
 (C f_i_TyOk [AVal.v (CVal.agg [CVal.int IntKind.i64 a0, CVal.int IntKind.i64 a1, CVal.sl a2])] []).bind fun r =>
 r.1.asBool.bind fun b => some (CVal.bool !b, [])
theorem eq_i_headOk_1 (C : CallT) (L : LoopT) (a0 : Int) (a1 : Int) (a2 : List CVal) : evF E N C L f_i_headOk_1 [AVal.v (CVal.agg [CVal.int IntKind.i64 a0, CVal.int IntKind.i64 a1, CVal.sl a2])] [] = nf_i_headOk_1 C L a0 a1 a2 := by kernel_rfl
theorem go_i_headOk_1 (a0 : Int) (a1 : Int) (a2 : List CVal) (R : Ret) (h : nf_i_headOk_1 CC LL a0 a1 a2 = some R) : CC f_i_headOk_1 [AVal.v (CVal.agg [CVal.int IntKind.i64 a0, CVal.int IntKind.i64 a1, CVal.sl a2])] [] = some R := fnW (by decide) rfl ((eq_i_headOk_1 CC LL a0 a1 a2).trans h)
noncomputable def nf_i_measure (C : CallT) (L : LoopT) (a0 : Int) (a1 : Int) (a2 : List CVal) : Option Ret :=
 ((C f_i_tyParts [AVal.v (CVal.int IntKind.i64 a0)] []).bind fun r =>
 (CVal.asInt IntKind.i64 r.1).bind fun n =>
 br (!decide ((↑a2.length : Int) = n)) (some (true, PUnit.unit))
 (br (!decide (a1 = (0 : Int)))
 (br (!decide (a0 = (3 : Int))) (some (true, PUnit.unit)) (some (!decide (a1 = (1 : Int)), PUnit.unit)))
 (some (false, PUnit.unit)))).bind
 fun y =>
 br y.1 (some (CVal.tup [CVal.int IntKind.i64 (0 : Int), CVal.int IntKind.i64 (0 : Int), CVal.bool false], []))
 ((L f_i_measure (0 : Nat) lc_i_measure_0 [] k_i_measure_0
 (((0 : Int), (1 : Int), a2, (↑a2.length : Int), (0 : Int), PUnit.unit), PUnit.unit)).bind
 fun r =>
 loK r (fun r => some r) fun j p =>
 br (j == (0 : Nat))
 (some
 (CVal.tup
 [CVal.int IntKind.i64 (IntKind.i64.wrap (p.fst.1 + (1 : Int))), CVal.int IntKind.i64 p.fst.snd.1,
 CVal.bool true],
 []))
 none)
theorem eq_i_measure (C : CallT) (L : LoopT) (a0 : Int) (a1 : Int) (a2 : List CVal) : evF E N C L f_i_measure [AVal.v (CVal.agg [CVal.int IntKind.i64 a0, CVal.int IntKind.i64 a1, CVal.sl a2])] [] = nf_i_measure C L a0 a1 a2 := by kernel_rfl
theorem go_i_measure (a0 : Int) (a1 : Int) (a2 : List CVal) (R : Ret) (h : nf_i_measure CC LL a0 a1 a2 = some R) : CC f_i_measure [AVal.v (CVal.agg [CVal.int IntKind.i64 a0, CVal.int IntKind.i64 a1, CVal.sl a2])] [] = some R := fnW (by decide) rfl ((eq_i_measure CC LL a0 a1 a2).trans h)
noncomputable def nl_l_markStringS_0 (C : CallT) (L : LoopT) (x01 : Int) (x02 : Int) (x1 : List CVal) : Option (LO k_l_markStringS_0.T) :=
 br (decide (x02 < (↑x1.length : Int)))
 ((C f_l_markText [AVal.v (CVal.int IntKind.i64 x01)] []).bind fun r =>
 br (decide ((0 : Int) ≤ x02) && true)
 (br (decide (x02.toNat < x1.length) && true)
 (br (r.1.isFlat && true)
 (r.1.asStr.bind fun s =>
 x1[x02.toNat]?.bind fun y =>
 br (CVal.fits false (1 : Nat) y)
 (L f_l_markStringS (0 : Nat) lc_l_markStringS_0 [PSh.arr (Md.mk true true (0 : Nat)) false (1 : Nat)]
 k_l_markStringS_0
 ((PUnit.unit, IntKind.i64.wrap (x01 + (1 : Int)), IntKind.i64.wrap (x02 + (1 : Int)), PUnit.unit),
 x1.set x02.toNat (CVal.str s), PUnit.unit))
 (br (y.isAgg && decide ((1 : Nat) ≤ y.cells.length))
 (L f_l_markStringS (0 : Nat) lc_l_markStringS_0 [PSh.arr (Md.mk true true (0 : Nat)) false (1 : Nat)]
 k_l_markStringS_0
 ((PUnit.unit, IntKind.i64.wrap (x01 + (1 : Int)), IntKind.i64.wrap (x02 + (1 : Int)), PUnit.unit),
 x1.set x02.toNat (CVal.agg (CVal.str s :: List.drop (1 : Nat) y.cells)), PUnit.unit))
 none))
 none)
 none)
 none)
 (some (LO.out (0 : Nat) ((PUnit.unit, x01, x02, PUnit.unit), x1, PUnit.unit)))
theorem el_l_markStringS_0 (C : CallT) (L : LoopT) (x01 : Int) (x02 : Int) (x1 : List CVal) : evL E N C L f_l_markStringS 0 lc_l_markStringS_0 [PSh.arr (Md.mk true true (0 : Nat)) false (1 : Nat)] k_l_markStringS_0 (((), x01, x02, ()), x1, ()) = nl_l_markStringS_0 C L x01 x02 x1 := by kernel_rfl
theorem gl_l_markStringS_0 (x01 : Int) (x02 : Int) (x1 : List CVal) (R : LO k_l_markStringS_0.T) (h : nl_l_markStringS_0 CC LL x01 x02 x1 = some R) : LL f_l_markStringS 0 lc_l_markStringS_0 [PSh.arr (Md.mk true true (0 : Nat)) false (1 : Nat)] k_l_markStringS_0 (((), x01, x02, ()), x1, ()) = some R := loopW ((el_l_markStringS_0 CC LL x01 x02 x1).trans h)
noncomputable def nl_s_l2Free_0 (C : CallT) (L : LoopT) (x00 : List CVal) (x03 : Int) (x1 : List CVal) (x20 : Int) (x21 : Int) (x22 : List UInt8) (x23 : List UInt8) (x24 : Int) (x25 : Int) (x26 : List CVal) (x27 : List CVal) (x28 : List CVal) : Option (LO k_s_l2Free_0.T) :=
 br (decide (x03 < (↑x28.length : Int)))
 (br (decide ((0 : Int) ≤ x03) && true)
 (x28[x03.toNat]?.bind fun y =>
 br (CVal.fits true (9 : Nat) y)
 ((y.sub (0 : Nat) (9 : Nat)).bind fun y =>
 br (x00.all (CVal.fitsF false [CK.str]))
 (br (decide (x00.length ≤ (4294967296 : Nat)))
 ((C f_s_l2Binds
 [AVal.v
 (CVal.agg
 [CVal.int IntKind.i64 x20, CVal.int IntKind.i64 x21, CVal.str x22, CVal.str x23,
 CVal.int IntKind.i64 x24, CVal.int IntKind.i64 x25, CVal.sl x26, CVal.sl x27, CVal.sl x28]),
 AVal.v (CVal.int IntKind.i64 x03)]
 []).bind
 fun r =>
 r.1.asSl.bind fun xs =>
 br (xs.all (CVal.fitsF false [CK.str]))
 (br (decide (x00.length + xs.length ≤ (4294967296 : Nat)) && true && true)
 ((C f_s_l2Free [AVal.v y, AVal.v (CVal.sl (x00 ++ xs)), AVal.lref (0 : Nat) (0 : Nat)]
 [PB.arr (Md.mk true false (0 : Nat)) false (1 : Nat) x1]).bind
 fun r =>
 r.2[(0 : Nat)]?.bind fun y =>
 L f_s_l2Free (0 : Nat) lc_s_l2Free_0 [PSh.arr (Md.mk true false (0 : Nat)) false (1 : Nat)]
 k_s_l2Free_0
 ((x00, PUnit.unit, PUnit.unit, IntKind.i64.wrap (x03 + (1 : Int)), PUnit.unit), y,
 (x20, x21, x22, x23, x24, x25, x26, x27, x28, PUnit.unit), PUnit.unit))
 none)
 none)
 none)
 none)
 none)
 none)
 (some
 (LO.out (0 : Nat)
 ((x00, PUnit.unit, PUnit.unit, x03, PUnit.unit), x1, (x20, x21, x22, x23, x24, x25, x26, x27, x28, PUnit.unit),
 PUnit.unit)))
theorem el_s_l2Free_0 (C : CallT) (L : LoopT) (x00 : List CVal) (x03 : Int) (x1 : List CVal) (x20 : Int) (x21 : Int) (x22 : List UInt8) (x23 : List UInt8) (x24 : Int) (x25 : Int) (x26 : List CVal) (x27 : List CVal) (x28 : List CVal) : evL E N C L f_s_l2Free 0 lc_s_l2Free_0 [PSh.arr (Md.mk true false (0 : Nat)) false (1 : Nat)] k_s_l2Free_0 ((x00, (), (), x03, ()), x1, (x20, x21, x22, x23, x24, x25, x26, x27, x28, ()), ()) = nl_s_l2Free_0 C L x00 x03 x1 x20 x21 x22 x23 x24 x25 x26 x27 x28 := by kernel_rfl
theorem gl_s_l2Free_0 (x00 : List CVal) (x03 : Int) (x1 : List CVal) (x20 : Int) (x21 : Int) (x22 : List UInt8) (x23 : List UInt8) (x24 : Int) (x25 : Int) (x26 : List CVal) (x27 : List CVal) (x28 : List CVal) (R : LO k_s_l2Free_0.T) (h : nl_s_l2Free_0 CC LL x00 x03 x1 x20 x21 x22 x23 x24 x25 x26 x27 x28 = some R) : LL f_s_l2Free 0 lc_s_l2Free_0 [PSh.arr (Md.mk true false (0 : Nat)) false (1 : Nat)] k_s_l2Free_0 ((x00, (), (), x03, ()), x1, (x20, x21, x22, x23, x24, x25, x26, x27, x28, ()), ()) = some R := loopW ((el_s_l2Free_0 CC LL x00 x03 x1 x20 x21 x22 x23 x24 x25 x26 x27 x28).trans h)
noncomputable def nl_l_markText_0 (C : CallT) (L : LoopT) (x00 : Int) (x01 : List UInt8) : Option (LO k_l_markText_0.T) :=
 br (decide ((0 : Int) < x00))
 (br (decide ((1 : Nat) + x01.length ≤ (1152921504606846976 : Nat)))
 (L f_l_markText (0 : Nat) lc_l_markText_0 [] k_l_markText_0
 ((IntKind.i64.wrap (x00.tdiv (10 : Int)),
 [UInt8.ofNat (IntKind.u8.wrap (IntKind.i64.wrap ((48 : Int) + x00.tmod (10 : Int)))).toNat] ++ x01,
 PUnit.unit),
 PUnit.unit))
 none)
 (some (LO.out (0 : Nat) ((x00, x01, PUnit.unit), PUnit.unit)))
theorem el_l_markText_0 (C : CallT) (L : LoopT) (x00 : Int) (x01 : List UInt8) : evL E N C L f_l_markText 0 lc_l_markText_0 [] k_l_markText_0 ((x00, x01, ()), ()) = nl_l_markText_0 C L x00 x01 := by kernel_rfl
theorem gl_l_markText_0 (x00 : Int) (x01 : List UInt8) (R : LO k_l_markText_0.T) (h : nl_l_markText_0 CC LL x00 x01 = some R) : LL f_l_markText 0 lc_l_markText_0 [] k_l_markText_0 ((x00, x01, ()), ()) = some R := loopW ((el_l_markText_0 CC LL x00 x01).trans h)
noncomputable def nl_s_l2One_0 (C : CallT) (L : LoopT) (x01 : Int) (x10 : Int) (x11 : Int) (x12 : List UInt8) (x13 : List UInt8) (x14 : Int) (x15 : Int) (x16 : List CVal) (x17 : List CVal) (x18 : List CVal) : Option (LO k_s_l2One_0.T) :=
 br (decide (x01 < (↑x17.length : Int)))
 (br (decide ((0 : Int) ≤ x01) && true)
 (x17[x01.toNat]?.bind fun y =>
 br (CVal.fits true (3 : Nat) y)
 ((y.sub (0 : Nat) (3 : Nat)).bind fun y =>
 (C f_s_TyOk [AVal.v y] []).bind fun r =>
 r.1.asBool.bind fun b =>
 br (!b) (some (LO.ret (CVal.bool false, [])))
 (L f_s_l2One (0 : Nat) lc_s_l2One_0 [] k_s_l2One_0
 ((PUnit.unit, IntKind.i64.wrap (x01 + (1 : Int)), PUnit.unit),
 (x10, x11, x12, x13, x14, x15, x16, x17, x18, PUnit.unit), PUnit.unit)))
 none)
 none)
 (some
 (LO.out (0 : Nat)
 ((PUnit.unit, x01, PUnit.unit), (x10, x11, x12, x13, x14, x15, x16, x17, x18, PUnit.unit), PUnit.unit)))
theorem el_s_l2One_0 (C : CallT) (L : LoopT) (x01 : Int) (x10 : Int) (x11 : Int) (x12 : List UInt8) (x13 : List UInt8) (x14 : Int) (x15 : Int) (x16 : List CVal) (x17 : List CVal) (x18 : List CVal) : evL E N C L f_s_l2One 0 lc_s_l2One_0 [] k_s_l2One_0 (((), x01, ()), (x10, x11, x12, x13, x14, x15, x16, x17, x18, ()), ()) = nl_s_l2One_0 C L x01 x10 x11 x12 x13 x14 x15 x16 x17 x18 := by kernel_rfl
theorem gl_s_l2One_0 (x01 : Int) (x10 : Int) (x11 : Int) (x12 : List UInt8) (x13 : List UInt8) (x14 : Int) (x15 : Int) (x16 : List CVal) (x17 : List CVal) (x18 : List CVal) (R : LO k_s_l2One_0.T) (h : nl_s_l2One_0 CC LL x01 x10 x11 x12 x13 x14 x15 x16 x17 x18 = some R) : LL f_s_l2One 0 lc_s_l2One_0 [] k_s_l2One_0 (((), x01, ()), (x10, x11, x12, x13, x14, x15, x16, x17, x18, ()), ()) = some R := loopW ((el_s_l2One_0 CC LL x01 x10 x11 x12 x13 x14 x15 x16 x17 x18).trans h)
noncomputable def nl_i_measure_0 (C : CallT) (L : LoopT) (x00 : Int) (x01 : Int) (x02 : List CVal) (x03 : Int) (x04 : Int) : Option (LO k_i_measure_0.T) :=
 br (decide (x04 < x03))
 (br (decide ((0 : Int) ≤ x04) && true)
 (x02[x04.toNat]?.bind fun y =>
 br (CVal.fits true (3 : Nat) y)
 ((y.sub (0 : Nat) (3 : Nat)).bind fun y =>
 br (CVal.isAggN (3 : Nat) y)
 ((y.cell (0 : Nat)).bind fun c =>
 (y.cell (1 : Nat)).bind fun c_1 =>
 (y.cell (2 : Nat)).bind fun c_2 =>
 (C f_i_measure [AVal.v (CVal.agg [c, c_1, c_2])] []).bind fun r =>
 r.1.asTup.bind fun y =>
 y[(0 : Nat)]?.bind fun y =>
 r.1.asTup.bind fun y_1 =>
 y_1[(1 : Nat)]?.bind fun y_2 =>
 r.1.asTup.bind fun y_3 =>
 y_3[(2 : Nat)]?.bind fun y_4 =>
 y_4.asBool.bind fun b =>
 br (!b)
 (some
 (LO.ret
 (CVal.tup
 [CVal.int IntKind.i64 (0 : Int), CVal.int IntKind.i64 (0 : Int),
 CVal.bool false],
 [])))
 ((CVal.asInt IntKind.i64 y).bind fun n =>
 (CVal.asInt IntKind.i64 y_2).bind fun n_1 =>
 L f_i_measure (0 : Nat) lc_i_measure_0 [] k_i_measure_0
 ((bif decide (x00 < n) then n else x00, IntKind.i64.wrap (x01 + n_1), x02,
 x03, IntKind.i64.wrap (x04 + (1 : Int)), PUnit.unit),
 PUnit.unit)))
 none)
 none)
 none)
 (some (LO.out (0 : Nat) ((x00, x01, x02, x03, x04, PUnit.unit), PUnit.unit)))
theorem el_i_measure_0 (C : CallT) (L : LoopT) (x00 : Int) (x01 : Int) (x02 : List CVal) (x03 : Int) (x04 : Int) : evL E N C L f_i_measure 0 lc_i_measure_0 [] k_i_measure_0 ((x00, x01, x02, x03, x04, ()), ()) = nl_i_measure_0 C L x00 x01 x02 x03 x04 := by kernel_rfl
theorem gl_i_measure_0 (x00 : Int) (x01 : Int) (x02 : List CVal) (x03 : Int) (x04 : Int) (R : LO k_i_measure_0.T) (h : nl_i_measure_0 CC LL x00 x01 x02 x03 x04 = some R) : LL f_i_measure 0 lc_i_measure_0 [] k_i_measure_0 ((x00, x01, x02, x03, x04, ()), ()) = some R := loopW ((el_i_measure_0 CC LL x00 x01 x02 x03 x04).trans h)
end Go.Proofs.Ytbimglfmmmlicaa.Abs
