/- What the functions come to in the abstract machine. -/
import Derived.Test.YtjndiaahgjhaeaaR1Ann
import Derived.KernelRfl
set_option linter.unusedVariables false
set_option maxRecDepth 100000
namespace Go.Proofs.Ytjndiaahgjhaeaa.Abs
open Go Go.Proofs
noncomputable def nf_l_toIns (C : CallT) (L : LoopT) (a0 : Int) (a1 : Int) (a2 : Int) (a3 : Int) (a4 : Int) (a5 : List CVal) (a6 : Int) : Option Ret :=
 (C f_l_toIntS [AVal.v (CVal.sl a5)] []).bind fun r =>
 br r.1.isFlat
 (r.1.asSl.bind fun xs =>
 some
 (CVal.agg
 [CVal.int IntKind.i64 a0, CVal.int IntKind.i64 a1, CVal.int IntKind.i64 a2, CVal.int IntKind.i64 a3,
 CVal.int IntKind.i64 a4, CVal.sl xs, CVal.int IntKind.i64 a6],
 []))
 none
theorem eq_l_toIns (C : CallT) (L : LoopT) (a0 : Int) (a1 : Int) (a2 : Int) (a3 : Int) (a4 : Int) (a5 : List CVal) (a6 : Int) : evF E N C L f_l_toIns [AVal.v
 (CVal.agg
 [CVal.int IntKind.i64 a0, CVal.int IntKind.i64 a1, CVal.int IntKind.i64 a2, CVal.int IntKind.i64 a3,
 CVal.int IntKind.i64 a4, CVal.sl a5, CVal.int IntKind.i64 a6])] [] = nf_l_toIns C L a0 a1 a2 a3 a4 a5 a6 := by kernel_rfl
theorem go_l_toIns (a0 : Int) (a1 : Int) (a2 : Int) (a3 : Int) (a4 : Int) (a5 : List CVal) (a6 : Int) (R : Ret) (h : nf_l_toIns CC LL a0 a1 a2 a3 a4 a5 a6 = some R) : CC f_l_toIns [AVal.v
 (CVal.agg
 [CVal.int IntKind.i64 a0, CVal.int IntKind.i64 a1, CVal.int IntKind.i64 a2, CVal.int IntKind.i64 a3,
 CVal.int IntKind.i64 a4, CVal.sl a5, CVal.int IntKind.i64 a6])] [] = some R := fnW (by decide) rfl ((eq_l_toIns CC LL a0 a1 a2 a3 a4 a5 a6).trans h)
noncomputable def nf_l_eqIns (C : CallT) (L : LoopT) (a0 : Int) (a1 : Int) (a2 : Int) (a3 : Int) (a4 : Int) (a5 : List CVal) (a6 : Int) (b0 : Int) (b1 : Int) (b2 : Int) (b3 : Int) (b4 : Int) (b5 : List CVal) (b6 : Int) : Option Ret :=
 br (!decide (a0 = b0)) (some (CVal.bool false, []))
 (br (!decide (a1 = b1)) (some (CVal.bool false, []))
 (br (!decide (a2 = b2)) (some (CVal.bool false, []))
 (br (!decide (a3 = b3)) (some (CVal.bool false, []))
 (br (!decide (a4 = b4)) (some (CVal.bool false, []))
 ((C f_l_eqIntS [AVal.v (CVal.sl a5), AVal.v (CVal.sl b5)] []).bind fun r =>
 r.1.asBool.bind fun b =>
 br (!b) (some (CVal.bool false, []))
 (br (!decide (a6 = b6)) (some (CVal.bool false, [])) (some (CVal.bool true, []))))))))
theorem eq_l_eqIns (C : CallT) (L : LoopT) (a0 : Int) (a1 : Int) (a2 : Int) (a3 : Int) (a4 : Int) (a5 : List CVal) (a6 : Int) (b0 : Int) (b1 : Int) (b2 : Int) (b3 : Int) (b4 : Int) (b5 : List CVal) (b6 : Int) : evF E N C L f_l_eqIns [AVal.v
 (CVal.agg
 [CVal.int IntKind.i64 a0, CVal.int IntKind.i64 a1, CVal.int IntKind.i64 a2, CVal.int IntKind.i64 a3,
 CVal.int IntKind.i64 a4, CVal.sl a5, CVal.int IntKind.i64 a6]),
 AVal.v
 (CVal.agg
 [CVal.int IntKind.i64 b0, CVal.int IntKind.i64 b1, CVal.int IntKind.i64 b2, CVal.int IntKind.i64 b3,
 CVal.int IntKind.i64 b4, CVal.sl b5, CVal.int IntKind.i64 b6])] [] = nf_l_eqIns C L a0 a1 a2 a3 a4 a5 a6 b0 b1 b2 b3 b4 b5 b6 := by kernel_rfl
theorem go_l_eqIns (a0 : Int) (a1 : Int) (a2 : Int) (a3 : Int) (a4 : Int) (a5 : List CVal) (a6 : Int) (b0 : Int) (b1 : Int) (b2 : Int) (b3 : Int) (b4 : Int) (b5 : List CVal) (b6 : Int) (R : Ret) (h : nf_l_eqIns CC LL a0 a1 a2 a3 a4 a5 a6 b0 b1 b2 b3 b4 b5 b6 = some R) : CC f_l_eqIns [AVal.v
 (CVal.agg
 [CVal.int IntKind.i64 a0, CVal.int IntKind.i64 a1, CVal.int IntKind.i64 a2, CVal.int IntKind.i64 a3,
 CVal.int IntKind.i64 a4, CVal.sl a5, CVal.int IntKind.i64 a6]),
 AVal.v
 (CVal.agg
 [CVal.int IntKind.i64 b0, CVal.int IntKind.i64 b1, CVal.int IntKind.i64 b2, CVal.int IntKind.i64 b3,
 CVal.int IntKind.i64 b4, CVal.sl b5, CVal.int IntKind.i64 b6])] [] = some R := fnW (by decide) rfl ((eq_l_eqIns CC LL a0 a1 a2 a3 a4 a5 a6 b0 b1 b2 b3 b4 b5 b6).trans h)
noncomputable def nf_l_szPiece (C : CallT) (L : LoopT) (a0 : Int) (a1 : Int) (a2 : Int) (a3 : List CVal) (b : Int) : Option Ret :=
 (C f_l_szInsS [AVal.v (CVal.sl a3), AVal.v (CVal.int IntKind.i64 b)] []).bind fun r =>
 (CVal.asInt IntKind.i64 r.1).bind fun n =>
 br (decide (n < (0 : Int))) (some (CVal.int IntKind.i64 (-1 : Int), [])) (some (r.1, []))
theorem eq_l_szPiece (C : CallT) (L : LoopT) (a0 : Int) (a1 : Int) (a2 : Int) (a3 : List CVal) (b : Int) : evF E N C L f_l_szPiece [AVal.v (CVal.agg [CVal.int IntKind.i64 a0, CVal.int IntKind.i64 a1, CVal.int IntKind.i64 a2, CVal.sl a3]),
 AVal.v (CVal.int IntKind.i64 b)] [] = nf_l_szPiece C L a0 a1 a2 a3 b := by kernel_rfl
theorem go_l_szPiece (a0 : Int) (a1 : Int) (a2 : Int) (a3 : List CVal) (b : Int) (R : Ret) (h : nf_l_szPiece CC LL a0 a1 a2 a3 b = some R) : CC f_l_szPiece [AVal.v (CVal.agg [CVal.int IntKind.i64 a0, CVal.int IntKind.i64 a1, CVal.int IntKind.i64 a2, CVal.sl a3]),
 AVal.v (CVal.int IntKind.i64 b)] [] = some R := fnW (by decide) rfl ((eq_l_szPiece CC LL a0 a1 a2 a3 b).trans h)
noncomputable def nf_l_eqPiece (C : CallT) (L : LoopT) (a0 : Int) (a1 : Int) (a2 : Int) (a3 : List CVal) (b0 : Int) (b1 : Int) (b2 : Int) (b3 : List CVal) : Option Ret :=
 br (!decide (a0 = b0)) (some (CVal.bool false, []))
 (br (!decide (a1 = b1)) (some (CVal.bool false, []))
 (br (!decide (a2 = b2)) (some (CVal.bool false, []))
 ((C f_l_eqInsS [AVal.v (CVal.sl a3), AVal.v (CVal.sl b3)] []).bind fun r =>
 r.1.asBool.bind fun b => br (!b) (some (CVal.bool false, [])) (some (CVal.bool true, [])))))
theorem eq_l_eqPiece (C : CallT) (L : LoopT) (a0 : Int) (a1 : Int) (a2 : Int) (a3 : List CVal) (b0 : Int) (b1 : Int) (b2 : Int) (b3 : List CVal) : evF E N C L f_l_eqPiece [AVal.v (CVal.agg [CVal.int IntKind.i64 a0, CVal.int IntKind.i64 a1, CVal.int IntKind.i64 a2, CVal.sl a3]),
 AVal.v (CVal.agg [CVal.int IntKind.i64 b0, CVal.int IntKind.i64 b1, CVal.int IntKind.i64 b2, CVal.sl b3])] [] = nf_l_eqPiece C L a0 a1 a2 a3 b0 b1 b2 b3 := by kernel_rfl
theorem go_l_eqPiece (a0 : Int) (a1 : Int) (a2 : Int) (a3 : List CVal) (b0 : Int) (b1 : Int) (b2 : Int) (b3 : List CVal) (R : Ret) (h : nf_l_eqPiece CC LL a0 a1 a2 a3 b0 b1 b2 b3 = some R) : CC f_l_eqPiece [AVal.v (CVal.agg [CVal.int IntKind.i64 a0, CVal.int IntKind.i64 a1, CVal.int IntKind.i64 a2, CVal.sl a3]),
 AVal.v (CVal.agg [CVal.int IntKind.i64 b0, CVal.int IntKind.i64 b1, CVal.int IntKind.i64 b2, CVal.sl b3])] [] = some R := fnW (by decide) rfl ((eq_l_eqPiece CC LL a0 a1 a2 a3 b0 b1 b2 b3).trans h)
noncomputable def nf_s_l9Uses (C : CallT) (L : LoopT) (a : Int) : Option Ret :=
 br (decide (a = (1 : Int))) (some (CVal.agg [CVal.bool true, CVal.bool false, CVal.bool false, CVal.bool false], []))
 (br (decide (a = (2 : Int))) (some (CVal.agg [CVal.bool true, CVal.bool false, CVal.bool false, CVal.bool false], []))
 (br (decide (a = (3 : Int)))
 (some (CVal.agg [CVal.bool true, CVal.bool false, CVal.bool false, CVal.bool false], []))
 (br (decide (a = (8 : Int)))
 (some (CVal.agg [CVal.bool true, CVal.bool false, CVal.bool false, CVal.bool false], []))
 (br (decide (a = (4 : Int)))
 (some (CVal.agg [CVal.bool true, CVal.bool true, CVal.bool false, CVal.bool false], []))
 (br (decide (a = (9 : Int)))
 (some (CVal.agg [CVal.bool true, CVal.bool true, CVal.bool false, CVal.bool false], []))
 (br (decide (a = (10 : Int)))
 (some (CVal.agg [CVal.bool true, CVal.bool true, CVal.bool false, CVal.bool false], []))
 (br (decide (a = (5 : Int)))
 (some (CVal.agg [CVal.bool true, CVal.bool true, CVal.bool true, CVal.bool false], []))
 (br (decide (a = (6 : Int)))
 (some (CVal.agg [CVal.bool true, CVal.bool true, CVal.bool true, CVal.bool false], []))
 (br (decide (a = (7 : Int)))
 (some (CVal.agg [CVal.bool true, CVal.bool true, CVal.bool true, CVal.bool false], []))
 (br (decide (a = (14 : Int)))
 (some (CVal.agg [CVal.bool true, CVal.bool true, CVal.bool true, CVal.bool false], []))
 (br (decide (a = (11 : Int)))
 (some (CVal.agg [CVal.bool false, CVal.bool true, CVal.bool false, CVal.bool true], []))
 (br (decide (a = (12 : Int)))
 (some (CVal.agg [CVal.bool false, CVal.bool true, CVal.bool false, CVal.bool true], []))
 (br (decide (a = (13 : Int)))
 (some (CVal.agg [CVal.bool false, CVal.bool false, CVal.bool false, CVal.bool true], []))
 (br (decide (a = (15 : Int)))
 (some (CVal.agg [CVal.bool false, CVal.bool true, CVal.bool false, CVal.bool false], []))
 (br (decide (a = (16 : Int)))
 (some
 (CVal.agg [CVal.bool false, CVal.bool true, CVal.bool false, CVal.bool false], []))
 (br (decide (a = (17 : Int)))
 (some
 (CVal.agg [CVal.bool true, CVal.bool false, CVal.bool false, CVal.bool true], []))
 (some
 (CVal.agg [CVal.bool false, CVal.bool false, CVal.bool false, CVal.bool false],
 []))))))))))))))))))
theorem eq_s_l9Uses (C : CallT) (L : LoopT) (a : Int) : evF E N C L f_s_l9Uses [AVal.v (CVal.int IntKind.i64 a)] [] = nf_s_l9Uses C L a := by kernel_rfl
theorem go_s_l9Uses (a : Int) (R : Ret) (h : nf_s_l9Uses CC LL a = some R) : CC f_s_l9Uses [AVal.v (CVal.int IntKind.i64 a)] [] = some R := fnW (by decide) rfl ((eq_s_l9Uses CC LL a).trans h)
noncomputable def nf_l_toInsS (C : CallT) (L : LoopT) (a : List CVal) : Option Ret :=
 br (decide ((↑a.length : Int) = (↑a.length : Int)) && decide ((↑a.length : Int) ≤ (1048576 : Int)))
 ((L f_l_toInsS (0 : Nat) lc_l_toInsS_0 [] k_l_toInsS_0
 ((a, PUnit.unit, (0 : Int), PUnit.unit),
 List.replicate (↑a.length : Int).toNat
 (CVal.agg
 [CVal.int IntKind.i64 (0 : Int), CVal.int IntKind.i64 (0 : Int), CVal.int IntKind.i64 (0 : Int),
 CVal.int IntKind.i64 (0 : Int), CVal.int IntKind.i64 (0 : Int), CVal.sl [],
 CVal.int IntKind.i64 (0 : Int)]),
 PUnit.unit)).bind
 fun r => loK r (fun r => some r) fun j p => br (j == (0 : Nat)) (some (CVal.sl p.snd.1, [])) none)
 none
theorem eq_l_toInsS (C : CallT) (L : LoopT) (a : List CVal) : evF E N C L f_l_toInsS [AVal.v (CVal.sl a)] [] = nf_l_toInsS C L a := by kernel_rfl
theorem go_l_toInsS (a : List CVal) (R : Ret) (h : nf_l_toInsS CC LL a = some R) : CC f_l_toInsS [AVal.v (CVal.sl a)] [] = some R := fnW (by decide) rfl ((eq_l_toInsS CC LL a).trans h)
noncomputable def nf_s_l10May (C : CallT) (L : LoopT) (a : Int) : Option Ret :=
 br (decide (a = (5 : Int))) (some (CVal.bool true, []))
 (br (decide (a = (14 : Int))) (some (CVal.bool true, []))
 (br (decide (a = (16 : Int))) (some (CVal.bool true, []))
 (br (decide (a = (9 : Int))) (some (CVal.bool true, []))
 (br (decide (a = (10 : Int))) (some (CVal.bool true, []))
 (br (decide (a = (11 : Int))) (some (CVal.bool true, []))
 (br (decide (a = (12 : Int))) (some (CVal.bool true, [])) (some (CVal.bool false, []))))))))
theorem eq_s_l10May (C : CallT) (L : LoopT) (a : Int) : evF E N C L f_s_l10May [AVal.v (CVal.int IntKind.i64 a)] [] = nf_s_l10May C L a := by kernel_rfl
theorem go_s_l10May (a : Int) (R : Ret) (h : nf_s_l10May CC LL a = some R) : CC f_s_l10May [AVal.v (CVal.int IntKind.i64 a)] [] = some R := fnW (by decide) rfl ((eq_s_l10May CC LL a).trans h)
noncomputable def nf_i_raises (C : CallT) (L : LoopT) (a : Int) : Option Ret :=
 br (decide (a = (5 : Int))) (some (CVal.bool true, []))
 (br (decide (a = (14 : Int))) (some (CVal.bool true, []))
 (br (decide (a = (16 : Int))) (some (CVal.bool true, []))
 (br (decide (a = (9 : Int))) (some (CVal.bool true, []))
 (br (decide (a = (10 : Int))) (some (CVal.bool true, []))
 (br (decide (a = (11 : Int))) (some (CVal.bool true, []))
 (br (decide (a = (12 : Int))) (some (CVal.bool true, [])) (some (CVal.bool false, []))))))))
theorem eq_i_raises (C : CallT) (L : LoopT) (a : Int) : evF E N C L f_i_raises [AVal.v (CVal.int IntKind.i64 a)] [] = nf_i_raises C L a := by kernel_rfl
theorem go_i_raises (a : Int) (R : Ret) (h : nf_i_raises CC LL a = some R) : CC f_i_raises [AVal.v (CVal.int IntKind.i64 a)] [] = some R := fnW (by decide) rfl ((eq_i_raises CC LL a).trans h)
noncomputable def nf_slices_Contains_byte (C : CallT) (L : LoopT) (a : List CVal) (b : Int) : Option Ret :=
 (C f_slices_Index_byte [AVal.v (CVal.sl a), AVal.v (CVal.int IntKind.u8 b)] []).bind fun r =>
 (CVal.asInt IntKind.i64 r.1).bind fun n => some (CVal.bool (decide ((0 : Int) ≤ n)), [])
theorem eq_slices_Contains_byte (C : CallT) (L : LoopT) (a : List CVal) (b : Int) : evF E N C L f_slices_Contains_byte [AVal.v (CVal.sl a), AVal.v (CVal.int IntKind.u8 b)] [] = nf_slices_Contains_byte C L a b := by kernel_rfl
theorem go_slices_Contains_byte (a : List CVal) (b : Int) (R : Ret) (h : nf_slices_Contains_byte CC LL a b = some R) : CC f_slices_Contains_byte [AVal.v (CVal.sl a), AVal.v (CVal.int IntKind.u8 b)] [] = some R := fnW (by decide) rfl ((eq_slices_Contains_byte CC LL a b).trans h)
noncomputable def nl_l_eqIntS_0 (C : CallT) (L : LoopT) (x00 : List CVal) (x01 : List CVal) (x02 : Int) : Option (LO k_l_eqIntS_0.T) :=
 br (decide (x02 < (↑x00.length : Int)))
 (br (decide ((0 : Int) ≤ x02) && true)
 (x00[x02.toNat]?.bind fun y =>
 br (CVal.fits false (1 : Nat) y)
 ((y.cell (0 : Nat)).bind fun c =>
 br (decide ((0 : Int) ≤ x02) && true)
 (x01[x02.toNat]?.bind fun y =>
 br (CVal.fits false (1 : Nat) y)
 ((y.cell (0 : Nat)).bind fun c_1 =>
 (CVal.asInt IntKind.i64 c).bind fun n =>
 (CVal.asInt IntKind.i64 c_1).bind fun n_1 =>
 br (!decide (n = n_1)) (some (LO.ret (CVal.bool false, [])))
 (L f_l_eqIntS (0 : Nat) lc_l_eqIntS_0 [] k_l_eqIntS_0
 ((x00, x01, IntKind.i64.wrap (x02 + (1 : Int)), PUnit.unit), PUnit.unit)))
 none)
 none)
 none)
 none)
 (some (LO.out (0 : Nat) ((x00, x01, x02, PUnit.unit), PUnit.unit)))
theorem el_l_eqIntS_0 (C : CallT) (L : LoopT) (x00 : List CVal) (x01 : List CVal) (x02 : Int) : evL E N C L f_l_eqIntS 0 lc_l_eqIntS_0 [] k_l_eqIntS_0 ((x00, x01, x02, ()), ()) = nl_l_eqIntS_0 C L x00 x01 x02 := by kernel_rfl
theorem gl_l_eqIntS_0 (x00 : List CVal) (x01 : List CVal) (x02 : Int) (R : LO k_l_eqIntS_0.T) (h : nl_l_eqIntS_0 CC LL x00 x01 x02 = some R) : LL f_l_eqIntS 0 lc_l_eqIntS_0 [] k_l_eqIntS_0 ((x00, x01, x02, ()), ()) = some R := loopW ((el_l_eqIntS_0 CC LL x00 x01 x02).trans h)
noncomputable def nl_s_l10Add_0 (C : CallT) (L : LoopT) (x00 : List CVal) (x01 : Int) (x03 : Bool) (x04 : Int) (x1 : List CVal) : Option (LO k_s_l10Add_0.T) :=
 br (decide (x04 < (↑x00.length : Int)))
 ((br (!x03)
 (br (decide ((0 : Int) ≤ x04) && true)
 (x00[x04.toNat]?.bind fun y =>
 br (CVal.fits false (1 : Nat) y)
 ((y.cell (0 : Nat)).bind fun c =>
 (CVal.asInt IntKind.i64 c).bind fun n => some (decide (x01 ≤ n), PUnit.unit))
 none)
 none)
 (some (false, PUnit.unit))).bind
 fun y =>
 br y.1
 (br (decide (x1.length + (1 : Nat) ≤ (4294967296 : Nat)) && true && true)
 (br (decide ((0 : Int) ≤ x04) && true)
 (x00[x04.toNat]?.bind fun y =>
 br (CVal.fits false (1 : Nat) y)
 ((y.cell (0 : Nat)).bind fun c =>
 (CVal.asInt IntKind.i64 c).bind fun n =>
 br (!decide (n = x01))
 (br (decide ((0 : Int) ≤ x04) && true)
 (x00[x04.toNat]?.bind fun y =>
 br (CVal.fits false (1 : Nat) y)
 ((y.cell (0 : Nat)).bind fun c =>
 br (c.isFlat && true)
 ((CVal.asInt IntKind.i64 c).bind fun n =>
 br
 (decide
 ((x1 ++ [CVal.int IntKind.i64 x01]).length + (1 : Nat) ≤ (4294967296 : Nat)) &&
 true &&
 true)
 (L f_s_l10Add (0 : Nat) lc_s_l10Add_0 [] k_s_l10Add_0
 ((x00, x01, PUnit.unit, true, IntKind.i64.wrap (x04 + (1 : Int)), PUnit.unit),
 x1 ++ [CVal.int IntKind.i64 x01] ++ [CVal.int IntKind.i64 n], PUnit.unit))
 none)
 none)
 none)
 none)
 (L f_s_l10Add (0 : Nat) lc_s_l10Add_0 [] k_s_l10Add_0
 ((x00, x01, PUnit.unit, true, IntKind.i64.wrap (x04 + (1 : Int)), PUnit.unit),
 x1 ++ [CVal.int IntKind.i64 x01], PUnit.unit)))
 none)
 none)
 none)
 (br (decide ((0 : Int) ≤ x04) && true)
 (x00[x04.toNat]?.bind fun y =>
 br (CVal.fits false (1 : Nat) y)
 ((y.cell (0 : Nat)).bind fun c =>
 (CVal.asInt IntKind.i64 c).bind fun n =>
 br (!decide (n = x01))
 (br (decide ((0 : Int) ≤ x04) && true)
 (x00[x04.toNat]?.bind fun y =>
 br (CVal.fits false (1 : Nat) y)
 ((y.cell (0 : Nat)).bind fun c =>
 br (c.isFlat && true)
 ((CVal.asInt IntKind.i64 c).bind fun n =>
 br (decide (x1.length + (1 : Nat) ≤ (4294967296 : Nat)) && true && true)
 (L f_s_l10Add (0 : Nat) lc_s_l10Add_0 [] k_s_l10Add_0
 ((x00, x01, PUnit.unit, x03, IntKind.i64.wrap (x04 + (1 : Int)), PUnit.unit),
 x1 ++ [CVal.int IntKind.i64 n], PUnit.unit))
 none)
 none)
 none)
 none)
 (L f_s_l10Add (0 : Nat) lc_s_l10Add_0 [] k_s_l10Add_0
 ((x00, x01, PUnit.unit, x03, IntKind.i64.wrap (x04 + (1 : Int)), PUnit.unit), x1, PUnit.unit)))
 none)
 none))
 (some (LO.out (0 : Nat) ((x00, x01, PUnit.unit, x03, x04, PUnit.unit), x1, PUnit.unit)))
theorem el_s_l10Add_0 (C : CallT) (L : LoopT) (x00 : List CVal) (x01 : Int) (x03 : Bool) (x04 : Int) (x1 : List CVal) : evL E N C L f_s_l10Add 0 lc_s_l10Add_0 [] k_s_l10Add_0 ((x00, x01, (), x03, x04, ()), x1, ()) = nl_s_l10Add_0 C L x00 x01 x03 x04 x1 := by kernel_rfl
theorem gl_s_l10Add_0 (x00 : List CVal) (x01 : Int) (x03 : Bool) (x04 : Int) (x1 : List CVal) (R : LO k_s_l10Add_0.T) (h : nl_s_l10Add_0 CC LL x00 x01 x03 x04 x1 = some R) : LL f_s_l10Add 0 lc_s_l10Add_0 [] k_s_l10Add_0 ((x00, x01, (), x03, x04, ()), x1, ()) = some R := loopW ((el_s_l10Add_0 CC LL x00 x01 x03 x04 x1).trans h)
noncomputable def nl_l_eqInsS_0 (C : CallT) (L : LoopT) (x00 : List CVal) (x01 : List CVal) (x02 : Int) : Option (LO k_l_eqInsS_0.T) :=
 br (decide (x02 < (↑x00.length : Int)))
 (br (decide ((0 : Int) ≤ x02) && true)
 (x00[x02.toNat]?.bind fun y =>
 br (CVal.fits true (7 : Nat) y)
 ((y.sub (0 : Nat) (7 : Nat)).bind fun y =>
 br (decide ((0 : Int) ≤ x02) && true)
 (x01[x02.toNat]?.bind fun y_1 =>
 br (CVal.fits true (7 : Nat) y_1)
 ((y_1.sub (0 : Nat) (7 : Nat)).bind fun y_2 =>
 (C f_l_eqIns [AVal.v y, AVal.v y_2] []).bind fun r =>
 r.1.asBool.bind fun b =>
 br (!b) (some (LO.ret (CVal.bool false, [])))
 (L f_l_eqInsS (0 : Nat) lc_l_eqInsS_0 [] k_l_eqInsS_0
 ((x00, x01, IntKind.i64.wrap (x02 + (1 : Int)), PUnit.unit), PUnit.unit)))
 none)
 none)
 none)
 none)
 (some (LO.out (0 : Nat) ((x00, x01, x02, PUnit.unit), PUnit.unit)))
theorem el_l_eqInsS_0 (C : CallT) (L : LoopT) (x00 : List CVal) (x01 : List CVal) (x02 : Int) : evL E N C L f_l_eqInsS 0 lc_l_eqInsS_0 [] k_l_eqInsS_0 ((x00, x01, x02, ()), ()) = nl_l_eqInsS_0 C L x00 x01 x02 := by kernel_rfl
theorem gl_l_eqInsS_0 (x00 : List CVal) (x01 : List CVal) (x02 : Int) (R : LO k_l_eqInsS_0.T) (h : nl_l_eqInsS_0 CC LL x00 x01 x02 = some R) : LL f_l_eqInsS 0 lc_l_eqInsS_0 [] k_l_eqInsS_0 ((x00, x01, x02, ()), ()) = some R := loopW ((el_l_eqInsS_0 CC LL x00 x01 x02).trans h)
end Go.Proofs.Ytjndiaahgjhaeaa.Abs
