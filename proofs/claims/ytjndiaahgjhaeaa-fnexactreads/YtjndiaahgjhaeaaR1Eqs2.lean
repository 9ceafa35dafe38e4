/- What the functions come to in the abstract machine. -/
import Derived.Test.YtjndiaahgjhaeaaR1Ann
import Derived.KernelRfl
set_option linter.unusedVariables false
set_option maxRecDepth 100000
namespace Go.Proofs.Ytjndiaahgjhaeaa.Abs
open Go Go.Proofs
noncomputable def nf_l_szIns (C : CallT) (L : LoopT) (a0 : Int) (a1 : Int) (a2 : Int) (a3 : Int) (a4 : Int) (a5 : List CVal) (a6 : Int) (b : Int) : Option Ret :=
 (C f_l_szIntS [AVal.v (CVal.sl a5), AVal.v (CVal.int IntKind.i64 b)] []).bind fun r =>
 (CVal.asInt IntKind.i64 r.1).bind fun n =>
 br (decide (n < (0 : Int))) (some (CVal.int IntKind.i64 (-1 : Int), [])) (some (r.1, []))
theorem eq_l_szIns (C : CallT) (L : LoopT) (a0 : Int) (a1 : Int) (a2 : Int) (a3 : Int) (a4 : Int) (a5 : List CVal) (a6 : Int) (b : Int) : evF E N C L f_l_szIns [AVal.v
 (CVal.agg
 [CVal.int IntKind.i64 a0, CVal.int IntKind.i64 a1, CVal.int IntKind.i64 a2, CVal.int IntKind.i64 a3,
 CVal.int IntKind.i64 a4, CVal.sl a5, CVal.int IntKind.i64 a6]),
 AVal.v (CVal.int IntKind.i64 b)] [] = nf_l_szIns C L a0 a1 a2 a3 a4 a5 a6 b := by kernel_rfl
theorem go_l_szIns (a0 : Int) (a1 : Int) (a2 : Int) (a3 : Int) (a4 : Int) (a5 : List CVal) (a6 : Int) (b : Int) (R : Ret) (h : nf_l_szIns CC LL a0 a1 a2 a3 a4 a5 a6 b = some R) : CC f_l_szIns [AVal.v
 (CVal.agg
 [CVal.int IntKind.i64 a0, CVal.int IntKind.i64 a1, CVal.int IntKind.i64 a2, CVal.int IntKind.i64 a3,
 CVal.int IntKind.i64 a4, CVal.sl a5, CVal.int IntKind.i64 a6]),
 AVal.v (CVal.int IntKind.i64 b)] [] = some R := fnW (by decide) rfl ((eq_l_szIns CC LL a0 a1 a2 a3 a4 a5 a6 b).trans h)
noncomputable def nf_l_eqIntS (C : CallT) (L : LoopT) (a : List CVal) (b : List CVal) : Option Ret :=
 br (!decide ((↑a.length : Int) = (↑b.length : Int))) (some (CVal.bool false, []))
 ((L f_l_eqIntS (0 : Nat) lc_l_eqIntS_0 [] k_l_eqIntS_0 ((a, b, (0 : Int), PUnit.unit), PUnit.unit)).bind fun r =>
 loK r (fun r => some r) fun j p => br (j == (0 : Nat)) (some (CVal.bool true, [])) none)
theorem eq_l_eqIntS (C : CallT) (L : LoopT) (a : List CVal) (b : List CVal) : evF E N C L f_l_eqIntS [AVal.v (CVal.sl a), AVal.v (CVal.sl b)] [] = nf_l_eqIntS C L a b := by kernel_rfl
theorem go_l_eqIntS (a : List CVal) (b : List CVal) (R : Ret) (h : nf_l_eqIntS CC LL a b = some R) : CC f_l_eqIntS [AVal.v (CVal.sl a), AVal.v (CVal.sl b)] [] = some R := fnW (by decide) rfl ((eq_l_eqIntS CC LL a b).trans h)
noncomputable def nf_l_heldIntS (C : CallT) (L : LoopT) (a : List CVal) (b : Int) : Option Ret :=
 (L f_l_heldIntS (0 : Nat) lc_l_heldIntS_0 [] k_l_heldIntS_0 ((a, b, (0 : Int), PUnit.unit), PUnit.unit)).bind fun r =>
 loK r (fun r => some r) fun j p => br (j == (0 : Nat)) (some (CVal.int IntKind.i64 p.fst.snd.1, [])) none
theorem eq_l_heldIntS (C : CallT) (L : LoopT) (a : List CVal) (b : Int) : evF E N C L f_l_heldIntS [AVal.v (CVal.sl a), AVal.v (CVal.int IntKind.i64 b)] [] = nf_l_heldIntS C L a b := by kernel_rfl
theorem go_l_heldIntS (a : List CVal) (b : Int) (R : Ret) (h : nf_l_heldIntS CC LL a b = some R) : CC f_l_heldIntS [AVal.v (CVal.sl a), AVal.v (CVal.int IntKind.i64 b)] [] = some R := fnW (by decide) rfl ((eq_l_heldIntS CC LL a b).trans h)
noncomputable def nf_i_Nexts (C : CallT) (L : LoopT) (a0 : Int) (a1 : Int) (a2 : Int) (a3 : List CVal) (b : Int) : Option Ret :=
 (C f_i_in
 [AVal.v (CVal.int IntKind.i64 b), AVal.v (CVal.int IntKind.i64 (0 : Int)),
 AVal.v (CVal.int IntKind.i64 (IntKind.i64.wrap ((↑a3.length : Int) - (1 : Int))))]
 []).bind
 fun r =>
 r.1.asBool.bind fun b_1 =>
 br (!b_1) (some (CVal.sl [], []))
 ((C f_i_ways
 [AVal.v (CVal.agg [CVal.int IntKind.i64 a0, CVal.int IntKind.i64 a1, CVal.int IntKind.i64 a2, CVal.sl a3]),
 AVal.v (CVal.int IntKind.i64 b)]
 []).bind
 fun r =>
 br r.1.isFlat
 (r.1.asSl.bind fun xs =>
 (C f_i_guardOf
 [AVal.v
 (CVal.agg
 [CVal.int IntKind.i64 a0, CVal.int IntKind.i64 a1, CVal.int IntKind.i64 a2, CVal.sl a3]),
 AVal.v (CVal.int IntKind.i64 b)]
 []).bind
 fun r =>
 ((CVal.asInt IntKind.i64 r.1).bind fun n =>
 br (decide ((0 : Int) ≤ n))
 (br (decide ((0 : Int) ≤ b) && true)
 (a3[b.toNat]?.bind fun y =>
 br (CVal.fits true (7 : Nat) y)
 ((y.cell (0 : Nat)).bind fun c =>
 (C f_i_raises [AVal.v c] []).bind fun r =>
 (bif true then r.1 else CVal.bool false).asBool.bind fun b => some (b, PUnit.unit))
 none)
 none)
 (some (false, PUnit.unit))).bind
 fun y =>
 br y.1
 (r.1.asIdx.bind fun y =>
 br (decide ((0 : Int) ≤ y) && true)
 (a3[y.toNat]?.bind fun y =>
 br (CVal.fits true (7 : Nat) y)
 ((y.cell (6 : Nat)).bind fun c =>
 br (c.isFlat && true)
 ((CVal.asInt IntKind.i64 c).bind fun n =>
 br (decide (xs.length + (1 : Nat) ≤ (4294967296 : Nat)) && true && true)
 ((C f_slices_Sort_int [AVal.lref (0 : Nat) (0 : Nat)]
 [PB.arr (Md.mk true true (0 : Nat)) false (1 : Nat)
 (xs ++ [CVal.int IntKind.i64 n])]).bind
 fun r =>
 r.2[(0 : Nat)]?.bind fun y =>
 (C f_slices_Compact_int [AVal.lref (0 : Nat) (0 : Nat)]
 [PB.arr (Md.mk true false (0 : Nat)) false (1 : Nat) y]).bind
 fun r => r.2[(0 : Nat)]?.bind fun y => some (CVal.sl y, []))
 none)
 none)
 none)
 none)
 ((C f_slices_Sort_int [AVal.lref (0 : Nat) (0 : Nat)]
 [PB.arr (Md.mk true true (0 : Nat)) false (1 : Nat) xs]).bind
 fun r =>
 r.2[(0 : Nat)]?.bind fun y =>
 (C f_slices_Compact_int [AVal.lref (0 : Nat) (0 : Nat)]
 [PB.arr (Md.mk true false (0 : Nat)) false (1 : Nat) y]).bind
 fun r => r.2[(0 : Nat)]?.bind fun y => some (CVal.sl y, [])))
 none)
theorem eq_i_Nexts (C : CallT) (L : LoopT) (a0 : Int) (a1 : Int) (a2 : Int) (a3 : List CVal) (b : Int) : evF E N C L f_i_Nexts [AVal.v (CVal.agg [CVal.int IntKind.i64 a0, CVal.int IntKind.i64 a1, CVal.int IntKind.i64 a2, CVal.sl a3]),
 AVal.v (CVal.int IntKind.i64 b)] [] = nf_i_Nexts C L a0 a1 a2 a3 b := by kernel_rfl
theorem go_i_Nexts (a0 : Int) (a1 : Int) (a2 : Int) (a3 : List CVal) (b : Int) (R : Ret) (h : nf_i_Nexts CC LL a0 a1 a2 a3 b = some R) : CC f_i_Nexts [AVal.v (CVal.agg [CVal.int IntKind.i64 a0, CVal.int IntKind.i64 a1, CVal.int IntKind.i64 a2, CVal.sl a3]),
 AVal.v (CVal.int IntKind.i64 b)] [] = some R := fnW (by decide) rfl ((eq_i_Nexts CC LL a0 a1 a2 a3 b).trans h)
noncomputable def nf_l_toIntS (C : CallT) (L : LoopT) (a : List CVal) : Option Ret :=
 br (decide ((↑a.length : Int) = (↑a.length : Int)) && decide ((↑a.length : Int) ≤ (1048576 : Int)))
 ((L f_l_toIntS (0 : Nat) lc_l_toIntS_0 [] k_l_toIntS_0
 ((a, PUnit.unit, (0 : Int), PUnit.unit),
 List.replicate (↑a.length : Int).toNat (CVal.int IntKind.i64 (0 : Int)), PUnit.unit)).bind
 fun r => loK r (fun r => some r) fun j p => br (j == (0 : Nat)) (some (CVal.sl p.snd.1, [])) none)
 none
theorem eq_l_toIntS (C : CallT) (L : LoopT) (a : List CVal) : evF E N C L f_l_toIntS [AVal.v (CVal.sl a)] [] = nf_l_toIntS C L a := by kernel_rfl
theorem go_l_toIntS (a : List CVal) (R : Ret) (h : nf_l_toIntS CC LL a = some R) : CC f_l_toIntS [AVal.v (CVal.sl a)] [] = some R := fnW (by decide) rfl ((eq_l_toIntS CC LL a).trans h)
noncomputable def nf_l_szInsS (C : CallT) (L : LoopT) (a : List CVal) (b : Int) : Option Ret :=
 br (decide (IntKind.i64.wrap (b - (↑a.length : Int)) < (0 : Int))) (some (CVal.int IntKind.i64 (-1 : Int), []))
 ((L f_l_szInsS (0 : Nat) lc_l_szInsS_0 [] k_l_szInsS_0
 ((a, IntKind.i64.wrap (b - (↑a.length : Int)), (0 : Int), PUnit.unit), PUnit.unit)).bind
 fun r => loK r (fun r => some r) fun j p => br (j == (0 : Nat)) (some (CVal.int IntKind.i64 p.fst.snd.1, [])) none)
theorem eq_l_szInsS (C : CallT) (L : LoopT) (a : List CVal) (b : Int) : evF E N C L f_l_szInsS [AVal.v (CVal.sl a), AVal.v (CVal.int IntKind.i64 b)] [] = nf_l_szInsS C L a b := by kernel_rfl
theorem go_l_szInsS (a : List CVal) (b : Int) (R : Ret) (h : nf_l_szInsS CC LL a b = some R) : CC f_l_szInsS [AVal.v (CVal.sl a), AVal.v (CVal.int IntKind.i64 b)] [] = some R := fnW (by decide) rfl ((eq_l_szInsS CC LL a b).trans h)
noncomputable def nf_s_Guard (C : CallT) (L : LoopT) (a0 : Int) (a1 : Int) (a2 : Int) (a3 : List CVal) (b : Int) : Option Ret :=
 (C f_s_l10Guard
 [AVal.v (CVal.agg [CVal.int IntKind.i64 a0, CVal.int IntKind.i64 a1, CVal.int IntKind.i64 a2, CVal.sl a3]),
 AVal.v (CVal.int IntKind.i64 b)]
 []).bind
 fun r =>
 (CVal.asInt IntKind.i64 r.1).bind fun n =>
 br (decide (n < (0 : Int))) (some (CVal.int IntKind.i64 (-1 : Int), []))
 (r.1.asIdx.bind fun y =>
 br (decide ((0 : Int) ≤ y) && true)
 (a3[y.toNat]?.bind fun y =>
 br (CVal.fits true (7 : Nat) y) ((y.cell (6 : Nat)).bind fun c => some (c, [])) none)
 none)
theorem eq_s_Guard (C : CallT) (L : LoopT) (a0 : Int) (a1 : Int) (a2 : Int) (a3 : List CVal) (b : Int) : evF E N C L f_s_Guard [AVal.v (CVal.agg [CVal.int IntKind.i64 a0, CVal.int IntKind.i64 a1, CVal.int IntKind.i64 a2, CVal.sl a3]),
 AVal.v (CVal.int IntKind.i64 b)] [] = nf_s_Guard C L a0 a1 a2 a3 b := by kernel_rfl
theorem go_s_Guard (a0 : Int) (a1 : Int) (a2 : Int) (a3 : List CVal) (b : Int) (R : Ret) (h : nf_s_Guard CC LL a0 a1 a2 a3 b = some R) : CC f_s_Guard [AVal.v (CVal.agg [CVal.int IntKind.i64 a0, CVal.int IntKind.i64 a1, CVal.int IntKind.i64 a2, CVal.sl a3]),
 AVal.v (CVal.int IntKind.i64 b)] [] = some R := fnW (by decide) rfl ((eq_s_Guard CC LL a0 a1 a2 a3 b).trans h)
noncomputable def nf_i_guardOf (C : CallT) (L : LoopT) (a0 : Int) (a1 : Int) (a2 : Int) (a3 : List CVal) (b : Int) : Option Ret :=
 (C f_i_in
 [AVal.v (CVal.int IntKind.i64 b), AVal.v (CVal.int IntKind.i64 (0 : Int)),
 AVal.v (CVal.int IntKind.i64 (IntKind.i64.wrap ((↑a3.length : Int) - (1 : Int))))]
 []).bind
 fun r =>
 r.1.asBool.bind fun b_1 =>
 br (!b_1) (some (CVal.int IntKind.i64 (-1 : Int), []))
 (br (decide ((0 : Int) ≤ b) && decide (b ≤ (↑a3.length : Int)) && a3.all (CVal.fits true (7 : Nat)))
 ((L f_i_guardOf (0 : Nat) lc_i_guardOf_0 [] k_i_guardOf_0
 ((PUnit.unit, List.drop (0 : Nat) (List.take b.toNat a3),
 (↑(List.drop (0 : Nat) (List.take b.toNat a3)).length : Int), (0 : Int), PUnit.unit),
 [], PUnit.unit)).bind
 fun r =>
 loK r (fun r => some r) fun j p =>
 br (j == (0 : Nat))
 (br (decide ((↑(List.length p.snd.1) : Int) = (0 : Int))) (some (CVal.int IntKind.i64 (-1 : Int), []))
 (br (decide ((0 : Int) ≤ IntKind.i64.wrap ((↑(List.length p.snd.1) : Int) - (1 : Int))) && true)
 (br
 (decide
 ((IntKind.i64.wrap ((↑(List.length p.snd.1) : Int) - (1 : Int))).toNat < List.length p.snd.1) &&
 true)
 (p.snd.1[(IntKind.i64.wrap ((↑(List.length p.snd.1) : Int) - (1 : Int))).toNat]?.bind fun y =>
 (y.cell (0 : Nat)).bind fun c =>
 (CVal.asInt IntKind.i64 c).bind fun n => some (CVal.int IntKind.i64 n, []))
 none)
 none))
 none)
 none)
theorem eq_i_guardOf (C : CallT) (L : LoopT) (a0 : Int) (a1 : Int) (a2 : Int) (a3 : List CVal) (b : Int) : evF E N C L f_i_guardOf [AVal.v (CVal.agg [CVal.int IntKind.i64 a0, CVal.int IntKind.i64 a1, CVal.int IntKind.i64 a2, CVal.sl a3]),
 AVal.v (CVal.int IntKind.i64 b)] [] = nf_i_guardOf C L a0 a1 a2 a3 b := by kernel_rfl
theorem go_i_guardOf (a0 : Int) (a1 : Int) (a2 : Int) (a3 : List CVal) (b : Int) (R : Ret) (h : nf_i_guardOf CC LL a0 a1 a2 a3 b = some R) : CC f_i_guardOf [AVal.v (CVal.agg [CVal.int IntKind.i64 a0, CVal.int IntKind.i64 a1, CVal.int IntKind.i64 a2, CVal.sl a3]),
 AVal.v (CVal.int IntKind.i64 b)] [] = some R := fnW (by decide) rfl ((eq_i_guardOf CC LL a0 a1 a2 a3 b).trans h)
noncomputable def nf_i_insForm (C : CallT) (L : LoopT) (a : Int) : Option Ret :=
 br (decide (a = (1 : Int))) (some (CVal.tup [CVal.str [(68 : UInt8), (78 : UInt8)], CVal.bool true], []))
 (br (decide (a = (2 : Int))) (some (CVal.tup [CVal.str [(68 : UInt8), (78 : UInt8)], CVal.bool true], []))
 (br (decide (a = (3 : Int))) (some (CVal.tup [CVal.str [(68 : UInt8)], CVal.bool true], []))
 (br (decide (a = (4 : Int))) (some (CVal.tup [CVal.str [(68 : UInt8), (88 : UInt8)], CVal.bool true], []))
 (br (decide (a = (9 : Int))) (some (CVal.tup [CVal.str [(68 : UInt8), (88 : UInt8)], CVal.bool true], []))
 (br (decide (a = (10 : Int))) (some (CVal.tup [CVal.str [(68 : UInt8), (88 : UInt8)], CVal.bool true], []))
 (br (decide (a = (5 : Int)))
 (some (CVal.tup [CVal.str [(68 : UInt8), (88 : UInt8), (89 : UInt8), (78 : UInt8)], CVal.bool true], []))
 (br (decide (a = (6 : Int)))
 (some (CVal.tup [CVal.str [(68 : UInt8), (88 : UInt8), (89 : UInt8)], CVal.bool true], []))
 (br (decide (a = (7 : Int)))
 (some (CVal.tup [CVal.str [(68 : UInt8), (88 : UInt8), (89 : UInt8)], CVal.bool true], []))
 (br (decide (a = (8 : Int)))
 (some (CVal.tup [CVal.str [(68 : UInt8), (78 : UInt8), (76 : UInt8)], CVal.bool true], []))
 (br (decide (a = (11 : Int)))
 (some (CVal.tup [CVal.str [(88 : UInt8), (84 : UInt8)], CVal.bool true], []))
 (br (decide (a = (12 : Int)))
 (some (CVal.tup [CVal.str [(88 : UInt8), (84 : UInt8)], CVal.bool true], []))
 (br (decide (a = (13 : Int))) (some (CVal.tup [CVal.str [(84 : UInt8)], CVal.bool true], []))
 (br (decide (a = (14 : Int)))
 (some
 (CVal.tup
 [CVal.str [(68 : UInt8), (88 : UInt8), (89 : UInt8), (76 : UInt8)], CVal.bool true],
 []))
 (br (decide (a = (15 : Int)))
 (some (CVal.tup [CVal.str [(88 : UInt8)], CVal.bool true], []))
 (br (decide (a = (16 : Int)))
 (some (CVal.tup [CVal.str [(88 : UInt8)], CVal.bool true], []))
 (br (decide (a = (17 : Int)))
 (some (CVal.tup [CVal.str [(68 : UInt8), (84 : UInt8)], CVal.bool true], []))
 (some
 (CVal.tup [CVal.str [], CVal.bool (decide (a = (18 : Int)))], []))))))))))))))))))
theorem eq_i_insForm (C : CallT) (L : LoopT) (a : Int) : evF E N C L f_i_insForm [AVal.v (CVal.int IntKind.i64 a)] [] = nf_i_insForm C L a := by kernel_rfl
theorem go_i_insForm (a : Int) (R : Ret) (h : nf_i_insForm CC LL a = some R) : CC f_i_insForm [AVal.v (CVal.int IntKind.i64 a)] [] = some R := fnW (by decide) rfl ((eq_i_insForm CC LL a).trans h)
noncomputable def nl_s_Reads_0 (C : CallT) (L : LoopT) (x01 : List CVal) (x02 : Int) (x10 : Int) (x11 : Int) (x12 : Int) (x13 : Int) (x14 : Int) (x15 : List CVal) (x16 : Int) : Option (LO k_s_Reads_0.T) :=
 (br (decide (x02 < (↑x15.length : Int))) (some (decide (x10 = (8 : Int)), PUnit.unit)) (some (false, PUnit.unit))).bind
 fun y =>
 br y.1
 (br (decide ((0 : Int) ≤ x02) && true)
 (x15[x02.toNat]?.bind fun y =>
 br (CVal.fits false (1 : Nat) y)
 ((y.cell (0 : Nat)).bind fun c =>
 (C f_s_l10Add [AVal.v (CVal.sl x01), AVal.v c] []).bind fun r =>
 r.1.asSl.bind fun xs =>
 L f_s_Reads (0 : Nat) lc_s_Reads_0 [] k_s_Reads_0
 ((PUnit.unit, xs, IntKind.i64.wrap (x02 + (1 : Int)), PUnit.unit),
 (x10, x11, x12, x13, x14, x15, x16, PUnit.unit), PUnit.unit))
 none)
 none)
 (some
 (LO.out (0 : Nat)
 ((PUnit.unit, x01, x02, PUnit.unit), (x10, x11, x12, x13, x14, x15, x16, PUnit.unit), PUnit.unit)))
theorem el_s_Reads_0 (C : CallT) (L : LoopT) (x01 : List CVal) (x02 : Int) (x10 : Int) (x11 : Int) (x12 : Int) (x13 : Int) (x14 : Int) (x15 : List CVal) (x16 : Int) : evL E N C L f_s_Reads 0 lc_s_Reads_0 [] k_s_Reads_0 (((), x01, x02, ()), (x10, x11, x12, x13, x14, x15, x16, ()), ()) = nl_s_Reads_0 C L x01 x02 x10 x11 x12 x13 x14 x15 x16 := by kernel_rfl
theorem gl_s_Reads_0 (x01 : List CVal) (x02 : Int) (x10 : Int) (x11 : Int) (x12 : Int) (x13 : Int) (x14 : Int) (x15 : List CVal) (x16 : Int) (R : LO k_s_Reads_0.T) (h : nl_s_Reads_0 CC LL x01 x02 x10 x11 x12 x13 x14 x15 x16 = some R) : LL f_s_Reads 0 lc_s_Reads_0 [] k_s_Reads_0 (((), x01, x02, ()), (x10, x11, x12, x13, x14, x15, x16, ()), ()) = some R := loopW ((el_s_Reads_0 CC LL x01 x02 x10 x11 x12 x13 x14 x15 x16).trans h)
noncomputable def nl_l_toIntS_0 (C : CallT) (L : LoopT) (x00 : List CVal) (x02 : Int) (x1 : List CVal) : Option (LO k_l_toIntS_0.T) :=
 br (decide (x02 < (↑x00.length : Int)))
 (br (decide ((0 : Int) ≤ x02) && true)
 (x00[x02.toNat]?.bind fun y =>
 br (CVal.fits false (1 : Nat) y)
 ((y.cell (0 : Nat)).bind fun c =>
 br (decide ((0 : Int) ≤ x02) && true)
 (br (decide (x02.toNat < x1.length) && true)
 (br (c.isFlat && true)
 ((CVal.asInt IntKind.i64 c).bind fun n =>
 x1[x02.toNat]?.bind fun y =>
 br (CVal.fits false (1 : Nat) y)
 (L f_l_toIntS (0 : Nat) lc_l_toIntS_0 [] k_l_toIntS_0
 ((x00, PUnit.unit, IntKind.i64.wrap (x02 + (1 : Int)), PUnit.unit),
 x1.set x02.toNat (CVal.int IntKind.i64 n), PUnit.unit))
 (br (y.isAgg && decide ((1 : Nat) ≤ y.cells.length))
 (L f_l_toIntS (0 : Nat) lc_l_toIntS_0 [] k_l_toIntS_0
 ((x00, PUnit.unit, IntKind.i64.wrap (x02 + (1 : Int)), PUnit.unit),
 x1.set x02.toNat (CVal.agg (CVal.int IntKind.i64 n :: List.drop (1 : Nat) y.cells)),
 PUnit.unit))
 none))
 none)
 none)
 none)
 none)
 none)
 (some (LO.out (0 : Nat) ((x00, PUnit.unit, x02, PUnit.unit), x1, PUnit.unit)))
theorem el_l_toIntS_0 (C : CallT) (L : LoopT) (x00 : List CVal) (x02 : Int) (x1 : List CVal) : evL E N C L f_l_toIntS 0 lc_l_toIntS_0 [] k_l_toIntS_0 ((x00, (), x02, ()), x1, ()) = nl_l_toIntS_0 C L x00 x02 x1 := by kernel_rfl
theorem gl_l_toIntS_0 (x00 : List CVal) (x02 : Int) (x1 : List CVal) (R : LO k_l_toIntS_0.T) (h : nl_l_toIntS_0 CC LL x00 x02 x1 = some R) : LL f_l_toIntS 0 lc_l_toIntS_0 [] k_l_toIntS_0 ((x00, (), x02, ()), x1, ()) = some R := loopW ((el_l_toIntS_0 CC LL x00 x02 x1).trans h)
noncomputable def nl_i_guardOf_0 (C : CallT) (L : LoopT) (x01 : List CVal) (x02 : Int) (x03 : Int) (x1 : List CVal) : Option (LO k_i_guardOf_0.T) :=
 br (decide (x03 < x02))
 (br (decide ((0 : Int) ≤ x03) && true)
 (x01[x03.toNat]?.bind fun y =>
 br (CVal.fits true (7 : Nat) y)
 ((y.sub (0 : Nat) (7 : Nat)).bind fun y =>
 br (CVal.isAggN (7 : Nat) y)
 ((y.cell (0 : Nat)).bind fun c =>
 (y.cell (1 : Nat)).bind fun c_1 =>
 (y.cell (2 : Nat)).bind fun c_2 =>
 (y.cell (3 : Nat)).bind fun c_3 =>
 (y.cell (4 : Nat)).bind fun c_4 =>
 (y.cell (5 : Nat)).bind fun c_5 =>
 (y.cell (6 : Nat)).bind fun c_6 =>
 (CVal.asInt IntKind.i64 c).bind fun n =>
 br (decide (n = (17 : Int)))
 (br (decide (x1.length + (1 : Nat) ≤ (4294967296 : Nat)) && true && true)
 (L f_i_guardOf (0 : Nat) lc_i_guardOf_0 [] k_i_guardOf_0
 ((PUnit.unit, x01, x02, IntKind.i64.wrap (x03 + (1 : Int)), PUnit.unit),
 x1 ++ [CVal.int IntKind.i64 x03], PUnit.unit))
 none)
 ((CVal.asInt IntKind.i64 c).bind fun n =>
 br (decide (n = (18 : Int)))
 (br
 (decide
 ((0 : Int) ≤
 bif
 decide
 ((0 : Int) < IntKind.i64.wrap ((↑x1.length : Int) - (1 : Int))) then
 IntKind.i64.wrap ((↑x1.length : Int) - (1 : Int))
 else (0 : Int)) &&
 decide
 ((bif
 decide
 ((0 : Int) < IntKind.i64.wrap ((↑x1.length : Int) - (1 : Int))) then
 IntKind.i64.wrap ((↑x1.length : Int) - (1 : Int))
 else (0 : Int)) ≤
 (↑x1.length : Int)) &&
 true)
 (L f_i_guardOf (0 : Nat) lc_i_guardOf_0 [] k_i_guardOf_0
 ((PUnit.unit, x01, x02, IntKind.i64.wrap (x03 + (1 : Int)), PUnit.unit),
 List.take
 (bif
 decide
 ((0 : Int) < IntKind.i64.wrap ((↑x1.length : Int) - (1 : Int))) then
 IntKind.i64.wrap ((↑x1.length : Int) - (1 : Int))
 else (0 : Int)).toNat
 x1,
 PUnit.unit))
 none)
 (L f_i_guardOf (0 : Nat) lc_i_guardOf_0 [] k_i_guardOf_0
 ((PUnit.unit, x01, x02, IntKind.i64.wrap (x03 + (1 : Int)), PUnit.unit), x1,
 PUnit.unit))))
 none)
 none)
 none)
 (some (LO.out (0 : Nat) ((PUnit.unit, x01, x02, x03, PUnit.unit), x1, PUnit.unit)))
theorem el_i_guardOf_0 (C : CallT) (L : LoopT) (x01 : List CVal) (x02 : Int) (x03 : Int) (x1 : List CVal) : evL E N C L f_i_guardOf 0 lc_i_guardOf_0 [] k_i_guardOf_0 (((), x01, x02, x03, ()), x1, ()) = nl_i_guardOf_0 C L x01 x02 x03 x1 := by kernel_rfl
theorem gl_i_guardOf_0 (x01 : List CVal) (x02 : Int) (x03 : Int) (x1 : List CVal) (R : LO k_i_guardOf_0.T) (h : nl_i_guardOf_0 CC LL x01 x02 x03 x1 = some R) : LL f_i_guardOf 0 lc_i_guardOf_0 [] k_i_guardOf_0 (((), x01, x02, x03, ()), x1, ()) = some R := loopW ((el_i_guardOf_0 CC LL x01 x02 x03 x1).trans h)
noncomputable def nl_slices_Index_byte_0 (C : CallT) (L : LoopT) (x00 : List CVal) (x01 : Int) (x02 : Int) (x03 : Int) : Option (LO k_slices_Index_byte_0.T) :=
 br (decide (x03 < x02))
 (br (decide ((0 : Int) ≤ x03) && true)
 (x00[x03.toNat]?.bind fun y =>
 br (CVal.fits false (1 : Nat) y)
 ((y.cell (0 : Nat)).bind fun c =>
 (CVal.asInt IntKind.u8 c).bind fun n =>
 br (decide (x01 = n)) (some (LO.ret (CVal.int IntKind.i64 x03, [])))
 (L f_slices_Index_byte (0 : Nat) lc_slices_Index_byte_0 [] k_slices_Index_byte_0
 ((x00, x01, x02, IntKind.i64.wrap (x03 + (1 : Int)), PUnit.unit), PUnit.unit)))
 none)
 none)
 (some (LO.out (0 : Nat) ((x00, x01, x02, x03, PUnit.unit), PUnit.unit)))
theorem el_slices_Index_byte_0 (C : CallT) (L : LoopT) (x00 : List CVal) (x01 : Int) (x02 : Int) (x03 : Int) : evL E N C L f_slices_Index_byte 0 lc_slices_Index_byte_0 [] k_slices_Index_byte_0 ((x00, x01, x02, x03, ()), ()) = nl_slices_Index_byte_0 C L x00 x01 x02 x03 := by kernel_rfl
theorem gl_slices_Index_byte_0 (x00 : List CVal) (x01 : Int) (x02 : Int) (x03 : Int) (R : LO k_slices_Index_byte_0.T) (h : nl_slices_Index_byte_0 CC LL x00 x01 x02 x03 = some R) : LL f_slices_Index_byte 0 lc_slices_Index_byte_0 [] k_slices_Index_byte_0 ((x00, x01, x02, x03, ()), ()) = some R := loopW ((el_slices_Index_byte_0 CC LL x00 x01 x02 x03).trans h)
end Go.Proofs.Ytjndiaahgjhaeaa.Abs
