/- What the functions come to in the abstract machine. -/
import Derived.Test.YtmjjaoffeajcbaaL1Ann
import Derived.KernelRfl
set_option linter.unusedVariables false
set_option maxRecDepth 100000
namespace Go.Proofs.Ytmjjaoffeajcbaa.Abs
open Go Go.Proofs
noncomputable def nf_l_szPiece (C : CallT) (L : LoopT) (a0 : Int) (a1 : Int) (a2 : Int) (a3 : List CVal) (b : Int) : Option Ret :=
 (C f_l_szInsS [AVal.v (CVal.sl a3), AVal.v (CVal.int IntKind.i64 b)] []).bind fun r =>
 (CVal.asInt IntKind.i64 r.1).bind fun n =>
 br (decide (n < (0 : Int))) (some (CVal.int IntKind.i64 (-1 : Int), [])) (some (r.1, []))
theorem eq_l_szPiece (C : CallT) (L : LoopT) (a0 : Int) (a1 : Int) (a2 : Int) (a3 : List CVal) (b : Int) : evF E N C L f_l_szPiece [AVal.v (CVal.agg [CVal.int IntKind.i64 a0, CVal.int IntKind.i64 a1, CVal.int IntKind.i64 a2, CVal.sl a3]),
 AVal.v (CVal.int IntKind.i64 b)] [] = nf_l_szPiece C L a0 a1 a2 a3 b := by kernel_rfl
theorem go_l_szPiece (a0 : Int) (a1 : Int) (a2 : Int) (a3 : List CVal) (b : Int) (R : Ret) (h : nf_l_szPiece CC LL a0 a1 a2 a3 b = some R) : CC f_l_szPiece [AVal.v (CVal.agg [CVal.int IntKind.i64 a0, CVal.int IntKind.i64 a1, CVal.int IntKind.i64 a2, CVal.sl a3]),
 AVal.v (CVal.int IntKind.i64 b)] [] = some R := fnW (by decide) rfl ((eq_l_szPiece CC LL a0 a1 a2 a3 b).trans h)
noncomputable def nf_s_LiveOk (C : CallT) (L : LoopT) (a0 : Int) (a1 : Int) (a2 : Int) (a3 : List CVal) (b : List CVal) : Option Ret :=
 ((C f_s_l9Piece
 [AVal.v (CVal.agg [CVal.int IntKind.i64 a0, CVal.int IntKind.i64 a1, CVal.int IntKind.i64 a2, CVal.sl a3])]
 []).bind
 fun r =>
 r.1.asBool.bind fun b_1 =>
 br (!b_1) (some (true, PUnit.unit)) (some (!decide ((↑b.length : Int) = (↑a3.length : Int)), PUnit.unit))).bind
 fun y =>
 br y.1 (some (CVal.bool false, []))
 ((C f_s_l10New
 [AVal.v (CVal.agg [CVal.int IntKind.i64 a0, CVal.int IntKind.i64 a1, CVal.int IntKind.i64 a2, CVal.sl a3])]
 []).bind
 fun r =>
 r.1.asFp.bind fun y =>
 br (decide (y.2 = (0 : Nat)) && CVal.isAggN (6 : Nat) y.1)
 ((y.1.cell (0 : Nat)).bind fun c =>
 (y.1.cell (1 : Nat)).bind fun c_1 =>
 (y.1.cell (2 : Nat)).bind fun c_2 =>
 (y.1.cell (3 : Nat)).bind fun c_3 =>
 (y.1.cell (4 : Nat)).bind fun c_4 =>
 (y.1.cell (5 : Nat)).bind fun c_5 =>
 c_4.asSl.bind fun xs =>
 (CVal.asInt IntKind.i64 c).bind fun n =>
 (CVal.asInt IntKind.i64 c_1).bind fun n_1 =>
 (CVal.asInt IntKind.i64 c_2).bind fun n_2 =>
 c_3.asSl.bind fun xs_1 =>
 c_5.asBool.bind fun b_1 =>
 (L f_s_LiveOk (0 : Nat) lc_s_LiveOk_0 [] k_s_LiveOk_0
 ((b, PUnit.unit, PUnit.unit, (0 : Int), PUnit.unit),
 (a0, a1, a2, a3, PUnit.unit),
 (n, n_1, n_2, xs_1, PUnit.unit, b_1, PUnit.unit), xs, PUnit.unit)).bind
 fun r =>
 loK r (fun r => some r) fun j p =>
 br (j == (0 : Nat))
 ((L f_s_LiveOk (4 : Nat) lc_s_LiveOk_4 [] k_s_LiveOk_4
 ((PUnit.unit, PUnit.unit, (0 : Int), PUnit.unit),
 (p.snd.fst.1, p.snd.fst.snd.1, p.snd.fst.snd.snd.1,
 p.snd.fst.snd.snd.snd.1, PUnit.unit),
 (p.snd.snd.fst.1, p.snd.snd.fst.snd.1, p.snd.snd.fst.snd.snd.1,
 p.snd.snd.fst.snd.snd.snd.1, PUnit.unit,
 p.snd.snd.fst.snd.snd.snd.snd.snd.1, PUnit.unit),
 p.snd.snd.snd.1, PUnit.unit)).bind
 fun r =>
 loK r (fun r => some r) fun j p =>
 br (j == (4 : Nat))
 (some (CVal.bool !p.snd.snd.fst.snd.snd.snd.snd.snd.1, [])) none)
 none)
 none)
theorem eq_s_LiveOk (C : CallT) (L : LoopT) (a0 : Int) (a1 : Int) (a2 : Int) (a3 : List CVal) (b : List CVal) : evF E N C L f_s_LiveOk [AVal.v (CVal.agg [CVal.int IntKind.i64 a0, CVal.int IntKind.i64 a1, CVal.int IntKind.i64 a2, CVal.sl a3]),
 AVal.v (CVal.sl b)] [] = nf_s_LiveOk C L a0 a1 a2 a3 b := by kernel_rfl
theorem go_s_LiveOk (a0 : Int) (a1 : Int) (a2 : Int) (a3 : List CVal) (b : List CVal) (R : Ret) (h : nf_s_LiveOk CC LL a0 a1 a2 a3 b = some R) : CC f_s_LiveOk [AVal.v (CVal.agg [CVal.int IntKind.i64 a0, CVal.int IntKind.i64 a1, CVal.int IntKind.i64 a2, CVal.sl a3]),
 AVal.v (CVal.sl b)] [] = some R := fnW (by decide) rfl ((eq_s_LiveOk CC LL a0 a1 a2 a3 b).trans h)
noncomputable def nf_s_Live (C : CallT) (L : LoopT) (a0 : Int) (a1 : Int) (a2 : Int) (a3 : List CVal) : Option Ret :=
 (C f_s_l9Piece
 [AVal.v (CVal.agg [CVal.int IntKind.i64 a0, CVal.int IntKind.i64 a1, CVal.int IntKind.i64 a2, CVal.sl a3])]
 []).bind
 fun r =>
 r.1.asBool.bind fun b =>
 br (!b) (some (CVal.sl [], []))
 ((C f_s_l10Solve
 [AVal.v (CVal.agg [CVal.int IntKind.i64 a0, CVal.int IntKind.i64 a1, CVal.int IntKind.i64 a2, CVal.sl a3])]
 []).bind
 fun r =>
 r.1.asFp.bind fun y =>
 (y.1.cell (y.2 + (4 : Nat))).bind fun c => (C f_s_l10Lists [AVal.v c] []).bind fun r => some (r.1, []))
theorem eq_s_Live (C : CallT) (L : LoopT) (a0 : Int) (a1 : Int) (a2 : Int) (a3 : List CVal) : evF E N C L f_s_Live [AVal.v (CVal.agg [CVal.int IntKind.i64 a0, CVal.int IntKind.i64 a1, CVal.int IntKind.i64 a2, CVal.sl a3])] [] = nf_s_Live C L a0 a1 a2 a3 := by kernel_rfl
theorem go_s_Live (a0 : Int) (a1 : Int) (a2 : Int) (a3 : List CVal) (R : Ret) (h : nf_s_Live CC LL a0 a1 a2 a3 = some R) : CC f_s_Live [AVal.v (CVal.agg [CVal.int IntKind.i64 a0, CVal.int IntKind.i64 a1, CVal.int IntKind.i64 a2, CVal.sl a3])] [] = some R := fnW (by decide) rfl ((eq_s_Live CC LL a0 a1 a2 a3).trans h)
noncomputable def nf_l_heldIntSS (C : CallT) (L : LoopT) (a : List CVal) (b : Int) : Option Ret :=
 (L f_l_heldIntSS (0 : Nat) lc_l_heldIntSS_0 [] k_l_heldIntSS_0 ((a, b, (0 : Int), PUnit.unit), PUnit.unit)).bind
 fun r => loK r (fun r => some r) fun j p => br (j == (0 : Nat)) (some (CVal.int IntKind.i64 p.fst.snd.1, [])) none
theorem eq_l_heldIntSS (C : CallT) (L : LoopT) (a : List CVal) (b : Int) : evF E N C L f_l_heldIntSS [AVal.v (CVal.sl a), AVal.v (CVal.int IntKind.i64 b)] [] = nf_l_heldIntSS C L a b := by kernel_rfl
theorem go_l_heldIntSS (a : List CVal) (b : Int) (R : Ret) (h : nf_l_heldIntSS CC LL a b = some R) : CC f_l_heldIntSS [AVal.v (CVal.sl a), AVal.v (CVal.int IntKind.i64 b)] [] = some R := fnW (by decide) rfl ((eq_l_heldIntSS CC LL a b).trans h)
noncomputable def nf_l_toIntS (C : CallT) (L : LoopT) (a : List CVal) : Option Ret :=
 br (decide ((↑a.length : Int) = (↑a.length : Int)) && decide ((↑a.length : Int) ≤ (1048576 : Int)))
 ((L f_l_toIntS (0 : Nat) lc_l_toIntS_0 [] k_l_toIntS_0
 ((a, PUnit.unit, (0 : Int), PUnit.unit),
 List.replicate (↑a.length : Int).toNat (CVal.int IntKind.i64 (0 : Int)), PUnit.unit)).bind
 fun r => loK r (fun r => some r) fun j p => br (j == (0 : Nat)) (some (CVal.sl p.snd.1, [])) none)
 none
theorem eq_l_toIntS (C : CallT) (L : LoopT) (a : List CVal) : evF E N C L f_l_toIntS [AVal.v (CVal.sl a)] [] = nf_l_toIntS C L a := by kernel_rfl
theorem go_l_toIntS (a : List CVal) (R : Ret) (h : nf_l_toIntS CC LL a = some R) : CC f_l_toIntS [AVal.v (CVal.sl a)] [] = some R := fnW (by decide) rfl ((eq_l_toIntS CC LL a).trans h)
noncomputable def nf_s_l10Node (C : CallT) (L : LoopT) (a00 : Int) (a01 : Int) (a02 : Int) (a03 : List CVal) (a1 : List CVal) (a2 : Bool) (b : Int) : Option Ret :=
 br (decide ((0 : Int) ≤ b) && true)
 (a03[b.toNat]?.bind fun y =>
 br (CVal.fits true (7 : Nat) y)
 ((y.sub (0 : Nat) (7 : Nat)).bind fun y =>
 (C f_s_Reads [AVal.v y] []).bind fun r =>
 r.1.asSl.bind fun xs =>
 (L f_s_l10Node (0 : Nat) lc_s_l10Node_0
 [PSh.box [none, none, none, none, some (1 : Nat), none],
 PSh.arr (Md.mk true false (0 : Nat)) true (1 : Nat)]
 k_s_l10Node_0
 ((PUnit.unit, b, xs, (0 : Int), PUnit.unit), (a00, a01, a02, a03, PUnit.unit, a2, PUnit.unit),
 PUnit.unit, a1, PUnit.unit)).bind
 fun r =>
 loK r (fun r => some r) fun j p =>
 br (j == (0 : Nat))
 (br (decide ((0 : Int) ≤ p.fst.snd.1) && true)
 (p.snd.fst.snd.snd.snd.1[Int.toNat p.fst.snd.1]?.bind fun y =>
 br (CVal.fits true (7 : Nat) y)
 ((y.sub (0 : Nat) (7 : Nat)).bind fun y =>
 (C f_s_Writes [AVal.v y] []).bind fun r =>
 (C f_s_l10Normal
 [AVal.v
 (CVal.agg
 [CVal.int IntKind.i64 p.snd.fst.1, CVal.int IntKind.i64 p.snd.fst.snd.1,
 CVal.int IntKind.i64 p.snd.fst.snd.snd.1, CVal.sl p.snd.fst.snd.snd.snd.1]),
 AVal.v (CVal.int IntKind.i64 p.fst.snd.1)]
 []).bind
 fun r_1 =>
 (CVal.asInt IntKind.i64 r.1).bind fun n =>
 r_1.1.asSl.bind fun xs =>
 (L f_s_l10Node (2 : Nat) lc_s_l10Node_2
 [PSh.box [none, none, none, none, some (1 : Nat), none],
 PSh.arr (Md.mk true false (0 : Nat)) true (1 : Nat)]
 k_s_l10Node_2
 ((PUnit.unit, p.fst.snd.1, n, xs, (0 : Int), PUnit.unit),
 (p.snd.fst.1, p.snd.fst.snd.1, p.snd.fst.snd.snd.1, p.snd.fst.snd.snd.snd.1,
 PUnit.unit, p.snd.fst.snd.snd.snd.snd.snd.1, PUnit.unit),
 PUnit.unit, p.snd.snd.snd.1, PUnit.unit)).bind
 fun r =>
 loK r (fun r => some r) fun j p =>
 br (j == (2 : Nat))
 ((C f_s_l10Guard
 [AVal.v
 (CVal.agg
 [CVal.int IntKind.i64 p.snd.fst.1,
 CVal.int IntKind.i64 p.snd.fst.snd.1,
 CVal.int IntKind.i64 p.snd.fst.snd.snd.1,
 CVal.sl p.snd.fst.snd.snd.snd.1]),
 AVal.v (CVal.int IntKind.i64 p.fst.snd.1)]
 []).bind
 fun r =>
 ((CVal.asInt IntKind.i64 r.1).bind fun n =>
 br (decide ((0 : Int) ≤ n))
 (br (decide ((0 : Int) ≤ p.fst.snd.1) && true)
 (p.snd.fst.snd.snd.snd.1[Int.toNat p.fst.snd.1]?.bind fun y =>
 br (CVal.fits true (7 : Nat) y)
 ((y.cell (0 : Nat)).bind fun c =>
 (C f_s_l10May [AVal.v c] []).bind fun r =>
 (bif true then r.1 else CVal.bool false).asBool.bind
 fun b => some (b, PUnit.unit))
 none)
 none)
 (some (false, PUnit.unit))).bind
 fun y =>
 br y.1
 (r.1.asIdx.bind fun y =>
 br (decide ((0 : Int) ≤ y) && true)
 (p.snd.fst.snd.snd.snd.1[y.toNat]?.bind fun y =>
 br (CVal.fits true (7 : Nat) y)
 ((y.cell (6 : Nat)).bind fun c =>
 r.1.asIdx.bind fun y =>
 br (decide ((0 : Int) ≤ y) && true)
 (p.snd.fst.snd.snd.snd.1[y.toNat]?.bind fun y =>
 br (CVal.fits true (7 : Nat) y)
 ((y.cell (1 : Nat)).bind fun c_1 =>
 (C f_s_l10From
 [AVal.lptr (0 : Nat) (0 : Nat),
 AVal.v (CVal.int IntKind.i64 p.fst.snd.1),
 AVal.v c, AVal.v c_1]
 [PB.box
 [AVal.v (CVal.int IntKind.i64 p.snd.fst.1),
 AVal.v
 (CVal.int IntKind.i64 p.snd.fst.snd.1),
 AVal.v
 (CVal.int IntKind.i64
 p.snd.fst.snd.snd.1),
 AVal.v (CVal.sl p.snd.fst.snd.snd.snd.1),
 AVal.lref (1 : Nat) (0 : Nat),
 AVal.v
 (CVal.bool
 p.snd.fst.snd.snd.snd.snd.snd.1)],
 PB.arr (Md.mk true false (0 : Nat)) true
 (1 : Nat) p.snd.snd.snd.1]).bind
 fun r =>
 r.2[(0 : Nat)]?.bind fun y =>
 r.2[(1 : Nat)]?.bind fun y_1 =>
 y[(0 : Nat)]?.bind fun y_2 =>
 y[(1 : Nat)]?.bind fun y_3 =>
 y[(2 : Nat)]?.bind fun y_4 =>
 y[(3 : Nat)]?.bind fun y_5 =>
 y[(4 : Nat)]?.bind fun y_6 =>
 y[(5 : Nat)]?.bind fun y =>
 y_6.asSl.bind fun xs =>
 some
 (CVal.tup [],
 [[y_2, y_3, y_4, y_5,
 CVal.sl xs, y],
 []]))
 none)
 none)
 none)
 none)
 (some
 (CVal.tup [],
 [[CVal.int IntKind.i64 p.snd.fst.1,
 CVal.int IntKind.i64 p.snd.fst.snd.1,
 CVal.int IntKind.i64 p.snd.fst.snd.snd.1,
 CVal.sl p.snd.fst.snd.snd.snd.1, CVal.sl p.snd.snd.snd.1,
 CVal.bool p.snd.fst.snd.snd.snd.snd.snd.1],
 []])))
 none)
 none)
 none)
 none)
 none)
 none
theorem eq_s_l10Node (C : CallT) (L : LoopT) (a00 : Int) (a01 : Int) (a02 : Int) (a03 : List CVal) (a1 : List CVal) (a2 : Bool) (b : Int) : evF E N C L f_s_l10Node [AVal.lptr (0 : Nat) (0 : Nat), AVal.v (CVal.int IntKind.i64 b)] [PB.box
 [AVal.v (CVal.int IntKind.i64 a00), AVal.v (CVal.int IntKind.i64 a01), AVal.v (CVal.int IntKind.i64 a02),
 AVal.v (CVal.sl a03), AVal.lref (1 : Nat) (0 : Nat), AVal.v (CVal.bool a2)],
 PB.arr (Md.mk true false (0 : Nat)) true (1 : Nat) a1] = nf_s_l10Node C L a00 a01 a02 a03 a1 a2 b := by kernel_rfl
theorem go_s_l10Node (a00 : Int) (a01 : Int) (a02 : Int) (a03 : List CVal) (a1 : List CVal) (a2 : Bool) (b : Int) (R : Ret) (h : nf_s_l10Node CC LL a00 a01 a02 a03 a1 a2 b = some R) : CC f_s_l10Node [AVal.lptr (0 : Nat) (0 : Nat), AVal.v (CVal.int IntKind.i64 b)] [PB.box
 [AVal.v (CVal.int IntKind.i64 a00), AVal.v (CVal.int IntKind.i64 a01), AVal.v (CVal.int IntKind.i64 a02),
 AVal.v (CVal.sl a03), AVal.lref (1 : Nat) (0 : Nat), AVal.v (CVal.bool a2)],
 PB.arr (Md.mk true false (0 : Nat)) true (1 : Nat) a1] = some R := fnW (by decide) rfl ((eq_s_l10Node CC LL a00 a01 a02 a03 a1 a2 b).trans h)
noncomputable def nf_l_eqInsS (C : CallT) (L : LoopT) (a : List CVal) (b : List CVal) : Option Ret :=
 br (!decide ((↑a.length : Int) = (↑b.length : Int))) (some (CVal.bool false, []))
 ((L f_l_eqInsS (0 : Nat) lc_l_eqInsS_0 [] k_l_eqInsS_0 ((a, b, (0 : Int), PUnit.unit), PUnit.unit)).bind fun r =>
 loK r (fun r => some r) fun j p => br (j == (0 : Nat)) (some (CVal.bool true, [])) none)
theorem eq_l_eqInsS (C : CallT) (L : LoopT) (a : List CVal) (b : List CVal) : evF E N C L f_l_eqInsS [AVal.v (CVal.sl a), AVal.v (CVal.sl b)] [] = nf_l_eqInsS C L a b := by kernel_rfl
theorem go_l_eqInsS (a : List CVal) (b : List CVal) (R : Ret) (h : nf_l_eqInsS CC LL a b = some R) : CC f_l_eqInsS [AVal.v (CVal.sl a), AVal.v (CVal.sl b)] [] = some R := fnW (by decide) rfl ((eq_l_eqInsS CC LL a b).trans h)
noncomputable def nf_i_liveSets (C : CallT) (L : LoopT) (a0 : Int) (a1 : Int) (a2 : Int) (a3 : List CVal) : Option Ret :=
 (L f_i_liveSets (0 : Nat) lc_i_liveSets_0 [] k_i_liveSets_0
 (((CVal.agg [CVal.int IntKind.i64 a0, CVal.int IntKind.i64 a1, CVal.int IntKind.i64 a2, CVal.sl a3]).fp (0 : Nat),
 PUnit.unit, (↑a3.length : Int), (0 : Int), PUnit.unit),
 [], PUnit.unit)).bind
 fun r =>
 loK r (fun r => some r) fun j p =>
 br (j == (0 : Nat))
 ((L f_i_liveSets (2 : Nat) lc_i_liveSets_2 [] k_i_liveSets_2
 ((p.fst.1, PUnit.unit, true, PUnit.unit), p.snd.1, PUnit.unit)).bind
 fun r => loK r (fun r => some r) fun j p => br (j == (2 : Nat)) (some (CVal.sl p.snd.1, [])) none)
 none
theorem eq_i_liveSets (C : CallT) (L : LoopT) (a0 : Int) (a1 : Int) (a2 : Int) (a3 : List CVal) : evF E N C L f_i_liveSets [AVal.v (CVal.agg [CVal.int IntKind.i64 a0, CVal.int IntKind.i64 a1, CVal.int IntKind.i64 a2, CVal.sl a3])] [] = nf_i_liveSets C L a0 a1 a2 a3 := by kernel_rfl
theorem go_i_liveSets (a0 : Int) (a1 : Int) (a2 : Int) (a3 : List CVal) (R : Ret) (h : nf_i_liveSets CC LL a0 a1 a2 a3 = some R) : CC f_i_liveSets [AVal.v (CVal.agg [CVal.int IntKind.i64 a0, CVal.int IntKind.i64 a1, CVal.int IntKind.i64 a2, CVal.sl a3])] [] = some R := fnW (by decide) rfl ((eq_i_liveSets CC LL a0 a1 a2 a3).trans h)
noncomputable def nf_l_heldIntS (C : CallT) (L : LoopT) (a : List CVal) (b : Int) : Option Ret :=
 (L f_l_heldIntS (0 : Nat) lc_l_heldIntS_0 [] k_l_heldIntS_0 ((a, b, (0 : Int), PUnit.unit), PUnit.unit)).bind fun r =>
 loK r (fun r => some r) fun j p => br (j == (0 : Nat)) (some (CVal.int IntKind.i64 p.fst.snd.1, [])) none
theorem eq_l_heldIntS (C : CallT) (L : LoopT) (a : List CVal) (b : Int) : evF E N C L f_l_heldIntS [AVal.v (CVal.sl a), AVal.v (CVal.int IntKind.i64 b)] [] = nf_l_heldIntS C L a b := by kernel_rfl
theorem go_l_heldIntS (a : List CVal) (b : Int) (R : Ret) (h : nf_l_heldIntS CC LL a b = some R) : CC f_l_heldIntS [AVal.v (CVal.sl a), AVal.v (CVal.int IntKind.i64 b)] [] = some R := fnW (by decide) rfl ((eq_l_heldIntS CC LL a b).trans h)
noncomputable def nf_s_Reads (C : CallT) (L : LoopT) (a0 : Int) (a1 : Int) (a2 : Int) (a3 : Int) (a4 : Int) (a5 : List CVal) (a6 : Int) : Option Ret :=
 (C f_s_l9Uses [AVal.v (CVal.int IntKind.i64 a0)] []).bind fun r =>
 br (CVal.isAggN (4 : Nat) r.1)
 ((r.1.cell (0 : Nat)).bind fun c =>
 (r.1.cell (1 : Nat)).bind fun c =>
 (r.1.cell (2 : Nat)).bind fun c_1 =>
 (r.1.cell (3 : Nat)).bind fun c_2 =>
 c.asBool.bind fun b =>
 br b
 ((C f_s_l10Add [AVal.v (CVal.sl []), AVal.v (CVal.int IntKind.i64 a2)] []).bind fun r =>
 c_1.asBool.bind fun b =>
 br b
 ((C f_s_l10Add [AVal.v r.1, AVal.v (CVal.int IntKind.i64 a3)] []).bind fun r =>
 r.1.asSl.bind fun xs =>
 (L f_s_Reads (0 : Nat) lc_s_Reads_0 [] k_s_Reads_0
 ((PUnit.unit, xs, (0 : Int), PUnit.unit), (a0, a1, a2, a3, a4, a5, a6, PUnit.unit),
 PUnit.unit)).bind
 fun r =>
 loK r (fun r => some r) fun j p =>
 br (j == (0 : Nat)) (some (CVal.sl p.fst.snd.1, [])) none)
 (r.1.asSl.bind fun xs =>
 (L f_s_Reads (0 : Nat) lc_s_Reads_0 [] k_s_Reads_0
 ((PUnit.unit, xs, (0 : Int), PUnit.unit), (a0, a1, a2, a3, a4, a5, a6, PUnit.unit),
 PUnit.unit)).bind
 fun r =>
 loK r (fun r => some r) fun j p => br (j == (0 : Nat)) (some (CVal.sl p.fst.snd.1, [])) none))
 (c_1.asBool.bind fun b =>
 br b
 ((C f_s_l10Add [AVal.v (CVal.sl []), AVal.v (CVal.int IntKind.i64 a3)] []).bind fun r =>
 r.1.asSl.bind fun xs =>
 (L f_s_Reads (0 : Nat) lc_s_Reads_0 [] k_s_Reads_0
 ((PUnit.unit, xs, (0 : Int), PUnit.unit), (a0, a1, a2, a3, a4, a5, a6, PUnit.unit),
 PUnit.unit)).bind
 fun r =>
 loK r (fun r => some r) fun j p => br (j == (0 : Nat)) (some (CVal.sl p.fst.snd.1, [])) none)
 ((L f_s_Reads (0 : Nat) lc_s_Reads_0 [] k_s_Reads_0
 ((PUnit.unit, [], (0 : Int), PUnit.unit), (a0, a1, a2, a3, a4, a5, a6, PUnit.unit),
 PUnit.unit)).bind
 fun r =>
 loK r (fun r => some r) fun j p => br (j == (0 : Nat)) (some (CVal.sl p.fst.snd.1, [])) none)))
 none
theorem eq_s_Reads (C : CallT) (L : LoopT) (a0 : Int) (a1 : Int) (a2 : Int) (a3 : Int) (a4 : Int) (a5 : List CVal) (a6 : Int) : evF E N C L f_s_Reads [AVal.v
 (CVal.agg
 [CVal.int IntKind.i64 a0, CVal.int IntKind.i64 a1, CVal.int IntKind.i64 a2, CVal.int IntKind.i64 a3,
 CVal.int IntKind.i64 a4, CVal.sl a5, CVal.int IntKind.i64 a6])] [] = nf_s_Reads C L a0 a1 a2 a3 a4 a5 a6 := by kernel_rfl
theorem go_s_Reads (a0 : Int) (a1 : Int) (a2 : Int) (a3 : Int) (a4 : Int) (a5 : List CVal) (a6 : Int) (R : Ret) (h : nf_s_Reads CC LL a0 a1 a2 a3 a4 a5 a6 = some R) : CC f_s_Reads [AVal.v
 (CVal.agg
 [CVal.int IntKind.i64 a0, CVal.int IntKind.i64 a1, CVal.int IntKind.i64 a2, CVal.int IntKind.i64 a3,
 CVal.int IntKind.i64 a4, CVal.sl a5, CVal.int IntKind.i64 a6])] [] = some R := fnW (by decide) rfl ((eq_s_Reads CC LL a0 a1 a2 a3 a4 a5 a6).trans h)
noncomputable def nf_s_l10From (C : CallT) (L : LoopT) (a00 : Int) (a01 : Int) (a02 : Int) (a03 : List CVal) (a1 : List CVal) (a2 : Bool) (b : Int) (c : Int) (d : Int) : Option Ret :=
 (L f_s_l10From (0 : Nat) lc_s_l10From_0
 [PSh.box [none, none, none, none, some (1 : Nat), none], PSh.arr (Md.mk true false (0 : Nat)) true (1 : Nat)]
 k_s_l10From_0
 ((PUnit.unit, b, c, d, (0 : Int), PUnit.unit), (a00, a01, a02, a03, PUnit.unit, a2, PUnit.unit), PUnit.unit, a1,
 PUnit.unit)).bind
 fun r =>
 loK r (fun r => some r) fun j p =>
 br (j == (0 : Nat))
 (some
 (CVal.tup [],
 [[CVal.int IntKind.i64 p.snd.fst.1, CVal.int IntKind.i64 p.snd.fst.snd.1,
 CVal.int IntKind.i64 p.snd.fst.snd.snd.1, CVal.sl p.snd.fst.snd.snd.snd.1, CVal.sl p.snd.snd.snd.1,
 CVal.bool p.snd.fst.snd.snd.snd.snd.snd.1],
 []]))
 none
theorem eq_s_l10From (C : CallT) (L : LoopT) (a00 : Int) (a01 : Int) (a02 : Int) (a03 : List CVal) (a1 : List CVal) (a2 : Bool) (b : Int) (c : Int) (d : Int) : evF E N C L f_s_l10From [AVal.lptr (0 : Nat) (0 : Nat), AVal.v (CVal.int IntKind.i64 b), AVal.v (CVal.int IntKind.i64 c),
 AVal.v (CVal.int IntKind.i64 d)] [PB.box
 [AVal.v (CVal.int IntKind.i64 a00), AVal.v (CVal.int IntKind.i64 a01), AVal.v (CVal.int IntKind.i64 a02),
 AVal.v (CVal.sl a03), AVal.lref (1 : Nat) (0 : Nat), AVal.v (CVal.bool a2)],
 PB.arr (Md.mk true false (0 : Nat)) true (1 : Nat) a1] = nf_s_l10From C L a00 a01 a02 a03 a1 a2 b c d := by kernel_rfl
theorem go_s_l10From (a00 : Int) (a01 : Int) (a02 : Int) (a03 : List CVal) (a1 : List CVal) (a2 : Bool) (b : Int) (c : Int) (d : Int) (R : Ret) (h : nf_s_l10From CC LL a00 a01 a02 a03 a1 a2 b c d = some R) : CC f_s_l10From [AVal.lptr (0 : Nat) (0 : Nat), AVal.v (CVal.int IntKind.i64 b), AVal.v (CVal.int IntKind.i64 c),
 AVal.v (CVal.int IntKind.i64 d)] [PB.box
 [AVal.v (CVal.int IntKind.i64 a00), AVal.v (CVal.int IntKind.i64 a01), AVal.v (CVal.int IntKind.i64 a02),
 AVal.v (CVal.sl a03), AVal.lref (1 : Nat) (0 : Nat), AVal.v (CVal.bool a2)],
 PB.arr (Md.mk true false (0 : Nat)) true (1 : Nat) a1] = some R := fnW (by decide) rfl ((eq_s_l10From CC LL a00 a01 a02 a03 a1 a2 b c d).trans h)
noncomputable def nf_slices_ContainsFunc_Ins (C : CallT) (L : LoopT) (a : List CVal) (b : CVal) : Option Ret :=
 (C f_slices_IndexFunc_Ins [AVal.v (CVal.sl a), AVal.v b] []).bind fun r =>
 (CVal.asInt IntKind.i64 r.1).bind fun n => some (CVal.bool (decide ((0 : Int) ≤ n)), [])
theorem eq_slices_ContainsFunc_Ins (C : CallT) (L : LoopT) (a : List CVal) (b : CVal) : evF E N C L f_slices_ContainsFunc_Ins [AVal.v (CVal.sl a), AVal.v b] [] = nf_slices_ContainsFunc_Ins C L a b := by kernel_rfl
theorem go_slices_ContainsFunc_Ins (a : List CVal) (b : CVal) (R : Ret) (h : nf_slices_ContainsFunc_Ins CC LL a b = some R) : CC f_slices_ContainsFunc_Ins [AVal.v (CVal.sl a), AVal.v b] [] = some R := fnW (by decide) rfl ((eq_slices_ContainsFunc_Ins CC LL a b).trans h)
noncomputable def nf_i_guardOf (C : CallT) (L : LoopT) (a0 : Int) (a1 : Int) (a2 : Int) (a3 : List CVal) (b : Int) : Option Ret :=
 (C f_i_in
 [AVal.v (CVal.int IntKind.i64 b), AVal.v (CVal.int IntKind.i64 (0 : Int)),
 AVal.v (CVal.int IntKind.i64 (IntKind.i64.wrap ((↑a3.length : Int) - (1 : Int))))]
 []).bind
 fun r =>
 r.1.asBool.bind fun b_1 =>
 br (!b_1) (some (CVal.int IntKind.i64 (-1 : Int), []))
 (br (decide ((0 : Int) ≤ b) && decide (b ≤ (↑a3.length : Int)) && a3.all (CVal.fits true (7 : Nat)))
 ((L f_i_guardOf (0 : Nat) lc_i_guardOf_0 [] k_i_guardOf_0
 ((PUnit.unit, List.drop (0 : Nat) (List.take b.toNat a3),
 (↑(List.drop (0 : Nat) (List.take b.toNat a3)).length : Int), (0 : Int), PUnit.unit),
 [], PUnit.unit)).bind
 fun r =>
 loK r (fun r => some r) fun j p =>
 br (j == (0 : Nat))
 (br (decide ((↑(List.length p.snd.1) : Int) = (0 : Int))) (some (CVal.int IntKind.i64 (-1 : Int), []))
 (br (decide ((0 : Int) ≤ IntKind.i64.wrap ((↑(List.length p.snd.1) : Int) - (1 : Int))) && true)
 (br
 (decide
 ((IntKind.i64.wrap ((↑(List.length p.snd.1) : Int) - (1 : Int))).toNat < List.length p.snd.1) &&
 true)
 (p.snd.1[(IntKind.i64.wrap ((↑(List.length p.snd.1) : Int) - (1 : Int))).toNat]?.bind fun y =>
 (y.cell (0 : Nat)).bind fun c =>
 (CVal.asInt IntKind.i64 c).bind fun n => some (CVal.int IntKind.i64 n, []))
 none)
 none))
 none)
 none)
theorem eq_i_guardOf (C : CallT) (L : LoopT) (a0 : Int) (a1 : Int) (a2 : Int) (a3 : List CVal) (b : Int) : evF E N C L f_i_guardOf [AVal.v (CVal.agg [CVal.int IntKind.i64 a0, CVal.int IntKind.i64 a1, CVal.int IntKind.i64 a2, CVal.sl a3]),
 AVal.v (CVal.int IntKind.i64 b)] [] = nf_i_guardOf C L a0 a1 a2 a3 b := by kernel_rfl
theorem go_i_guardOf (a0 : Int) (a1 : Int) (a2 : Int) (a3 : List CVal) (b : Int) (R : Ret) (h : nf_i_guardOf CC LL a0 a1 a2 a3 b = some R) : CC f_i_guardOf [AVal.v (CVal.agg [CVal.int IntKind.i64 a0, CVal.int IntKind.i64 a1, CVal.int IntKind.i64 a2, CVal.sl a3]),
 AVal.v (CVal.int IntKind.i64 b)] [] = some R := fnW (by decide) rfl ((eq_i_guardOf CC LL a0 a1 a2 a3 b).trans h)
noncomputable def nf_l_eqIns (C : CallT) (L : LoopT) (a0 : Int) (a1 : Int) (a2 : Int) (a3 : Int) (a4 : Int) (a5 : List CVal) (a6 : Int) (b0 : Int) (b1 : Int) (b2 : Int) (b3 : Int) (b4 : Int) (b5 : List CVal) (b6 : Int) : Option Ret :=
 br (!decide (a0 = b0)) (some (CVal.bool false, []))
 (br (!decide (a1 = b1)) (some (CVal.bool false, []))
 (br (!decide (a2 = b2)) (some (CVal.bool false, []))
 (br (!decide (a3 = b3)) (some (CVal.bool false, []))
 (br (!decide (a4 = b4)) (some (CVal.bool false, []))
 ((C f_l_eqIntS [AVal.v (CVal.sl a5), AVal.v (CVal.sl b5)] []).bind fun r =>
 r.1.asBool.bind fun b =>
 br (!b) (some (CVal.bool false, []))
 (br (!decide (a6 = b6)) (some (CVal.bool false, [])) (some (CVal.bool true, []))))))))
theorem eq_l_eqIns (C : CallT) (L : LoopT) (a0 : Int) (a1 : Int) (a2 : Int) (a3 : Int) (a4 : Int) (a5 : List CVal) (a6 : Int) (b0 : Int) (b1 : Int) (b2 : Int) (b3 : Int) (b4 : Int) (b5 : List CVal) (b6 : Int) : evF E N C L f_l_eqIns [AVal.v
 (CVal.agg
 [CVal.int IntKind.i64 a0, CVal.int IntKind.i64 a1, CVal.int IntKind.i64 a2, CVal.int IntKind.i64 a3,
 CVal.int IntKind.i64 a4, CVal.sl a5, CVal.int IntKind.i64 a6]),
 AVal.v
 (CVal.agg
 [CVal.int IntKind.i64 b0, CVal.int IntKind.i64 b1, CVal.int IntKind.i64 b2, CVal.int IntKind.i64 b3,
 CVal.int IntKind.i64 b4, CVal.sl b5, CVal.int IntKind.i64 b6])] [] = nf_l_eqIns C L a0 a1 a2 a3 a4 a5 a6 b0 b1 b2 b3 b4 b5 b6 := by kernel_rfl
theorem go_l_eqIns (a0 : Int) (a1 : Int) (a2 : Int) (a3 : Int) (a4 : Int) (a5 : List CVal) (a6 : Int) (b0 : Int) (b1 : Int) (b2 : Int) (b3 : Int) (b4 : Int) (b5 : List CVal) (b6 : Int) (R : Ret) (h : nf_l_eqIns CC LL a0 a1 a2 a3 a4 a5 a6 b0 b1 b2 b3 b4 b5 b6 = some R) : CC f_l_eqIns [AVal.v
 (CVal.agg
 [CVal.int IntKind.i64 a0, CVal.int IntKind.i64 a1, CVal.int IntKind.i64 a2, CVal.int IntKind.i64 a3,
 CVal.int IntKind.i64 a4, CVal.sl a5, CVal.int IntKind.i64 a6]),
 AVal.v
 (CVal.agg
 [CVal.int IntKind.i64 b0, CVal.int IntKind.i64 b1, CVal.int IntKind.i64 b2, CVal.int IntKind.i64 b3,
 CVal.int IntKind.i64 b4, CVal.sl b5, CVal.int IntKind.i64 b6])] [] = some R := fnW (by decide) rfl ((eq_l_eqIns CC LL a0 a1 a2 a3 a4 a5 a6 b0 b1 b2 b3 b4 b5 b6).trans h)
noncomputable def nf_s_l10Add (C : CallT) (L : LoopT) (a : List CVal) (b : Int) : Option Ret :=
 (L f_s_l10Add (0 : Nat) lc_s_l10Add_0 [] k_s_l10Add_0
 ((a, b, PUnit.unit, false, (0 : Int), PUnit.unit), [], PUnit.unit)).bind
 fun r =>
 loK r (fun r => some r) fun j p =>
 br (j == (0 : Nat))
 (br (!p.fst.snd.snd.snd.1)
 (br (decide (List.length p.snd.1 + (1 : Nat) ≤ (4294967296 : Nat)) && true && true)
 (some (CVal.sl (p.snd.1 ++ [CVal.int IntKind.i64 p.fst.snd.1]), [])) none)
 (some (CVal.sl p.snd.1, [])))
 none
theorem eq_s_l10Add (C : CallT) (L : LoopT) (a : List CVal) (b : Int) : evF E N C L f_s_l10Add [AVal.v (CVal.sl a), AVal.v (CVal.int IntKind.i64 b)] [] = nf_s_l10Add C L a b := by kernel_rfl
theorem go_s_l10Add (a : List CVal) (b : Int) (R : Ret) (h : nf_s_l10Add CC LL a b = some R) : CC f_s_l10Add [AVal.v (CVal.sl a), AVal.v (CVal.int IntKind.i64 b)] [] = some R := fnW (by decide) rfl ((eq_s_l10Add CC LL a b).trans h)
noncomputable def nf_i_insForm (C : CallT) (L : LoopT) (a : Int) : Option Ret :=
 br (decide (a = (1 : Int))) (some (CVal.tup [CVal.str [(68 : UInt8), (78 : UInt8)], CVal.bool true], []))
 (br (decide (a = (2 : Int))) (some (CVal.tup [CVal.str [(68 : UInt8), (78 : UInt8)], CVal.bool true], []))
 (br (decide (a = (3 : Int))) (some (CVal.tup [CVal.str [(68 : UInt8)], CVal.bool true], []))
 (br (decide (a = (4 : Int))) (some (CVal.tup [CVal.str [(68 : UInt8), (88 : UInt8)], CVal.bool true], []))
 (br (decide (a = (9 : Int))) (some (CVal.tup [CVal.str [(68 : UInt8), (88 : UInt8)], CVal.bool true], []))
 (br (decide (a = (10 : Int))) (some (CVal.tup [CVal.str [(68 : UInt8), (88 : UInt8)], CVal.bool true], []))
 (br (decide (a = (5 : Int)))
 (some (CVal.tup [CVal.str [(68 : UInt8), (88 : UInt8), (89 : UInt8), (78 : UInt8)], CVal.bool true], []))
 (br (decide (a = (6 : Int)))
 (some (CVal.tup [CVal.str [(68 : UInt8), (88 : UInt8), (89 : UInt8)], CVal.bool true], []))
 (br (decide (a = (7 : Int)))
 (some (CVal.tup [CVal.str [(68 : UInt8), (88 : UInt8), (89 : UInt8)], CVal.bool true], []))
 (br (decide (a = (8 : Int)))
 (some (CVal.tup [CVal.str [(68 : UInt8), (78 : UInt8), (76 : UInt8)], CVal.bool true], []))
 (br (decide (a = (11 : Int)))
 (some (CVal.tup [CVal.str [(88 : UInt8), (84 : UInt8)], CVal.bool true], []))
 (br (decide (a = (12 : Int)))
 (some (CVal.tup [CVal.str [(88 : UInt8), (84 : UInt8)], CVal.bool true], []))
 (br (decide (a = (13 : Int))) (some (CVal.tup [CVal.str [(84 : UInt8)], CVal.bool true], []))
 (br (decide (a = (14 : Int)))
 (some
 (CVal.tup
 [CVal.str [(68 : UInt8), (88 : UInt8), (89 : UInt8), (76 : UInt8)], CVal.bool true],
 []))
 (br (decide (a = (15 : Int)))
 (some (CVal.tup [CVal.str [(88 : UInt8)], CVal.bool true], []))
 (br (decide (a = (16 : Int)))
 (some (CVal.tup [CVal.str [(88 : UInt8)], CVal.bool true], []))
 (br (decide (a = (17 : Int)))
 (some (CVal.tup [CVal.str [(68 : UInt8), (84 : UInt8)], CVal.bool true], []))
 (some
 (CVal.tup [CVal.str [], CVal.bool (decide (a = (18 : Int)))], []))))))))))))))))))
theorem eq_i_insForm (C : CallT) (L : LoopT) (a : Int) : evF E N C L f_i_insForm [AVal.v (CVal.int IntKind.i64 a)] [] = nf_i_insForm C L a := by kernel_rfl
theorem go_i_insForm (a : Int) (R : Ret) (h : nf_i_insForm CC LL a = some R) : CC f_i_insForm [AVal.v (CVal.int IntKind.i64 a)] [] = some R := fnW (by decide) rfl ((eq_i_insForm CC LL a).trans h)
noncomputable def nf_i_insOk_1 (C : CallT) (L : LoopT) (a : Int) (b0 : Int) (b1 : Int) (b2 : Int) (b3 : List CVal) : Option Ret :=
 (C f_i_in
 [AVal.v (CVal.int IntKind.i64 a), AVal.v (CVal.int IntKind.i64 (0 : Int)),
 AVal.v (CVal.int IntKind.i64 (IntKind.i64.wrap (b2 - (1 : Int))))]
 []).bind
 fun r => r.1.asBool.bind fun b => some (CVal.bool !b, [])
theorem eq_i_insOk_1 (C : CallT) (L : LoopT) (a : Int) (b0 : Int) (b1 : Int) (b2 : Int) (b3 : List CVal) : evF E N C L f_i_insOk_1 [AVal.v (CVal.int IntKind.i64 a),
 AVal.v
 ((CVal.agg [CVal.int IntKind.i64 b0, CVal.int IntKind.i64 b1, CVal.int IntKind.i64 b2, CVal.sl b3]).fp (0 : Nat))] [] = nf_i_insOk_1 C L a b0 b1 b2 b3 := by kernel_rfl
theorem go_i_insOk_1 (a : Int) (b0 : Int) (b1 : Int) (b2 : Int) (b3 : List CVal) (R : Ret) (h : nf_i_insOk_1 CC LL a b0 b1 b2 b3 = some R) : CC f_i_insOk_1 [AVal.v (CVal.int IntKind.i64 a),
 AVal.v
 ((CVal.agg [CVal.int IntKind.i64 b0, CVal.int IntKind.i64 b1, CVal.int IntKind.i64 b2, CVal.sl b3]).fp (0 : Nat))] [] = some R := fnW (by decide) rfl ((eq_i_insOk_1 CC LL a b0 b1 b2 b3).trans h)
noncomputable def nl_l_szIntSS_0 (C : CallT) (L : LoopT) (x00 : List CVal) (x01 : Int) (x02 : Int) : Option (LO k_l_szIntSS_0.T) :=
 br (decide (x02 < (↑x00.length : Int)))
 (br (decide ((0 : Int) ≤ x02) && true)
 (x00[x02.toNat]?.bind fun y =>
 br (CVal.fits false (1 : Nat) y)
 ((y.cell (0 : Nat)).bind fun c =>
 (C f_l_szIntS [AVal.v c, AVal.v (CVal.int IntKind.i64 x01)] []).bind fun r =>
 (CVal.asInt IntKind.i64 r.1).bind fun n =>
 br (decide (n < (0 : Int))) (some (LO.ret (CVal.int IntKind.i64 (-1 : Int), [])))
 ((CVal.asInt IntKind.i64 r.1).bind fun n =>
 L f_l_szIntSS (0 : Nat) lc_l_szIntSS_0 [] k_l_szIntSS_0
 ((x00, n, IntKind.i64.wrap (x02 + (1 : Int)), PUnit.unit), PUnit.unit)))
 none)
 none)
 (some (LO.out (0 : Nat) ((x00, x01, x02, PUnit.unit), PUnit.unit)))
theorem el_l_szIntSS_0 (C : CallT) (L : LoopT) (x00 : List CVal) (x01 : Int) (x02 : Int) : evL E N C L f_l_szIntSS 0 lc_l_szIntSS_0 [] k_l_szIntSS_0 ((x00, x01, x02, ()), ()) = nl_l_szIntSS_0 C L x00 x01 x02 := by kernel_rfl
theorem gl_l_szIntSS_0 (x00 : List CVal) (x01 : Int) (x02 : Int) (R : LO k_l_szIntSS_0.T) (h : nl_l_szIntSS_0 CC LL x00 x01 x02 = some R) : LL f_l_szIntSS 0 lc_l_szIntSS_0 [] k_l_szIntSS_0 ((x00, x01, x02, ()), ()) = some R := loopW ((el_l_szIntSS_0 CC LL x00 x01 x02).trans h)
noncomputable def nl_s_LiveOk_0 (C : CallT) (L : LoopT) (x00 : List CVal) (x03 : Int) (x10 : Int) (x11 : Int) (x12 : Int) (x13 : List CVal) (x20 : Int) (x21 : Int) (x22 : Int) (x23 : List CVal) (x25 : Bool) (x3 : List CVal) : Option (LO k_s_LiveOk_0.T) :=
 br (decide (x03 < (↑x00.length : Int)))
 ((L f_s_LiveOk (2 : Nat) lc_s_LiveOk_2 [] k_s_LiveOk_2
 ((x00, PUnit.unit, PUnit.unit, x03, (0 : Int), PUnit.unit), (x10, x11, x12, x13, PUnit.unit),
 (x20, x21, x22, x23, PUnit.unit, x25, PUnit.unit), x3, PUnit.unit)).bind
 fun r =>
 loK r (fun r => some (LO.ret r)) fun j p =>
 br (j == (2 : Nat))
 (L f_s_LiveOk (0 : Nat) lc_s_LiveOk_0 [] k_s_LiveOk_0
 ((p.fst.1, PUnit.unit, PUnit.unit, IntKind.i64.wrap (p.fst.snd.snd.snd.1 + (1 : Int)), PUnit.unit),
 (p.snd.fst.1, p.snd.fst.snd.1, p.snd.fst.snd.snd.1, p.snd.fst.snd.snd.snd.1, PUnit.unit),
 (p.snd.snd.fst.1, p.snd.snd.fst.snd.1, p.snd.snd.fst.snd.snd.1, p.snd.snd.fst.snd.snd.snd.1, PUnit.unit,
 p.snd.snd.fst.snd.snd.snd.snd.snd.1, PUnit.unit),
 p.snd.snd.snd.1, PUnit.unit))
 (br (j == (1 : Nat))
 (L f_s_LiveOk (0 : Nat) lc_s_LiveOk_0 [] k_s_LiveOk_0
 ((p.fst.1, PUnit.unit, PUnit.unit, IntKind.i64.wrap (p.fst.snd.snd.snd.1 + (1 : Int)), PUnit.unit),
 (p.snd.fst.1, p.snd.fst.snd.1, p.snd.fst.snd.snd.1, p.snd.fst.snd.snd.snd.1, PUnit.unit),
 (p.snd.snd.fst.1, p.snd.snd.fst.snd.1, p.snd.snd.fst.snd.snd.1, p.snd.snd.fst.snd.snd.snd.1, PUnit.unit,
 p.snd.snd.fst.snd.snd.snd.snd.snd.1, PUnit.unit),
 p.snd.snd.snd.1, PUnit.unit))
 (some
 (LO.out j
 ((p.fst.1, PUnit.unit, PUnit.unit, p.fst.snd.snd.snd.1, PUnit.unit),
 (p.snd.fst.1, p.snd.fst.snd.1, p.snd.fst.snd.snd.1, p.snd.fst.snd.snd.snd.1, PUnit.unit),
 (p.snd.snd.fst.1, p.snd.snd.fst.snd.1, p.snd.snd.fst.snd.snd.1, p.snd.snd.fst.snd.snd.snd.1, PUnit.unit,
 p.snd.snd.fst.snd.snd.snd.snd.snd.1, PUnit.unit),
 p.snd.snd.snd.1, PUnit.unit)))))
 (some
 (LO.out (0 : Nat)
 ((x00, PUnit.unit, PUnit.unit, x03, PUnit.unit), (x10, x11, x12, x13, PUnit.unit),
 (x20, x21, x22, x23, PUnit.unit, x25, PUnit.unit), x3, PUnit.unit)))
theorem el_s_LiveOk_0 (C : CallT) (L : LoopT) (x00 : List CVal) (x03 : Int) (x10 : Int) (x11 : Int) (x12 : Int) (x13 : List CVal) (x20 : Int) (x21 : Int) (x22 : Int) (x23 : List CVal) (x25 : Bool) (x3 : List CVal) : evL E N C L f_s_LiveOk 0 lc_s_LiveOk_0 [] k_s_LiveOk_0 ((x00, (), (), x03, ()), (x10, x11, x12, x13, ()), (x20, x21, x22, x23, (), x25, ()), x3, ()) = nl_s_LiveOk_0 C L x00 x03 x10 x11 x12 x13 x20 x21 x22 x23 x25 x3 := by kernel_rfl
theorem gl_s_LiveOk_0 (x00 : List CVal) (x03 : Int) (x10 : Int) (x11 : Int) (x12 : Int) (x13 : List CVal) (x20 : Int) (x21 : Int) (x22 : Int) (x23 : List CVal) (x25 : Bool) (x3 : List CVal) (R : LO k_s_LiveOk_0.T) (h : nl_s_LiveOk_0 CC LL x00 x03 x10 x11 x12 x13 x20 x21 x22 x23 x25 x3 = some R) : LL f_s_LiveOk 0 lc_s_LiveOk_0 [] k_s_LiveOk_0 ((x00, (), (), x03, ()), (x10, x11, x12, x13, ()), (x20, x21, x22, x23, (), x25, ()), x3, ()) = some R := loopW ((el_s_LiveOk_0 CC LL x00 x03 x10 x11 x12 x13 x20 x21 x22 x23 x25 x3).trans h)
noncomputable def nl_i_LiveOk_0 (C : CallT) (L : LoopT) (x02 : List CVal) (x03 : Int) (x04 : Int) (x10 : Int) (x11 : Int) (x12 : Int) (x13 : List CVal) (x2 : List CVal) : Option (LO k_i_LiveOk_0.T) :=
 br (decide (x04 < x03))
 (br (decide ((0 : Int) ≤ x04) && true)
 (x02[x04.toNat]?.bind fun y =>
 br (CVal.fits false (1 : Nat) y)
 ((y.cell (0 : Nat)).bind fun c =>
 br (decide ((0 : Int) ≤ x12) && decide (x12 = x12) && decide (x12 ≤ (1048576 : Int)))
 (c.asSl.bind fun xs =>
 c.asSl.bind fun xs_1 =>
 c.asSl.bind fun xs_2 =>
 (L f_i_LiveOk (2 : Nat) lc_i_LiveOk_2 [] k_i_LiveOk_2
 ((PUnit.unit, PUnit.unit, xs_1, PUnit.unit, x02, x03, x04, xs_2, (↑xs.length : Int), (0 : Int),
 PUnit.unit),
 (x10, x11, x12, x13, PUnit.unit), x2, List.replicate x12.toNat (CVal.bool false),
 PUnit.unit)).bind
 fun r =>
 loK r (fun r => some (LO.ret r)) fun j p =>
 br (j == (2 : Nat))
 (br (decide (List.length p.snd.snd.1 + (1 : Nat) ≤ (4294967296 : Nat)) && true && true)
 (L f_i_LiveOk (0 : Nat) lc_i_LiveOk_0 [] k_i_LiveOk_0
 ((PUnit.unit, PUnit.unit, p.fst.snd.snd.snd.snd.1, p.fst.snd.snd.snd.snd.snd.1,
 IntKind.i64.wrap (p.fst.snd.snd.snd.snd.snd.snd.1 + (1 : Int)), PUnit.unit),
 (p.snd.fst.1, p.snd.fst.snd.1, p.snd.fst.snd.snd.1, p.snd.fst.snd.snd.snd.1, PUnit.unit),
 p.snd.snd.1 ++ [CVal.sl p.snd.snd.snd.1], PUnit.unit))
 none)
 (br (j == (1 : Nat))
 (L f_i_LiveOk (0 : Nat) lc_i_LiveOk_0 [] k_i_LiveOk_0
 ((PUnit.unit, PUnit.unit, p.fst.snd.snd.snd.snd.1, p.fst.snd.snd.snd.snd.snd.1,
 IntKind.i64.wrap (p.fst.snd.snd.snd.snd.snd.snd.1 + (1 : Int)), PUnit.unit),
 (p.snd.fst.1, p.snd.fst.snd.1, p.snd.fst.snd.snd.1, p.snd.fst.snd.snd.snd.1, PUnit.unit),
 p.snd.snd.1, PUnit.unit))
 (some
 (LO.out j
 ((PUnit.unit, PUnit.unit, p.fst.snd.snd.snd.snd.1, p.fst.snd.snd.snd.snd.snd.1,
 p.fst.snd.snd.snd.snd.snd.snd.1, PUnit.unit),
 (p.snd.fst.1, p.snd.fst.snd.1, p.snd.fst.snd.snd.1, p.snd.fst.snd.snd.snd.1,
 PUnit.unit),
 p.snd.snd.1, PUnit.unit)))))
 none)
 none)
 none)
 (some
 (LO.out (0 : Nat)
 ((PUnit.unit, PUnit.unit, x02, x03, x04, PUnit.unit), (x10, x11, x12, x13, PUnit.unit), x2, PUnit.unit)))
theorem el_i_LiveOk_0 (C : CallT) (L : LoopT) (x02 : List CVal) (x03 : Int) (x04 : Int) (x10 : Int) (x11 : Int) (x12 : Int) (x13 : List CVal) (x2 : List CVal) : evL E N C L f_i_LiveOk 0 lc_i_LiveOk_0 [] k_i_LiveOk_0 (((), (), x02, x03, x04, ()), (x10, x11, x12, x13, ()), x2, ()) = nl_i_LiveOk_0 C L x02 x03 x04 x10 x11 x12 x13 x2 := by kernel_rfl
theorem gl_i_LiveOk_0 (x02 : List CVal) (x03 : Int) (x04 : Int) (x10 : Int) (x11 : Int) (x12 : Int) (x13 : List CVal) (x2 : List CVal) (R : LO k_i_LiveOk_0.T) (h : nl_i_LiveOk_0 CC LL x02 x03 x04 x10 x11 x12 x13 x2 = some R) : LL f_i_LiveOk 0 lc_i_LiveOk_0 [] k_i_LiveOk_0 (((), (), x02, x03, x04, ()), (x10, x11, x12, x13, ()), x2, ()) = some R := loopW ((el_i_LiveOk_0 CC LL x02 x03 x04 x10 x11 x12 x13 x2).trans h)
noncomputable def nl_l_heldIntSS_0 (C : CallT) (L : LoopT) (x00 : List CVal) (x01 : Int) (x02 : Int) : Option (LO k_l_heldIntSS_0.T) :=
 br (decide (x02 < (↑x00.length : Int)))
 (br (decide ((0 : Int) ≤ x02) && true)
 (x00[x02.toNat]?.bind fun y =>
 br (CVal.fits false (1 : Nat) y)
 ((y.cell (0 : Nat)).bind fun c =>
 (C f_l_heldIntS [AVal.v c, AVal.v (CVal.int IntKind.i64 x01)] []).bind fun r =>
 (CVal.asInt IntKind.i64 r.1).bind fun n =>
 br (decide (n < (0 : Int))) (some (LO.ret (CVal.int IntKind.i64 (-1 : Int), [])))
 ((CVal.asInt IntKind.i64 r.1).bind fun n =>
 L f_l_heldIntSS (0 : Nat) lc_l_heldIntSS_0 [] k_l_heldIntSS_0
 ((x00, n, IntKind.i64.wrap (x02 + (1 : Int)), PUnit.unit), PUnit.unit)))
 none)
 none)
 (some (LO.out (0 : Nat) ((x00, x01, x02, PUnit.unit), PUnit.unit)))
theorem el_l_heldIntSS_0 (C : CallT) (L : LoopT) (x00 : List CVal) (x01 : Int) (x02 : Int) : evL E N C L f_l_heldIntSS 0 lc_l_heldIntSS_0 [] k_l_heldIntSS_0 ((x00, x01, x02, ()), ()) = nl_l_heldIntSS_0 C L x00 x01 x02 := by kernel_rfl
theorem gl_l_heldIntSS_0 (x00 : List CVal) (x01 : Int) (x02 : Int) (R : LO k_l_heldIntSS_0.T) (h : nl_l_heldIntSS_0 CC LL x00 x01 x02 = some R) : LL f_l_heldIntSS 0 lc_l_heldIntSS_0 [] k_l_heldIntSS_0 ((x00, x01, x02, ()), ()) = some R := loopW ((el_l_heldIntSS_0 CC LL x00 x01 x02).trans h)
noncomputable def nl_s_l9Piece_0 (C : CallT) (L : LoopT) (x00 : CVal) (x01 : Int) (x02 : Int) : Option (LO k_s_l9Piece_0.T) :=
 br (decide (x02 < x01))
 (x00.asFp.bind fun y =>
 (y.1.sub y.2 (4 : Nat)).bind fun y =>
 x00.asFp.bind fun y_1 =>
 (y_1.1.cell (y_1.2 + (3 : Nat))).bind fun c =>
 br (decide ((0 : Int) ≤ x02) && true)
 (c.asSl.bind fun xs =>
 xs[x02.toNat]?.bind fun y_2 =>
 br (CVal.fits true (7 : Nat) y_2)
 ((y_2.sub (0 : Nat) (7 : Nat)).bind fun y_3 =>
 (C f_s_l9Ins [AVal.v y, AVal.v y_3] []).bind fun r =>
 r.1.asBool.bind fun b =>
 br (!b) (some (LO.ret (CVal.bool false, [])))
 (L f_s_l9Piece (0 : Nat) lc_s_l9Piece_0 [] k_s_l9Piece_0
 ((x00, x01, IntKind.i64.wrap (x02 + (1 : Int)), PUnit.unit), PUnit.unit)))
 none)
 none)
 (some (LO.out (0 : Nat) ((x00, x01, x02, PUnit.unit), PUnit.unit)))
theorem el_s_l9Piece_0 (C : CallT) (L : LoopT) (x00 : CVal) (x01 : Int) (x02 : Int) : evL E N C L f_s_l9Piece 0 lc_s_l9Piece_0 [] k_s_l9Piece_0 ((x00, x01, x02, ()), ()) = nl_s_l9Piece_0 C L x00 x01 x02 := by kernel_rfl
theorem gl_s_l9Piece_0 (x00 : CVal) (x01 : Int) (x02 : Int) (R : LO k_s_l9Piece_0.T) (h : nl_s_l9Piece_0 CC LL x00 x01 x02 = some R) : LL f_s_l9Piece 0 lc_s_l9Piece_0 [] k_s_l9Piece_0 ((x00, x01, x02, ()), ()) = some R := loopW ((el_s_l9Piece_0 CC LL x00 x01 x02).trans h)
noncomputable def nl_i_wanted_2 (C : CallT) (L : LoopT) (x01 : List CVal) (x02 : Int) (x03 : Int) (x2 : List CVal) : Option (LO k_i_wanted_2.T) :=
 br (decide (x03 < x02))
 (br (decide ((0 : Int) ≤ x03) && true)
 (x01[x03.toNat]?.bind fun y =>
 br (CVal.fits false (1 : Nat) y)
 ((y.cell (0 : Nat)).bind fun c =>
 c.asIdx.bind fun y =>
 br (decide ((0 : Int) ≤ y) && true)
 (br (decide (y.toNat < x2.length) && true)
 (x2[y.toNat]?.bind fun y_1 =>
 br (CVal.fits false (1 : Nat) y_1)
 (L f_i_wanted (2 : Nat) lc_i_wanted_2 [] k_i_wanted_2
 ((PUnit.unit, x01, x02, IntKind.i64.wrap (x03 + (1 : Int)), PUnit.unit), (PUnit.unit, PUnit.unit),
 x2.set y.toNat (CVal.bool true), PUnit.unit))
 (br (y_1.isAgg && decide ((1 : Nat) ≤ y_1.cells.length))
 (L f_i_wanted (2 : Nat) lc_i_wanted_2 [] k_i_wanted_2
 ((PUnit.unit, x01, x02, IntKind.i64.wrap (x03 + (1 : Int)), PUnit.unit),
 (PUnit.unit, PUnit.unit),
 x2.set y.toNat (CVal.agg (CVal.bool true :: List.drop (1 : Nat) y_1.cells)), PUnit.unit))
 none))
 none)
 none)
 none)
 none)
 (some (LO.out (2 : Nat) ((PUnit.unit, x01, x02, x03, PUnit.unit), (PUnit.unit, PUnit.unit), x2, PUnit.unit)))
theorem el_i_wanted_2 (C : CallT) (L : LoopT) (x01 : List CVal) (x02 : Int) (x03 : Int) (x2 : List CVal) : evL E N C L f_i_wanted 2 lc_i_wanted_2 [] k_i_wanted_2 (((), x01, x02, x03, ()), ((), ()), x2, ()) = nl_i_wanted_2 C L x01 x02 x03 x2 := by kernel_rfl
theorem gl_i_wanted_2 (x01 : List CVal) (x02 : Int) (x03 : Int) (x2 : List CVal) (R : LO k_i_wanted_2.T) (h : nl_i_wanted_2 CC LL x01 x02 x03 x2 = some R) : LL f_i_wanted 2 lc_i_wanted_2 [] k_i_wanted_2 (((), x01, x02, x03, ()), ((), ()), x2, ()) = some R := loopW ((el_i_wanted_2 CC LL x01 x02 x03 x2).trans h)
noncomputable def nl_s_l10Solve_2 (C : CallT) (L : LoopT) (x00 : CVal) (x02 : Int) (x10 : Int) (x11 : Int) (x12 : Int) (x13 : List CVal) (x15 : Bool) (x2 : List CVal) : Option (LO k_s_l10Solve_2.T) :=
 br (decide ((0 : Int) ≤ x02))
 ((C f_s_l10Node [AVal.lptr (0 : Nat) (0 : Nat), AVal.v (CVal.int IntKind.i64 x02)]
 [PB.box
 [AVal.v (CVal.int IntKind.i64 x10), AVal.v (CVal.int IntKind.i64 x11), AVal.v (CVal.int IntKind.i64 x12),
 AVal.v (CVal.sl x13), AVal.lref (1 : Nat) (0 : Nat), AVal.v (CVal.bool x15)],
 PB.arr (Md.mk true false (0 : Nat)) true (1 : Nat) x2]).bind
 fun r =>
 r.2[(0 : Nat)]?.bind fun y =>
 r.2[(1 : Nat)]?.bind fun y_1 =>
 y[(0 : Nat)]?.bind fun y_2 =>
 y[(1 : Nat)]?.bind fun y_3 =>
 y[(2 : Nat)]?.bind fun y_4 =>
 y[(3 : Nat)]?.bind fun y_5 =>
 y[(4 : Nat)]?.bind fun y_6 =>
 y[(5 : Nat)]?.bind fun y =>
 y_6.asSl.bind fun xs =>
 (CVal.asInt IntKind.i64 y_2).bind fun n =>
 (CVal.asInt IntKind.i64 y_3).bind fun n_1 =>
 (CVal.asInt IntKind.i64 y_4).bind fun n_2 =>
 y_5.asSl.bind fun xs_1 =>
 y.asBool.bind fun b =>
 L f_s_l10Solve (2 : Nat) lc_s_l10Solve_2 [] k_s_l10Solve_2
 ((x00, PUnit.unit, IntKind.i64.wrap (x02 - (1 : Int)), PUnit.unit),
 (n, n_1, n_2, xs_1, PUnit.unit, b, PUnit.unit), xs, PUnit.unit))
 (some
 (LO.out (2 : Nat)
 ((x00, PUnit.unit, x02, PUnit.unit), (x10, x11, x12, x13, PUnit.unit, x15, PUnit.unit), x2, PUnit.unit)))
theorem el_s_l10Solve_2 (C : CallT) (L : LoopT) (x00 : CVal) (x02 : Int) (x10 : Int) (x11 : Int) (x12 : Int) (x13 : List CVal) (x15 : Bool) (x2 : List CVal) : evL E N C L f_s_l10Solve 2 lc_s_l10Solve_2 [] k_s_l10Solve_2 ((x00, (), x02, ()), (x10, x11, x12, x13, (), x15, ()), x2, ()) = nl_s_l10Solve_2 C L x00 x02 x10 x11 x12 x13 x15 x2 := by kernel_rfl
theorem gl_s_l10Solve_2 (x00 : CVal) (x02 : Int) (x10 : Int) (x11 : Int) (x12 : Int) (x13 : List CVal) (x15 : Bool) (x2 : List CVal) (R : LO k_s_l10Solve_2.T) (h : nl_s_l10Solve_2 CC LL x00 x02 x10 x11 x12 x13 x15 x2 = some R) : LL f_s_l10Solve 2 lc_s_l10Solve_2 [] k_s_l10Solve_2 ((x00, (), x02, ()), (x10, x11, x12, x13, (), x15, ()), x2, ()) = some R := loopW ((el_s_l10Solve_2 CC LL x00 x02 x10 x11 x12 x13 x15 x2).trans h)
noncomputable def nl_i_liveSets_4 (C : CallT) (L : LoopT) (x00 : CVal) (x02 : Bool) (x03 : Int) (x1 : List CVal) : Option (LO k_i_liveSets_4.T) :=
 br (decide ((0 : Int) ≤ x03))
 (x00.asFp.bind fun y =>
 (y.1.sub y.2 (4 : Nat)).bind fun y =>
 (C f_i_wanted [AVal.v y, AVal.v (CVal.int IntKind.i64 x03), AVal.v (CVal.sl x1)] []).bind fun r =>
 br (!r.1.plain) none
 (br r.1.isFlat
 (r.1.asSl.bind fun xs =>
 br (decide ((0 : Int) ≤ x03) && true)
 (br (decide (x03.toNat < x1.length) && true)
 (x1[x03.toNat]?.bind fun y =>
 (y.cell (0 : Nat)).bind fun c =>
 c.asSl.bind fun xs_1 =>
 (x1[x03.toNat]?.bind fun y => (y.cell (0 : Nat)).bind fun c => c.asSl).bind fun y =>
 (C f_slices_Equal_bool [AVal.v (CVal.sl xs), AVal.v (CVal.sl y)] []).bind fun r =>
 br (!scalar r.1) none
 (r.1.asBool.bind fun b =>
 br (!b)
 (br (decide ((0 : Int) ≤ x03) && true)
 (br (decide (x03.toNat < x1.length) && true)
 (x1[x03.toNat]?.bind fun y =>
 br (CVal.fits false (1 : Nat) y)
 (L f_i_liveSets (4 : Nat) lc_i_liveSets_4 [] k_i_liveSets_4
 ((x00, PUnit.unit, true, IntKind.i64.wrap (x03 - (1 : Int)), PUnit.unit),
 x1.set x03.toNat (CVal.sl xs), PUnit.unit))
 (br (y.isAgg && decide ((1 : Nat) ≤ y.cells.length))
 (L f_i_liveSets (4 : Nat) lc_i_liveSets_4 [] k_i_liveSets_4
 ((x00, PUnit.unit, true, IntKind.i64.wrap (x03 - (1 : Int)), PUnit.unit),
 x1.set x03.toNat (CVal.agg (CVal.sl xs :: List.drop (1 : Nat) y.cells)),
 PUnit.unit))
 none))
 none)
 none)
 (L f_i_liveSets (4 : Nat) lc_i_liveSets_4 [] k_i_liveSets_4
 ((x00, PUnit.unit, x02, IntKind.i64.wrap (x03 - (1 : Int)), PUnit.unit), x1,
 PUnit.unit))))
 none)
 none)
 none))
 (some (LO.out (4 : Nat) ((x00, PUnit.unit, x02, x03, PUnit.unit), x1, PUnit.unit)))
theorem el_i_liveSets_4 (C : CallT) (L : LoopT) (x00 : CVal) (x02 : Bool) (x03 : Int) (x1 : List CVal) : evL E N C L f_i_liveSets 4 lc_i_liveSets_4 [] k_i_liveSets_4 ((x00, (), x02, x03, ()), x1, ()) = nl_i_liveSets_4 C L x00 x02 x03 x1 := by kernel_rfl
theorem gl_i_liveSets_4 (x00 : CVal) (x02 : Bool) (x03 : Int) (x1 : List CVal) (R : LO k_i_liveSets_4.T) (h : nl_i_liveSets_4 CC LL x00 x02 x03 x1 = some R) : LL f_i_liveSets 4 lc_i_liveSets_4 [] k_i_liveSets_4 ((x00, (), x02, x03, ()), x1, ()) = some R := loopW ((el_i_liveSets_4 CC LL x00 x02 x03 x1).trans h)
noncomputable def nl_l_markInsS_0 (C : CallT) (L : LoopT) (x01 : Int) (x02 : Int) (x1 : List CVal) : Option (LO k_l_markInsS_0.T) :=
 br (decide (x02 < (↑x1.length : Int)))
 (br (decide ((0 : Int) ≤ x02) && true)
 (br (decide (x02.toNat < x1.length) && true)
 (x1[x02.toNat]?.bind fun y =>
 br (CVal.fits false (1 : Nat) y)
 (br (decide ((0 : Int) ≤ x02) && true)
 (br (decide (x02.toNat < (x1.set x02.toNat (CVal.int IntKind.i64 x01)).length) && true)
 ((x1.set x02.toNat (CVal.int IntKind.i64 x01))[x02.toNat]?.bind fun y =>
 br (y.isAgg && decide ((2 : Nat) ≤ y.cells.length))
 (br (decide ((0 : Int) ≤ x02) && true)
 (br
 (decide
 (x02.toNat <
 ((x1.set x02.toNat (CVal.int IntKind.i64 x01)).set x02.toNat
 (CVal.agg
 (splice y.cells (1 : Nat)
 [CVal.int IntKind.i64 (IntKind.i64.wrap (x01 + (1 : Int)))]))).length) &&
 true)
 (((x1.set x02.toNat (CVal.int IntKind.i64 x01)).set x02.toNat
 (CVal.agg
 (splice y.cells (1 : Nat)
 [CVal.int IntKind.i64 (IntKind.i64.wrap (x01 + (1 : Int)))])))[x02.toNat]?.bind
 fun y_1 =>
 br (y_1.isAgg && decide ((3 : Nat) ≤ y_1.cells.length))
 (br (decide ((0 : Int) ≤ x02) && true)
 (br
 (decide
 (x02.toNat <
 (((x1.set x02.toNat (CVal.int IntKind.i64 x01)).set x02.toNat
 (CVal.agg
 (splice y.cells (1 : Nat)
 [CVal.int IntKind.i64 (IntKind.i64.wrap (x01 + (1 : Int)))]))).set
 x02.toNat
 (CVal.agg
 (splice y_1.cells (2 : Nat)
 [CVal.int IntKind.i64
 (IntKind.i64.wrap
 (IntKind.i64.wrap (x01 + (1 : Int)) + (1 : Int)))]))).length) &&
 true)
 ((((x1.set x02.toNat (CVal.int IntKind.i64 x01)).set x02.toNat
 (CVal.agg
 (splice y.cells (1 : Nat)
 [CVal.int IntKind.i64 (IntKind.i64.wrap (x01 + (1 : Int)))]))).set
 x02.toNat
 (CVal.agg
 (splice y_1.cells (2 : Nat)
 [CVal.int IntKind.i64
 (IntKind.i64.wrap
 (IntKind.i64.wrap (x01 + (1 : Int)) + (1 : Int)))])))[x02.toNat]?.bind
 fun y_2 =>
 br (y_2.isAgg && decide ((4 : Nat) ≤ y_2.cells.length))
 (br (decide ((0 : Int) ≤ x02) && true)
 (br
 (decide
 (x02.toNat <
 ((((x1.set x02.toNat (CVal.int IntKind.i64 x01)).set x02.toNat
 (CVal.agg
 (splice y.cells (1 : Nat)
 [CVal.int IntKind.i64
 (IntKind.i64.wrap (x01 + (1 : Int)))]))).set
 x02.toNat
 (CVal.agg
 (splice y_1.cells (2 : Nat)
 [CVal.int IntKind.i64
 (IntKind.i64.wrap
 (IntKind.i64.wrap (x01 + (1 : Int)) + (1 : Int)))]))).set
 x02.toNat
 (CVal.agg
 (splice y_2.cells (3 : Nat)
 [CVal.int IntKind.i64
 (IntKind.i64.wrap
 (IntKind.i64.wrap
 (IntKind.i64.wrap (x01 + (1 : Int)) + (1 : Int)) +
 (1 : Int)))]))).length) &&
 true)
 (((((x1.set x02.toNat (CVal.int IntKind.i64 x01)).set x02.toNat
 (CVal.agg
 (splice y.cells (1 : Nat)
 [CVal.int IntKind.i64
 (IntKind.i64.wrap (x01 + (1 : Int)))]))).set
 x02.toNat
 (CVal.agg
 (splice y_1.cells (2 : Nat)
 [CVal.int IntKind.i64
 (IntKind.i64.wrap
 (IntKind.i64.wrap (x01 + (1 : Int)) + (1 : Int)))]))).set
 x02.toNat
 (CVal.agg
 (splice y_2.cells (3 : Nat)
 [CVal.int IntKind.i64
 (IntKind.i64.wrap
 (IntKind.i64.wrap
 (IntKind.i64.wrap (x01 + (1 : Int)) + (1 : Int)) +
 (1 : Int)))])))[x02.toNat]?.bind
 fun y_3 =>
 br (y_3.isAgg && decide ((5 : Nat) ≤ y_3.cells.length))
 (br (decide ((0 : Int) ≤ x02) && true)
 (br
 (decide
 (x02.toNat <
 (((((x1.set x02.toNat (CVal.int IntKind.i64 x01)).set x02.toNat
 (CVal.agg
 (splice y.cells (1 : Nat)
 [CVal.int IntKind.i64
 (IntKind.i64.wrap (x01 + (1 : Int)))]))).set
 x02.toNat
 (CVal.agg
 (splice y_1.cells (2 : Nat)
 [CVal.int IntKind.i64
 (IntKind.i64.wrap
 (IntKind.i64.wrap (x01 + (1 : Int)) +
 (1 : Int)))]))).set
 x02.toNat
 (CVal.agg
 (splice y_2.cells (3 : Nat)
 [CVal.int IntKind.i64
 (IntKind.i64.wrap
 (IntKind.i64.wrap
 (IntKind.i64.wrap (x01 + (1 : Int)) +
 (1 : Int)) +
 (1 : Int)))]))).set
 x02.toNat
 (CVal.agg
 (splice y_3.cells (4 : Nat)
 [CVal.int IntKind.i64
 (IntKind.i64.wrap
 (IntKind.i64.wrap
 (IntKind.i64.wrap
 (IntKind.i64.wrap (x01 + (1 : Int)) +
 (1 : Int)) +
 (1 : Int)) +
 (1 : Int)))]))).length) &&
 true)
 ((((((x1.set x02.toNat (CVal.int IntKind.i64 x01)).set x02.toNat
 (CVal.agg
 (splice y.cells (1 : Nat)
 [CVal.int IntKind.i64
 (IntKind.i64.wrap (x01 + (1 : Int)))]))).set
 x02.toNat
 (CVal.agg
 (splice y_1.cells (2 : Nat)
 [CVal.int IntKind.i64
 (IntKind.i64.wrap
 (IntKind.i64.wrap (x01 + (1 : Int)) +
 (1 : Int)))]))).set
 x02.toNat
 (CVal.agg
 (splice y_2.cells (3 : Nat)
 [CVal.int IntKind.i64
 (IntKind.i64.wrap
 (IntKind.i64.wrap
 (IntKind.i64.wrap (x01 + (1 : Int)) +
 (1 : Int)) +
 (1 : Int)))]))).set
 x02.toNat
 (CVal.agg
 (splice y_3.cells (4 : Nat)
 [CVal.int IntKind.i64
 (IntKind.i64.wrap
 (IntKind.i64.wrap
 (IntKind.i64.wrap
 (IntKind.i64.wrap (x01 + (1 : Int)) +
 (1 : Int)) +
 (1 : Int)) +
 (1 : Int)))])))[x02.toNat]?.bind
 fun y_4 =>
 (y_4.cell (5 : Nat)).bind fun c =>
 c.asSl.bind fun xs =>
 (((((x1.set x02.toNat (CVal.int IntKind.i64 x01)).set x02.toNat
 (CVal.agg
 (splice y.cells (1 : Nat)
 [CVal.int IntKind.i64
 (IntKind.i64.wrap
 (x01 + (1 : Int)))]))).set
 x02.toNat
 (CVal.agg
 (splice y_1.cells (2 : Nat)
 [CVal.int IntKind.i64
 (IntKind.i64.wrap
 (IntKind.i64.wrap (x01 + (1 : Int)) +
 (1 : Int)))]))).set
 x02.toNat
 (CVal.agg
 (splice y_2.cells (3 : Nat)
 [CVal.int IntKind.i64
 (IntKind.i64.wrap
 (IntKind.i64.wrap
 (IntKind.i64.wrap (x01 + (1 : Int)) +
 (1 : Int)) +
 (1 : Int)))]))).set
 x02.toNat
 (CVal.agg
 (splice y_3.cells (4 : Nat)
 [CVal.int IntKind.i64
 (IntKind.i64.wrap
 (IntKind.i64.wrap
 (IntKind.i64.wrap
 (IntKind.i64.wrap (x01 + (1 : Int)) +
 (1 : Int)) +
 (1 : Int)) +
 (1 : Int)))])))[x02.toNat]?.bind
 fun y_5 =>
 (y_5.cell (5 : Nat)).bind fun c =>
 c.asSl.bind fun xs =>
 br (xs.all (CVal.fits false (1 : Nat)))
 ((C f_l_markIntS
 [AVal.lref (0 : Nat) (0 : Nat),
 AVal.v
 (CVal.int IntKind.i64
 (IntKind.i64.wrap
 (IntKind.i64.wrap
 (IntKind.i64.wrap
 (IntKind.i64.wrap
 (IntKind.i64.wrap
 (x01 + (1 : Int)) +
 (1 : Int)) +
 (1 : Int)) +
 (1 : Int)) +
 (1 : Int))))]
 [PB.arr (Md.mk true true (0 : Nat)) false (1 : Nat)
 xs]).bind
 fun r =>
 r.2[(0 : Nat)]?.bind fun y_6 =>
 br (decide ((0 : Int) ≤ x02) && true)
 (br
 (decide
 (x02.toNat <
 ((((((x1.set x02.toNat
 (CVal.int IntKind.i64
 x01)).set
 x02.toNat
 (CVal.agg
 (splice y.cells
 (1 : Nat)
 [CVal.int IntKind.i64
 (IntKind.i64.wrap
 (x01 +
 (1 :
 Int)))]))).set
 x02.toNat
 (CVal.agg
 (splice y_1.cells (2 : Nat)
 [CVal.int IntKind.i64
 (IntKind.i64.wrap
 (IntKind.i64.wrap
 (x01 +
 (1 : Int)) +
 (1 :
 Int)))]))).set
 x02.toNat
 (CVal.agg
 (splice y_2.cells (3 : Nat)
 [CVal.int IntKind.i64
 (IntKind.i64.wrap
 (IntKind.i64.wrap
 (IntKind.i64.wrap
 (x01 +
 (1 : Int)) +
 (1 : Int)) +
 (1 : Int)))]))).set
 x02.toNat
 (CVal.agg
 (splice y_3.cells (4 : Nat)
 [CVal.int IntKind.i64
 (IntKind.i64.wrap
 (IntKind.i64.wrap
 (IntKind.i64.wrap
 (IntKind.i64.wrap
 (x01 +
 (1 : Int)) +
 (1 : Int)) +
 (1 : Int)) +
 (1 : Int)))]))).set
 x02.toNat
 (y_5.putCell (5 : Nat)
 (CVal.sl y_6))).length) &&
 true)
 (br (r.1.isFlat && true)
 ((CVal.asInt IntKind.i64 r.1).bind fun n =>
 ((((((x1.set x02.toNat
 (CVal.int
 IntKind.i64
 x01)).set
 x02.toNat
 (CVal.agg
 (splice y.cells
 (1 : Nat)
 [CVal.int
 IntKind.i64
 (IntKind.i64.wrap
 (x01 +
 (1 :
 Int)))]))).set
 x02.toNat
 (CVal.agg
 (splice y_1.cells
 (2 : Nat)
 [CVal.int IntKind.i64
 (IntKind.i64.wrap
 (IntKind.i64.wrap
 (x01 +
 (1 : Int)) +
 (1 :
 Int)))]))).set
 x02.toNat
 (CVal.agg
 (splice y_2.cells (3 : Nat)
 [CVal.int IntKind.i64
 (IntKind.i64.wrap
 (IntKind.i64.wrap
 (IntKind.i64.wrap
 (x01 +
 (1 : Int)) +
 (1 : Int)) +
 (1 : Int)))]))).set
 x02.toNat
 (CVal.agg
 (splice y_3.cells (4 : Nat)
 [CVal.int IntKind.i64
 (IntKind.i64.wrap
 (IntKind.i64.wrap
 (IntKind.i64.wrap
 (IntKind.i64.wrap
 (x01 +
 (1 : Int)) +
 (1 : Int)) +
 (1 : Int)) +
 (1 : Int)))]))).set
 x02.toNat
 (y_5.putCell (5 : Nat)
 (CVal.sl y_6)))[x02.toNat]?.bind
 fun y_7 =>
 br
 (y_7.isAgg &&
 decide ((7 : Nat) ≤ y_7.cells.length))
 ((CVal.asInt IntKind.i64 r.1).bind
 fun n_1 =>
 L f_l_markInsS (0 : Nat) lc_l_markInsS_0
 [PSh.arr (Md.mk true true (0 : Nat))
 false (7 : Nat)]
 k_l_markInsS_0
 ((PUnit.unit,
 IntKind.i64.wrap (n_1 + (1 : Int)),
 IntKind.i64.wrap (x02 + (1 : Int)),
 PUnit.unit),
 ((((((x1.set x02.toNat
 (CVal.int
 IntKind.i64
 x01)).set
 x02.toNat
 (CVal.agg
 (splice
 y.cells
 (1 : Nat)
 [CVal.int
 IntKind.i64
 (IntKind.i64.wrap
 (x01 +
 (1 :
 Int)))]))).set
 x02.toNat
 (CVal.agg
 (splice y_1.cells
 (2 : Nat)
 [CVal.int
 IntKind.i64
 (IntKind.i64.wrap
 (IntKind.i64.wrap
 (x01 +
 (1 :
 Int)) +
 (1 :
 Int)))]))).set
 x02.toNat
 (CVal.agg
 (splice y_2.cells
 (3 : Nat)
 [CVal.int
 IntKind.i64
 (IntKind.i64.wrap
 (IntKind.i64.wrap
 (IntKind.i64.wrap
 (x01 +
 (1 :
 Int)) +
 (1 :
 Int)) +
 (1 :
 Int)))]))).set
 x02.toNat
 (CVal.agg
 (splice y_3.cells
 (4 : Nat)
 [CVal.int IntKind.i64
 (IntKind.i64.wrap
 (IntKind.i64.wrap
 (IntKind.i64.wrap
 (IntKind.i64.wrap
 (x01 +
 (1 :
 Int)) +
 (1 :
 Int)) +
 (1 : Int)) +
 (1 :
 Int)))]))).set
 x02.toNat
 (y_5.putCell (5 : Nat)
 (CVal.sl y_6))).set
 x02.toNat
 (CVal.agg
 (splice y_7.cells (6 : Nat)
 [CVal.int IntKind.i64 n])),
 PUnit.unit))
 none)
 none)
 none)
 none)
 none)
 none)
 none)
 none)
 none)
 none)
 none)
 none)
 none)
 none)
 none)
 none)
 none)
 none)
 none)
 (br (y.isAgg && decide ((1 : Nat) ≤ y.cells.length))
 (br (decide ((0 : Int) ≤ x02) && true)
 (br
 (decide
 (x02.toNat <
 (x1.set x02.toNat (CVal.agg (CVal.int IntKind.i64 x01 :: List.drop (1 : Nat) y.cells))).length) &&
 true)
 ((x1.set x02.toNat
 (CVal.agg (CVal.int IntKind.i64 x01 :: List.drop (1 : Nat) y.cells)))[x02.toNat]?.bind
 fun y_1 =>
 br (y_1.isAgg && decide ((2 : Nat) ≤ y_1.cells.length))
 (br (decide ((0 : Int) ≤ x02) && true)
 (br
 (decide
 (x02.toNat <
 ((x1.set x02.toNat
 (CVal.agg (CVal.int IntKind.i64 x01 :: List.drop (1 : Nat) y.cells))).set
 x02.toNat
 (CVal.agg
 (splice y_1.cells (1 : Nat)
 [CVal.int IntKind.i64 (IntKind.i64.wrap (x01 + (1 : Int)))]))).length) &&
 true)
 (((x1.set x02.toNat (CVal.agg (CVal.int IntKind.i64 x01 :: List.drop (1 : Nat) y.cells))).set
 x02.toNat
 (CVal.agg
 (splice y_1.cells (1 : Nat)
 [CVal.int IntKind.i64 (IntKind.i64.wrap (x01 + (1 : Int)))])))[x02.toNat]?.bind
 fun y_2 =>
 br (y_2.isAgg && decide ((3 : Nat) ≤ y_2.cells.length))
 (br (decide ((0 : Int) ≤ x02) && true)
 (br
 (decide
 (x02.toNat <
 (((x1.set x02.toNat
 (CVal.agg
 (CVal.int IntKind.i64 x01 :: List.drop (1 : Nat) y.cells))).set
 x02.toNat
 (CVal.agg
 (splice y_1.cells (1 : Nat)
 [CVal.int IntKind.i64 (IntKind.i64.wrap (x01 + (1 : Int)))]))).set
 x02.toNat
 (CVal.agg
 (splice y_2.cells (2 : Nat)
 [CVal.int IntKind.i64
 (IntKind.i64.wrap
 (IntKind.i64.wrap (x01 + (1 : Int)) + (1 : Int)))]))).length) &&
 true)
 ((((x1.set x02.toNat
 (CVal.agg
 (CVal.int IntKind.i64 x01 :: List.drop (1 : Nat) y.cells))).set
 x02.toNat
 (CVal.agg
 (splice y_1.cells (1 : Nat)
 [CVal.int IntKind.i64 (IntKind.i64.wrap (x01 + (1 : Int)))]))).set
 x02.toNat
 (CVal.agg
 (splice y_2.cells (2 : Nat)
 [CVal.int IntKind.i64
 (IntKind.i64.wrap
 (IntKind.i64.wrap (x01 + (1 : Int)) + (1 : Int)))])))[x02.toNat]?.bind
 fun y_3 =>
 br (y_3.isAgg && decide ((4 : Nat) ≤ y_3.cells.length))
 (br (decide ((0 : Int) ≤ x02) && true)
 (br
 (decide
 (x02.toNat <
 ((((x1.set x02.toNat
 (CVal.agg
 (CVal.int IntKind.i64 x01 ::
 List.drop (1 : Nat) y.cells))).set
 x02.toNat
 (CVal.agg
 (splice y_1.cells (1 : Nat)
 [CVal.int IntKind.i64
 (IntKind.i64.wrap (x01 + (1 : Int)))]))).set
 x02.toNat
 (CVal.agg
 (splice y_2.cells (2 : Nat)
 [CVal.int IntKind.i64
 (IntKind.i64.wrap
 (IntKind.i64.wrap (x01 + (1 : Int)) +
 (1 : Int)))]))).set
 x02.toNat
 (CVal.agg
 (splice y_3.cells (3 : Nat)
 [CVal.int IntKind.i64
 (IntKind.i64.wrap
 (IntKind.i64.wrap
 (IntKind.i64.wrap (x01 + (1 : Int)) + (1 : Int)) +
 (1 : Int)))]))).length) &&
 true)
 (((((x1.set x02.toNat
 (CVal.agg
 (CVal.int IntKind.i64 x01 ::
 List.drop (1 : Nat) y.cells))).set
 x02.toNat
 (CVal.agg
 (splice y_1.cells (1 : Nat)
 [CVal.int IntKind.i64
 (IntKind.i64.wrap (x01 + (1 : Int)))]))).set
 x02.toNat
 (CVal.agg
 (splice y_2.cells (2 : Nat)
 [CVal.int IntKind.i64
 (IntKind.i64.wrap
 (IntKind.i64.wrap (x01 + (1 : Int)) + (1 : Int)))]))).set
 x02.toNat
 (CVal.agg
 (splice y_3.cells (3 : Nat)
 [CVal.int IntKind.i64
 (IntKind.i64.wrap
 (IntKind.i64.wrap
 (IntKind.i64.wrap (x01 + (1 : Int)) + (1 : Int)) +
 (1 : Int)))])))[x02.toNat]?.bind
 fun y_4 =>
 br (y_4.isAgg && decide ((5 : Nat) ≤ y_4.cells.length))
 (br (decide ((0 : Int) ≤ x02) && true)
 (br
 (decide
 (x02.toNat <
 (((((x1.set x02.toNat
 (CVal.agg
 (CVal.int IntKind.i64 x01 ::
 List.drop (1 : Nat) y.cells))).set
 x02.toNat
 (CVal.agg
 (splice y_1.cells (1 : Nat)
 [CVal.int IntKind.i64
 (IntKind.i64.wrap
 (x01 + (1 : Int)))]))).set
 x02.toNat
 (CVal.agg
 (splice y_2.cells (2 : Nat)
 [CVal.int IntKind.i64
 (IntKind.i64.wrap
 (IntKind.i64.wrap (x01 + (1 : Int)) +
 (1 : Int)))]))).set
 x02.toNat
 (CVal.agg
 (splice y_3.cells (3 : Nat)
 [CVal.int IntKind.i64
 (IntKind.i64.wrap
 (IntKind.i64.wrap
 (IntKind.i64.wrap (x01 + (1 : Int)) +
 (1 : Int)) +
 (1 : Int)))]))).set
 x02.toNat
 (CVal.agg
 (splice y_4.cells (4 : Nat)
 [CVal.int IntKind.i64
 (IntKind.i64.wrap
 (IntKind.i64.wrap
 (IntKind.i64.wrap
 (IntKind.i64.wrap (x01 + (1 : Int)) +
 (1 : Int)) +
 (1 : Int)) +
 (1 : Int)))]))).length) &&
 true)
 ((((((x1.set x02.toNat
 (CVal.agg
 (CVal.int IntKind.i64 x01 ::
 List.drop (1 : Nat) y.cells))).set
 x02.toNat
 (CVal.agg
 (splice y_1.cells (1 : Nat)
 [CVal.int IntKind.i64
 (IntKind.i64.wrap (x01 + (1 : Int)))]))).set
 x02.toNat
 (CVal.agg
 (splice y_2.cells (2 : Nat)
 [CVal.int IntKind.i64
 (IntKind.i64.wrap
 (IntKind.i64.wrap (x01 + (1 : Int)) +
 (1 : Int)))]))).set
 x02.toNat
 (CVal.agg
 (splice y_3.cells (3 : Nat)
 [CVal.int IntKind.i64
 (IntKind.i64.wrap
 (IntKind.i64.wrap
 (IntKind.i64.wrap (x01 + (1 : Int)) +
 (1 : Int)) +
 (1 : Int)))]))).set
 x02.toNat
 (CVal.agg
 (splice y_4.cells (4 : Nat)
 [CVal.int IntKind.i64
 (IntKind.i64.wrap
 (IntKind.i64.wrap
 (IntKind.i64.wrap
 (IntKind.i64.wrap (x01 + (1 : Int)) +
 (1 : Int)) +
 (1 : Int)) +
 (1 : Int)))])))[x02.toNat]?.bind
 fun y_5 =>
 (y_5.cell (5 : Nat)).bind fun c =>
 c.asSl.bind fun xs =>
 (((((x1.set x02.toNat
 (CVal.agg
 (CVal.int IntKind.i64 x01 ::
 List.drop (1 : Nat) y.cells))).set
 x02.toNat
 (CVal.agg
 (splice y_1.cells (1 : Nat)
 [CVal.int IntKind.i64
 (IntKind.i64.wrap
 (x01 + (1 : Int)))]))).set
 x02.toNat
 (CVal.agg
 (splice y_2.cells (2 : Nat)
 [CVal.int IntKind.i64
 (IntKind.i64.wrap
 (IntKind.i64.wrap (x01 + (1 : Int)) +
 (1 : Int)))]))).set
 x02.toNat
 (CVal.agg
 (splice y_3.cells (3 : Nat)
 [CVal.int IntKind.i64
 (IntKind.i64.wrap
 (IntKind.i64.wrap
 (IntKind.i64.wrap (x01 + (1 : Int)) +
 (1 : Int)) +
 (1 : Int)))]))).set
 x02.toNat
 (CVal.agg
 (splice y_4.cells (4 : Nat)
 [CVal.int IntKind.i64
 (IntKind.i64.wrap
 (IntKind.i64.wrap
 (IntKind.i64.wrap
 (IntKind.i64.wrap (x01 + (1 : Int)) +
 (1 : Int)) +
 (1 : Int)) +
 (1 : Int)))])))[x02.toNat]?.bind
 fun y_6 =>
 (y_6.cell (5 : Nat)).bind fun c =>
 c.asSl.bind fun xs =>
 br (xs.all (CVal.fits false (1 : Nat)))
 ((C f_l_markIntS
 [AVal.lref (0 : Nat) (0 : Nat),
 AVal.v
 (CVal.int IntKind.i64
 (IntKind.i64.wrap
 (IntKind.i64.wrap
 (IntKind.i64.wrap
 (IntKind.i64.wrap
 (IntKind.i64.wrap
 (x01 + (1 : Int)) +
 (1 : Int)) +
 (1 : Int)) +
 (1 : Int)) +
 (1 : Int))))]
 [PB.arr (Md.mk true true (0 : Nat)) false (1 : Nat)
 xs]).bind
 fun r =>
 r.2[(0 : Nat)]?.bind fun y_7 =>
 br (decide ((0 : Int) ≤ x02) && true)
 (br
 (decide
 (x02.toNat <
 ((((((x1.set x02.toNat
 (CVal.agg
 (CVal.int
 IntKind.i64
 x01 ::
 List.drop
 (1 : Nat)
 y.cells))).set
 x02.toNat
 (CVal.agg
 (splice y_1.cells
 (1 : Nat)
 [CVal.int
 IntKind.i64
 (IntKind.i64.wrap
 (x01 +
 (1 :
 Int)))]))).set
 x02.toNat
 (CVal.agg
 (splice y_2.cells
 (2 : Nat)
 [CVal.int IntKind.i64
 (IntKind.i64.wrap
 (IntKind.i64.wrap
 (x01 +
 (1 : Int)) +
 (1 :
 Int)))]))).set
 x02.toNat
 (CVal.agg
 (splice y_3.cells (3 : Nat)
 [CVal.int IntKind.i64
 (IntKind.i64.wrap
 (IntKind.i64.wrap
 (IntKind.i64.wrap
 (x01 +
 (1 : Int)) +
 (1 : Int)) +
 (1 : Int)))]))).set
 x02.toNat
 (CVal.agg
 (splice y_4.cells (4 : Nat)
 [CVal.int IntKind.i64
 (IntKind.i64.wrap
 (IntKind.i64.wrap
 (IntKind.i64.wrap
 (IntKind.i64.wrap
 (x01 +
 (1 : Int)) +
 (1 : Int)) +
 (1 : Int)) +
 (1 : Int)))]))).set
 x02.toNat
 (y_6.putCell (5 : Nat)
 (CVal.sl y_7))).length) &&
 true)
 (br (r.1.isFlat && true)
 ((CVal.asInt IntKind.i64 r.1).bind fun n =>
 ((((((x1.set x02.toNat
 (CVal.agg
 (CVal.int
 IntKind.i64
 x01 ::
 List.drop
 (1 : Nat)
 y.cells))).set
 x02.toNat
 (CVal.agg
 (splice y_1.cells
 (1 : Nat)
 [CVal.int
 IntKind.i64
 (IntKind.i64.wrap
 (x01 +
 (1 :
 Int)))]))).set
 x02.toNat
 (CVal.agg
 (splice y_2.cells
 (2 : Nat)
 [CVal.int IntKind.i64
 (IntKind.i64.wrap
 (IntKind.i64.wrap
 (x01 +
 (1 :
 Int)) +
 (1 :
 Int)))]))).set
 x02.toNat
 (CVal.agg
 (splice y_3.cells (3 : Nat)
 [CVal.int IntKind.i64
 (IntKind.i64.wrap
 (IntKind.i64.wrap
 (IntKind.i64.wrap
 (x01 +
 (1 :
 Int)) +
 (1 : Int)) +
 (1 :
 Int)))]))).set
 x02.toNat
 (CVal.agg
 (splice y_4.cells (4 : Nat)
 [CVal.int IntKind.i64
 (IntKind.i64.wrap
 (IntKind.i64.wrap
 (IntKind.i64.wrap
 (IntKind.i64.wrap
 (x01 +
 (1 :
 Int)) +
 (1 : Int)) +
 (1 : Int)) +
 (1 : Int)))]))).set
 x02.toNat
 (y_6.putCell (5 : Nat)
 (CVal.sl y_7)))[x02.toNat]?.bind
 fun y_8 =>
 br
 (y_8.isAgg &&
 decide ((7 : Nat) ≤ y_8.cells.length))
 ((CVal.asInt IntKind.i64 r.1).bind
 fun n_1 =>
 L f_l_markInsS (0 : Nat) lc_l_markInsS_0
 [PSh.arr (Md.mk true true (0 : Nat))
 false (7 : Nat)]
 k_l_markInsS_0
 ((PUnit.unit,
 IntKind.i64.wrap
 (n_1 + (1 : Int)),
 IntKind.i64.wrap
 (x02 + (1 : Int)),
 PUnit.unit),
 ((((((x1.set x02.toNat
 (CVal.agg
 (CVal.int
 IntKind.i64
 x01 ::
 List.drop
 (1 :
 Nat)
 y.cells))).set
 x02.toNat
 (CVal.agg
 (splice
 y_1.cells
 (1 : Nat)
 [CVal.int
 IntKind.i64
 (IntKind.i64.wrap
 (x01 +
 (1 :
 Int)))]))).set
 x02.toNat
 (CVal.agg
 (splice
 y_2.cells
 (2 : Nat)
 [CVal.int
 IntKind.i64
 (IntKind.i64.wrap
 (IntKind.i64.wrap
 (x01 +
 (1 :
 Int)) +
 (1 :
 Int)))]))).set
 x02.toNat
 (CVal.agg
 (splice y_3.cells
 (3 : Nat)
 [CVal.int
 IntKind.i64
 (IntKind.i64.wrap
 (IntKind.i64.wrap
 (IntKind.i64.wrap
 (x01 +
 (1 :
 Int)) +
 (1 :
 Int)) +
 (1 :
 Int)))]))).set
 x02.toNat
 (CVal.agg
 (splice y_4.cells
 (4 : Nat)
 [CVal.int IntKind.i64
 (IntKind.i64.wrap
 (IntKind.i64.wrap
 (IntKind.i64.wrap
 (IntKind.i64.wrap
 (x01 +
 (1 :
 Int)) +
 (1 :
 Int)) +
 (1 :
 Int)) +
 (1 :
 Int)))]))).set
 x02.toNat
 (y_6.putCell (5 : Nat)
 (CVal.sl y_7))).set
 x02.toNat
 (CVal.agg
 (splice y_8.cells (6 : Nat)
 [CVal.int IntKind.i64 n])),
 PUnit.unit))
 none)
 none)
 none)
 none)
 none)
 none)
 none)
 none)
 none)
 none)
 none)
 none)
 none)
 none)
 none)
 none)
 none)
 none)
 none)
 none))
 none)
 none)
 (some (LO.out (0 : Nat) ((PUnit.unit, x01, x02, PUnit.unit), x1, PUnit.unit)))
theorem el_l_markInsS_0 (C : CallT) (L : LoopT) (x01 : Int) (x02 : Int) (x1 : List CVal) : evL E N C L f_l_markInsS 0 lc_l_markInsS_0 [PSh.arr (Md.mk true true (0 : Nat)) false (7 : Nat)] k_l_markInsS_0 (((), x01, x02, ()), x1, ()) = nl_l_markInsS_0 C L x01 x02 x1 := by kernel_rfl
theorem gl_l_markInsS_0 (x01 : Int) (x02 : Int) (x1 : List CVal) (R : LO k_l_markInsS_0.T) (h : nl_l_markInsS_0 CC LL x01 x02 x1 = some R) : LL f_l_markInsS 0 lc_l_markInsS_0 [PSh.arr (Md.mk true true (0 : Nat)) false (7 : Nat)] k_l_markInsS_0 (((), x01, x02, ()), x1, ()) = some R := loopW ((el_l_markInsS_0 CC LL x01 x02 x1).trans h)
noncomputable def nl_s_l9Ins_3 (C : CallT) (L : LoopT) (x01 : Int) (x10 : Int) (x11 : Int) (x12 : Int) (x13 : Int) (x14 : Int) (x15 : List CVal) (x16 : Int) : Option (LO k_s_l9Ins_3.T) :=
 br (decide (x01 < (↑x15.length : Int)))
 (br (decide ((0 : Int) ≤ IntKind.i64.wrap (x01 - (1 : Int))) && true)
 (x15[(IntKind.i64.wrap (x01 - (1 : Int))).toNat]?.bind fun y =>
 br (CVal.fits false (1 : Nat) y)
 ((y.cell (0 : Nat)).bind fun c =>
 br (decide ((0 : Int) ≤ x01) && true)
 (x15[x01.toNat]?.bind fun y =>
 br (CVal.fits false (1 : Nat) y)
 ((y.cell (0 : Nat)).bind fun c_1 =>
 (CVal.asInt IntKind.i64 c).bind fun n =>
 (CVal.asInt IntKind.i64 c_1).bind fun n_1 =>
 br (decide (n_1 ≤ n)) (some (LO.ret (CVal.bool false, [])))
 (L f_s_l9Ins (3 : Nat) lc_s_l9Ins_3 [] k_s_l9Ins_3
 ((PUnit.unit, IntKind.i64.wrap (x01 + (1 : Int)), PUnit.unit),
 (x10, x11, x12, x13, x14, x15, x16, PUnit.unit), PUnit.unit)))
 none)
 none)
 none)
 none)
 (some (LO.out (3 : Nat) ((PUnit.unit, x01, PUnit.unit), (x10, x11, x12, x13, x14, x15, x16, PUnit.unit), PUnit.unit)))
theorem el_s_l9Ins_3 (C : CallT) (L : LoopT) (x01 : Int) (x10 : Int) (x11 : Int) (x12 : Int) (x13 : Int) (x14 : Int) (x15 : List CVal) (x16 : Int) : evL E N C L f_s_l9Ins 3 lc_s_l9Ins_3 [] k_s_l9Ins_3 (((), x01, ()), (x10, x11, x12, x13, x14, x15, x16, ()), ()) = nl_s_l9Ins_3 C L x01 x10 x11 x12 x13 x14 x15 x16 := by kernel_rfl
theorem gl_s_l9Ins_3 (x01 : Int) (x10 : Int) (x11 : Int) (x12 : Int) (x13 : Int) (x14 : Int) (x15 : List CVal) (x16 : Int) (R : LO k_s_l9Ins_3.T) (h : nl_s_l9Ins_3 CC LL x01 x10 x11 x12 x13 x14 x15 x16 = some R) : LL f_s_l9Ins 3 lc_s_l9Ins_3 [] k_s_l9Ins_3 (((), x01, ()), (x10, x11, x12, x13, x14, x15, x16, ()), ()) = some R := loopW ((el_s_l9Ins_3 CC LL x01 x10 x11 x12 x13 x14 x15 x16).trans h)
noncomputable def nl_i_guardOf_0 (C : CallT) (L : LoopT) (x01 : List CVal) (x02 : Int) (x03 : Int) (x1 : List CVal) : Option (LO k_i_guardOf_0.T) :=
 br (decide (x03 < x02))
 (br (decide ((0 : Int) ≤ x03) && true)
 (x01[x03.toNat]?.bind fun y =>
 br (CVal.fits true (7 : Nat) y)
 ((y.sub (0 : Nat) (7 : Nat)).bind fun y =>
 br (CVal.isAggN (7 : Nat) y)
 ((y.cell (0 : Nat)).bind fun c =>
 (y.cell (1 : Nat)).bind fun c_1 =>
 (y.cell (2 : Nat)).bind fun c_2 =>
 (y.cell (3 : Nat)).bind fun c_3 =>
 (y.cell (4 : Nat)).bind fun c_4 =>
 (y.cell (5 : Nat)).bind fun c_5 =>
 (y.cell (6 : Nat)).bind fun c_6 =>
 (CVal.asInt IntKind.i64 c).bind fun n =>
 br (decide (n = (17 : Int)))
 (br (decide (x1.length + (1 : Nat) ≤ (4294967296 : Nat)) && true && true)
 (L f_i_guardOf (0 : Nat) lc_i_guardOf_0 [] k_i_guardOf_0
 ((PUnit.unit, x01, x02, IntKind.i64.wrap (x03 + (1 : Int)), PUnit.unit),
 x1 ++ [CVal.int IntKind.i64 x03], PUnit.unit))
 none)
 ((CVal.asInt IntKind.i64 c).bind fun n =>
 br (decide (n = (18 : Int)))
 (br
 (decide
 ((0 : Int) ≤
 bif
 decide
 ((0 : Int) < IntKind.i64.wrap ((↑x1.length : Int) - (1 : Int))) then
 IntKind.i64.wrap ((↑x1.length : Int) - (1 : Int))
 else (0 : Int)) &&
 decide
 ((bif
 decide
 ((0 : Int) < IntKind.i64.wrap ((↑x1.length : Int) - (1 : Int))) then
 IntKind.i64.wrap ((↑x1.length : Int) - (1 : Int))
 else (0 : Int)) ≤
 (↑x1.length : Int)) &&
 true)
 (L f_i_guardOf (0 : Nat) lc_i_guardOf_0 [] k_i_guardOf_0
 ((PUnit.unit, x01, x02, IntKind.i64.wrap (x03 + (1 : Int)), PUnit.unit),
 List.take
 (bif
 decide
 ((0 : Int) < IntKind.i64.wrap ((↑x1.length : Int) - (1 : Int))) then
 IntKind.i64.wrap ((↑x1.length : Int) - (1 : Int))
 else (0 : Int)).toNat
 x1,
 PUnit.unit))
 none)
 (L f_i_guardOf (0 : Nat) lc_i_guardOf_0 [] k_i_guardOf_0
 ((PUnit.unit, x01, x02, IntKind.i64.wrap (x03 + (1 : Int)), PUnit.unit), x1,
 PUnit.unit))))
 none)
 none)
 none)
 (some (LO.out (0 : Nat) ((PUnit.unit, x01, x02, x03, PUnit.unit), x1, PUnit.unit)))
theorem el_i_guardOf_0 (C : CallT) (L : LoopT) (x01 : List CVal) (x02 : Int) (x03 : Int) (x1 : List CVal) : evL E N C L f_i_guardOf 0 lc_i_guardOf_0 [] k_i_guardOf_0 (((), x01, x02, x03, ()), x1, ()) = nl_i_guardOf_0 C L x01 x02 x03 x1 := by kernel_rfl
theorem gl_i_guardOf_0 (x01 : List CVal) (x02 : Int) (x03 : Int) (x1 : List CVal) (R : LO k_i_guardOf_0.T) (h : nl_i_guardOf_0 CC LL x01 x02 x03 x1 = some R) : LL f_i_guardOf 0 lc_i_guardOf_0 [] k_i_guardOf_0 (((), x01, x02, x03, ()), x1, ()) = some R := loopW ((el_i_guardOf_0 CC LL x01 x02 x03 x1).trans h)
noncomputable def nl_slices_IndexFunc_Ins_0 (C : CallT) (L : LoopT) (x00 : List CVal) (x01 : CVal) (x02 : Int) (x03 : Int) : Option (LO k_slices_IndexFunc_Ins_0.T) :=
 br (decide (x03 < x02))
 (br (decide ((0 : Int) ≤ x03) && true)
 (x00[x03.toNat]?.bind fun y =>
 br (CVal.fits true (7 : Nat) y)
 ((y.sub (0 : Nat) (7 : Nat)).bind fun y =>
 (C apId [AVal.v x01, AVal.v y] []).bind fun r =>
 r.1.asBool.bind fun b =>
 br b (some (LO.ret (CVal.int IntKind.i64 x03, [])))
 (L f_slices_IndexFunc_Ins (0 : Nat) lc_slices_IndexFunc_Ins_0 [] k_slices_IndexFunc_Ins_0
 ((x00, x01, x02, IntKind.i64.wrap (x03 + (1 : Int)), PUnit.unit), PUnit.unit)))
 none)
 none)
 (some (LO.out (0 : Nat) ((x00, x01, x02, x03, PUnit.unit), PUnit.unit)))
theorem el_slices_IndexFunc_Ins_0 (C : CallT) (L : LoopT) (x00 : List CVal) (x01 : CVal) (x02 : Int) (x03 : Int) : evL E N C L f_slices_IndexFunc_Ins 0 lc_slices_IndexFunc_Ins_0 [] k_slices_IndexFunc_Ins_0 ((x00, x01, x02, x03, ()), ()) = nl_slices_IndexFunc_Ins_0 C L x00 x01 x02 x03 := by kernel_rfl
theorem gl_slices_IndexFunc_Ins_0 (x00 : List CVal) (x01 : CVal) (x02 : Int) (x03 : Int) (R : LO k_slices_IndexFunc_Ins_0.T) (h : nl_slices_IndexFunc_Ins_0 CC LL x00 x01 x02 x03 = some R) : LL f_slices_IndexFunc_Ins 0 lc_slices_IndexFunc_Ins_0 [] k_slices_IndexFunc_Ins_0 ((x00, x01, x02, x03, ()), ()) = some R := loopW ((el_slices_IndexFunc_Ins_0 CC LL x00 x01 x02 x03).trans h)
end Go.Proofs.Ytmjjaoffeajcbaa.Abs
