/- What the functions come to in the abstract machine. -/
import Derived.Test.YtmjjaoffeajcbaaL1Ann
import Derived.KernelRfl
set_option linter.unusedVariables false
set_option maxRecDepth 100000
namespace Go.Proofs.Ytmjjaoffeajcbaa.Abs
open Go Go.Proofs
noncomputable def nf_l_FnExactLiveOk (C : CallT) (L : LoopT) (a0 : Int) (a1 : Int) (a2 : Int) (a3 : List CVal) (b : List CVal) : Option Ret :=
 (C f_l_szPiece
 [AVal.v (CVal.agg [CVal.int IntKind.i64 a0, CVal.int IntKind.i64 a1, CVal.int IntKind.i64 a2, CVal.sl a3]),
 AVal.v (CVal.int IntKind.i64 (1048576 : Int))]
 []).bind
 fun r =>
 (CVal.asInt IntKind.i64 r.1).bind fun n =>
 br (decide (n < (0 : Int))) (some (CVal.bool true, []))
 ((C f_l_szIntSS [AVal.v (CVal.sl b), AVal.v r.1] []).bind fun r =>
 (CVal.asInt IntKind.i64 r.1).bind fun n =>
 br (decide (n < (0 : Int))) (some (CVal.bool true, []))
 ((C f_l_toPiece
 [AVal.v
 (CVal.agg
 [CVal.int IntKind.i64 a0, CVal.int IntKind.i64 a1, CVal.int IntKind.i64 a2, CVal.sl a3])]
 []).bind
 fun r =>
 (C f_l_toIntSS [AVal.v (CVal.sl b)] []).bind fun r_1 =>
 (C f_s_LiveOk [AVal.v r.1, AVal.v r_1.1] []).bind fun r =>
 (C f_l_toPiece
 [AVal.v
 (CVal.agg
 [CVal.int IntKind.i64 a0, CVal.int IntKind.i64 a1, CVal.int IntKind.i64 a2, CVal.sl a3])]
 []).bind
 fun r_2 =>
 br (CVal.isAggN (4 : Nat) r_2.1)
 ((r_2.1.cell (0 : Nat)).bind fun c =>
 (r_2.1.cell (1 : Nat)).bind fun c_1 =>
 (r_2.1.cell (2 : Nat)).bind fun c_2 =>
 (r_2.1.cell (3 : Nat)).bind fun c_3 =>
 c_3.asSl.bind fun xs =>
 (C f_l_toIntSS [AVal.v (CVal.sl b)] []).bind fun r_3 =>
 (C f_i_LiveOk [AVal.v (CVal.agg [c, c_1, c_2, CVal.sl xs]), AVal.v r_3.1] []).bind
 fun r_4 =>
 br (!scalar r_4.1) none
 (r_4.1.asBool.bind fun b_1 =>
 r.1.asBool.bind fun b_2 =>
 br (!b_1 == b_2) (some (CVal.bool false, []))
 ((C f_l_toPiece
 [AVal.v
 (CVal.agg
 [CVal.int IntKind.i64 a0, CVal.int IntKind.i64 a1,
 CVal.int IntKind.i64 a2, CVal.sl a3])]
 []).bind
 fun r =>
 (C f_l_eqPiece [AVal.v (CVal.agg [c, c_1, c_2, CVal.sl xs]), AVal.v r.1]
 []).bind
 fun r =>
 br (!scalar r.1) none
 (r.1.asBool.bind fun b_3 =>
 br (!b_3) (some (CVal.bool false, []))
 ((C f_l_toIntSS [AVal.v (CVal.sl b)] []).bind fun r =>
 (C f_l_eqIntSS [AVal.v r_3.1, AVal.v r.1] []).bind fun r =>
 r.1.asBool.bind fun b =>
 br (!b) (some (CVal.bool false, []))
 (some (CVal.bool true, [])))))))
 none))
theorem eq_l_FnExactLiveOk (C : CallT) (L : LoopT) (a0 : Int) (a1 : Int) (a2 : Int) (a3 : List CVal) (b : List CVal) : evF E N C L f_l_FnExactLiveOk [AVal.v (CVal.agg [CVal.int IntKind.i64 a0, CVal.int IntKind.i64 a1, CVal.int IntKind.i64 a2, CVal.sl a3]),
 AVal.v (CVal.sl b)] [] = nf_l_FnExactLiveOk C L a0 a1 a2 a3 b := by kernel_rfl
theorem go_l_FnExactLiveOk (a0 : Int) (a1 : Int) (a2 : Int) (a3 : List CVal) (b : List CVal) (R : Ret) (h : nf_l_FnExactLiveOk CC LL a0 a1 a2 a3 b = some R) : CC f_l_FnExactLiveOk [AVal.v (CVal.agg [CVal.int IntKind.i64 a0, CVal.int IntKind.i64 a1, CVal.int IntKind.i64 a2, CVal.sl a3]),
 AVal.v (CVal.sl b)] [] = some R := fnW (by decide) rfl ((eq_l_FnExactLiveOk CC LL a0 a1 a2 a3 b).trans h)
noncomputable def nf_l_toPiece (C : CallT) (L : LoopT) (a0 : Int) (a1 : Int) (a2 : Int) (a3 : List CVal) : Option Ret :=
 (C f_l_toInsS [AVal.v (CVal.sl a3)] []).bind fun r =>
 br r.1.isFlat
 (r.1.asSl.bind fun xs =>
 some (CVal.agg [CVal.int IntKind.i64 a0, CVal.int IntKind.i64 a1, CVal.int IntKind.i64 a2, CVal.sl xs], []))
 none
theorem eq_l_toPiece (C : CallT) (L : LoopT) (a0 : Int) (a1 : Int) (a2 : Int) (a3 : List CVal) : evF E N C L f_l_toPiece [AVal.v (CVal.agg [CVal.int IntKind.i64 a0, CVal.int IntKind.i64 a1, CVal.int IntKind.i64 a2, CVal.sl a3])] [] = nf_l_toPiece C L a0 a1 a2 a3 := by kernel_rfl
theorem go_l_toPiece (a0 : Int) (a1 : Int) (a2 : Int) (a3 : List CVal) (R : Ret) (h : nf_l_toPiece CC LL a0 a1 a2 a3 = some R) : CC f_l_toPiece [AVal.v (CVal.agg [CVal.int IntKind.i64 a0, CVal.int IntKind.i64 a1, CVal.int IntKind.i64 a2, CVal.sl a3])] [] = some R := fnW (by decide) rfl ((eq_l_toPiece CC LL a0 a1 a2 a3).trans h)
noncomputable def nf_l_eqPiece (C : CallT) (L : LoopT) (a0 : Int) (a1 : Int) (a2 : Int) (a3 : List CVal) (b0 : Int) (b1 : Int) (b2 : Int) (b3 : List CVal) : Option Ret :=
 br (!decide (a0 = b0)) (some (CVal.bool false, []))
 (br (!decide (a1 = b1)) (some (CVal.bool false, []))
 (br (!decide (a2 = b2)) (some (CVal.bool false, []))
 ((C f_l_eqInsS [AVal.v (CVal.sl a3), AVal.v (CVal.sl b3)] []).bind fun r =>
 r.1.asBool.bind fun b => br (!b) (some (CVal.bool false, [])) (some (CVal.bool true, [])))))
theorem eq_l_eqPiece (C : CallT) (L : LoopT) (a0 : Int) (a1 : Int) (a2 : Int) (a3 : List CVal) (b0 : Int) (b1 : Int) (b2 : Int) (b3 : List CVal) : evF E N C L f_l_eqPiece [AVal.v (CVal.agg [CVal.int IntKind.i64 a0, CVal.int IntKind.i64 a1, CVal.int IntKind.i64 a2, CVal.sl a3]),
 AVal.v (CVal.agg [CVal.int IntKind.i64 b0, CVal.int IntKind.i64 b1, CVal.int IntKind.i64 b2, CVal.sl b3])] [] = nf_l_eqPiece C L a0 a1 a2 a3 b0 b1 b2 b3 := by kernel_rfl
theorem go_l_eqPiece (a0 : Int) (a1 : Int) (a2 : Int) (a3 : List CVal) (b0 : Int) (b1 : Int) (b2 : Int) (b3 : List CVal) (R : Ret) (h : nf_l_eqPiece CC LL a0 a1 a2 a3 b0 b1 b2 b3 = some R) : CC f_l_eqPiece [AVal.v (CVal.agg [CVal.int IntKind.i64 a0, CVal.int IntKind.i64 a1, CVal.int IntKind.i64 a2, CVal.sl a3]),
 AVal.v (CVal.agg [CVal.int IntKind.i64 b0, CVal.int IntKind.i64 b1, CVal.int IntKind.i64 b2, CVal.sl b3])] [] = some R := fnW (by decide) rfl ((eq_l_eqPiece CC LL a0 a1 a2 a3 b0 b1 b2 b3).trans h)
noncomputable def nf_l_markPiece (C : CallT) (L : LoopT) (a0 : Int) (a1 : Int) (a2 : Int) (a3 : List CVal) (b : Int) : Option Ret :=
 (C f_l_markInsS [AVal.lref (0 : Nat) (0 : Nat), AVal.v (CVal.int IntKind.i64 b)]
 [PB.arr (Md.mk true true (0 : Nat)) false (7 : Nat) a3]).bind
 fun r => r.2[(0 : Nat)]?.bind fun y => some (r.1, [y])
theorem eq_l_markPiece (C : CallT) (L : LoopT) (a0 : Int) (a1 : Int) (a2 : Int) (a3 : List CVal) (b : Int) : evF E N C L f_l_markPiece [AVal.agg
 [AVal.v (CVal.int IntKind.i64 a0), AVal.v (CVal.int IntKind.i64 a1), AVal.v (CVal.int IntKind.i64 a2),
 AVal.lref (0 : Nat) (0 : Nat)],
 AVal.v (CVal.int IntKind.i64 b)] [PB.arr (Md.mk true true (0 : Nat)) false (7 : Nat) a3] = nf_l_markPiece C L a0 a1 a2 a3 b := by kernel_rfl
theorem go_l_markPiece (a0 : Int) (a1 : Int) (a2 : Int) (a3 : List CVal) (b : Int) (R : Ret) (h : nf_l_markPiece CC LL a0 a1 a2 a3 b = some R) : CC f_l_markPiece [AVal.agg
 [AVal.v (CVal.int IntKind.i64 a0), AVal.v (CVal.int IntKind.i64 a1), AVal.v (CVal.int IntKind.i64 a2),
 AVal.lref (0 : Nat) (0 : Nat)],
 AVal.v (CVal.int IntKind.i64 b)] [PB.arr (Md.mk true true (0 : Nat)) false (7 : Nat) a3] = some R := fnW (by decide) rfl ((eq_l_markPiece CC LL a0 a1 a2 a3 b).trans h)
noncomputable def nf_l_szIntS (C : CallT) (L : LoopT) (a : List CVal) (b : Int) : Option Ret :=
 br (decide (IntKind.i64.wrap (b - (↑a.length : Int)) < (0 : Int))) (some (CVal.int IntKind.i64 (-1 : Int), []))
 (some (CVal.int IntKind.i64 (IntKind.i64.wrap (b - (↑a.length : Int))), []))
theorem eq_l_szIntS (C : CallT) (L : LoopT) (a : List CVal) (b : Int) : evF E N C L f_l_szIntS [AVal.v (CVal.sl a), AVal.v (CVal.int IntKind.i64 b)] [] = nf_l_szIntS C L a b := by kernel_rfl
theorem go_l_szIntS (a : List CVal) (b : Int) (R : Ret) (h : nf_l_szIntS CC LL a b = some R) : CC f_l_szIntS [AVal.v (CVal.sl a), AVal.v (CVal.int IntKind.i64 b)] [] = some R := fnW (by decide) rfl ((eq_l_szIntS CC LL a b).trans h)
noncomputable def nf_s_l10New (C : CallT) (L : LoopT) (a0 : Int) (a1 : Int) (a2 : Int) (a3 : List CVal) : Option Ret :=
 (L f_s_l10New (0 : Nat) lc_s_l10New_0 [] k_s_l10New_0
 (((CVal.agg [CVal.int IntKind.i64 a0, CVal.int IntKind.i64 a1, CVal.int IntKind.i64 a2, CVal.sl a3]).fp (0 : Nat),
 PUnit.unit, (0 : Int), PUnit.unit),
 (a0, a1, a2, a3, PUnit.unit, false, PUnit.unit), [], PUnit.unit)).bind
 fun r =>
 loK r (fun r => some r) fun j p =>
 br (j == (0 : Nat))
 (some
 ((CVal.agg
 [CVal.int IntKind.i64 p.snd.fst.1, CVal.int IntKind.i64 p.snd.fst.snd.1,
 CVal.int IntKind.i64 p.snd.fst.snd.snd.1, CVal.sl p.snd.fst.snd.snd.snd.1, CVal.sl p.snd.snd.1,
 CVal.bool p.snd.fst.snd.snd.snd.snd.snd.1]).fp
 (0 : Nat),
 []))
 none
theorem eq_s_l10New (C : CallT) (L : LoopT) (a0 : Int) (a1 : Int) (a2 : Int) (a3 : List CVal) : evF E N C L f_s_l10New [AVal.v (CVal.agg [CVal.int IntKind.i64 a0, CVal.int IntKind.i64 a1, CVal.int IntKind.i64 a2, CVal.sl a3])] [] = nf_s_l10New C L a0 a1 a2 a3 := by kernel_rfl
theorem go_s_l10New (a0 : Int) (a1 : Int) (a2 : Int) (a3 : List CVal) (R : Ret) (h : nf_s_l10New CC LL a0 a1 a2 a3 = some R) : CC f_s_l10New [AVal.v (CVal.agg [CVal.int IntKind.i64 a0, CVal.int IntKind.i64 a1, CVal.int IntKind.i64 a2, CVal.sl a3])] [] = some R := fnW (by decide) rfl ((eq_s_l10New CC LL a0 a1 a2 a3).trans h)
noncomputable def nf_i_in (C : CallT) (L : LoopT) (a : Int) (b : Int) (c : Int) : Option Ret :=
 (br (decide (b ≤ a)) (some (decide (a ≤ c), PUnit.unit)) (some (false, PUnit.unit))).bind fun y =>
 some (CVal.bool y.1, [])
theorem eq_i_in (C : CallT) (L : LoopT) (a : Int) (b : Int) (c : Int) : evF E N C L f_i_in [AVal.v (CVal.int IntKind.i64 a), AVal.v (CVal.int IntKind.i64 b), AVal.v (CVal.int IntKind.i64 c)] [] = nf_i_in C L a b c := by kernel_rfl
theorem go_i_in (a : Int) (b : Int) (c : Int) (R : Ret) (h : nf_i_in CC LL a b c = some R) : CC f_i_in [AVal.v (CVal.int IntKind.i64 a), AVal.v (CVal.int IntKind.i64 b), AVal.v (CVal.int IntKind.i64 c)] [] = some R := fnW (by decide) rfl ((eq_i_in CC LL a b c).trans h)
noncomputable def nf_s_l10Solve (C : CallT) (L : LoopT) (a0 : Int) (a1 : Int) (a2 : Int) (a3 : List CVal) : Option Ret :=
 (C f_s_l10New
 [AVal.v (CVal.agg [CVal.int IntKind.i64 a0, CVal.int IntKind.i64 a1, CVal.int IntKind.i64 a2, CVal.sl a3])]
 []).bind
 fun r =>
 r.1.asFp.bind fun y =>
 br (decide (y.2 = (0 : Nat)) && CVal.isAggN (6 : Nat) y.1)
 ((y.1.cell (0 : Nat)).bind fun c =>
 (y.1.cell (1 : Nat)).bind fun c_1 =>
 (y.1.cell (2 : Nat)).bind fun c_2 =>
 (y.1.cell (3 : Nat)).bind fun c_3 =>
 (y.1.cell (4 : Nat)).bind fun c_4 =>
 (y.1.cell (5 : Nat)).bind fun c_5 =>
 c_4.asSl.bind fun xs =>
 (CVal.asInt IntKind.i64 c).bind fun n =>
 (CVal.asInt IntKind.i64 c_1).bind fun n_1 =>
 (CVal.asInt IntKind.i64 c_2).bind fun n_2 =>
 c_3.asSl.bind fun xs_1 =>
 (L f_s_l10Solve (0 : Nat) lc_s_l10Solve_0 [] k_s_l10Solve_0
 (((CVal.agg
 [CVal.int IntKind.i64 a0, CVal.int IntKind.i64 a1, CVal.int IntKind.i64 a2,
 CVal.sl a3]).fp
 (0 : Nat),
 PUnit.unit, PUnit.unit),
 (n, n_1, n_2, xs_1, PUnit.unit, true, PUnit.unit), xs, PUnit.unit)).bind
 fun r =>
 loK r (fun r => some r) fun j p =>
 br (j == (0 : Nat))
 (some
 ((CVal.agg
 [CVal.int IntKind.i64 p.snd.fst.1, CVal.int IntKind.i64 p.snd.fst.snd.1,
 CVal.int IntKind.i64 p.snd.fst.snd.snd.1, CVal.sl p.snd.fst.snd.snd.snd.1,
 CVal.sl p.snd.snd.1, CVal.bool p.snd.fst.snd.snd.snd.snd.snd.1]).fp
 (0 : Nat),
 []))
 none)
 none
theorem eq_s_l10Solve (C : CallT) (L : LoopT) (a0 : Int) (a1 : Int) (a2 : Int) (a3 : List CVal) : evF E N C L f_s_l10Solve [AVal.v (CVal.agg [CVal.int IntKind.i64 a0, CVal.int IntKind.i64 a1, CVal.int IntKind.i64 a2, CVal.sl a3])] [] = nf_s_l10Solve C L a0 a1 a2 a3 := by kernel_rfl
theorem go_s_l10Solve (a0 : Int) (a1 : Int) (a2 : Int) (a3 : List CVal) (R : Ret) (h : nf_s_l10Solve CC LL a0 a1 a2 a3 = some R) : CC f_s_l10Solve [AVal.v (CVal.agg [CVal.int IntKind.i64 a0, CVal.int IntKind.i64 a1, CVal.int IntKind.i64 a2, CVal.sl a3])] [] = some R := fnW (by decide) rfl ((eq_s_l10Solve CC LL a0 a1 a2 a3).trans h)
noncomputable def nf_l_markInsS (C : CallT) (L : LoopT) (a : List CVal) (b : Int) : Option Ret :=
 (L f_l_markInsS (0 : Nat) lc_l_markInsS_0 [PSh.arr (Md.mk true true (0 : Nat)) false (7 : Nat)] k_l_markInsS_0
 ((PUnit.unit, b, (0 : Int), PUnit.unit), a, PUnit.unit)).bind
 fun r =>
 loK r (fun r => some r) fun j p => br (j == (0 : Nat)) (some (CVal.int IntKind.i64 p.fst.snd.1, [p.snd.1])) none
theorem eq_l_markInsS (C : CallT) (L : LoopT) (a : List CVal) (b : Int) : evF E N C L f_l_markInsS [AVal.lref (0 : Nat) (0 : Nat), AVal.v (CVal.int IntKind.i64 b)] [PB.arr (Md.mk true true (0 : Nat)) false (7 : Nat) a] = nf_l_markInsS C L a b := by kernel_rfl
theorem go_l_markInsS (a : List CVal) (b : Int) (R : Ret) (h : nf_l_markInsS CC LL a b = some R) : CC f_l_markInsS [AVal.lref (0 : Nat) (0 : Nat), AVal.v (CVal.int IntKind.i64 b)] [PB.arr (Md.mk true true (0 : Nat)) false (7 : Nat) a] = some R := fnW (by decide) rfl ((eq_l_markInsS CC LL a b).trans h)
noncomputable def nf_l_toIns (C : CallT) (L : LoopT) (a0 : Int) (a1 : Int) (a2 : Int) (a3 : Int) (a4 : Int) (a5 : List CVal) (a6 : Int) : Option Ret :=
 (C f_l_toIntS [AVal.v (CVal.sl a5)] []).bind fun r =>
 br r.1.isFlat
 (r.1.asSl.bind fun xs =>
 some
 (CVal.agg
 [CVal.int IntKind.i64 a0, CVal.int IntKind.i64 a1, CVal.int IntKind.i64 a2, CVal.int IntKind.i64 a3,
 CVal.int IntKind.i64 a4, CVal.sl xs, CVal.int IntKind.i64 a6],
 []))
 none
theorem eq_l_toIns (C : CallT) (L : LoopT) (a0 : Int) (a1 : Int) (a2 : Int) (a3 : Int) (a4 : Int) (a5 : List CVal) (a6 : Int) : evF E N C L f_l_toIns [AVal.v
 (CVal.agg
 [CVal.int IntKind.i64 a0, CVal.int IntKind.i64 a1, CVal.int IntKind.i64 a2, CVal.int IntKind.i64 a3,
 CVal.int IntKind.i64 a4, CVal.sl a5, CVal.int IntKind.i64 a6])] [] = nf_l_toIns C L a0 a1 a2 a3 a4 a5 a6 := by kernel_rfl
theorem go_l_toIns (a0 : Int) (a1 : Int) (a2 : Int) (a3 : Int) (a4 : Int) (a5 : List CVal) (a6 : Int) (R : Ret) (h : nf_l_toIns CC LL a0 a1 a2 a3 a4 a5 a6 = some R) : CC f_l_toIns [AVal.v
 (CVal.agg
 [CVal.int IntKind.i64 a0, CVal.int IntKind.i64 a1, CVal.int IntKind.i64 a2, CVal.int IntKind.i64 a3,
 CVal.int IntKind.i64 a4, CVal.sl a5, CVal.int IntKind.i64 a6])] [] = some R := fnW (by decide) rfl ((eq_l_toIns CC LL a0 a1 a2 a3 a4 a5 a6).trans h)
noncomputable def nf_s_Writes (C : CallT) (L : LoopT) (a0 : Int) (a1 : Int) (a2 : Int) (a3 : Int) (a4 : Int) (a5 : List CVal) (a6 : Int) : Option Ret :=
 (br (decide (a0 = (17 : Int))) (some (true, PUnit.unit))
 ((C f_s_l9Uses [AVal.v (CVal.int IntKind.i64 a0)] []).bind fun r =>
 br r.1.isAgg ((r.1.cell (0 : Nat)).bind fun c => c.asBool.bind fun b => some (!b, PUnit.unit)) none)).bind
 fun y => br y.1 (some (CVal.int IntKind.i64 (-1 : Int), [])) (some (CVal.int IntKind.i64 a1, []))
theorem eq_s_Writes (C : CallT) (L : LoopT) (a0 : Int) (a1 : Int) (a2 : Int) (a3 : Int) (a4 : Int) (a5 : List CVal) (a6 : Int) : evF E N C L f_s_Writes [AVal.v
 (CVal.agg
 [CVal.int IntKind.i64 a0, CVal.int IntKind.i64 a1, CVal.int IntKind.i64 a2, CVal.int IntKind.i64 a3,
 CVal.int IntKind.i64 a4, CVal.sl a5, CVal.int IntKind.i64 a6])] [] = nf_s_Writes C L a0 a1 a2 a3 a4 a5 a6 := by kernel_rfl
theorem go_s_Writes (a0 : Int) (a1 : Int) (a2 : Int) (a3 : Int) (a4 : Int) (a5 : List CVal) (a6 : Int) (R : Ret) (h : nf_s_Writes CC LL a0 a1 a2 a3 a4 a5 a6 = some R) : CC f_s_Writes [AVal.v
 (CVal.agg
 [CVal.int IntKind.i64 a0, CVal.int IntKind.i64 a1, CVal.int IntKind.i64 a2, CVal.int IntKind.i64 a3,
 CVal.int IntKind.i64 a4, CVal.sl a5, CVal.int IntKind.i64 a6])] [] = some R := fnW (by decide) rfl ((eq_s_Writes CC LL a0 a1 a2 a3 a4 a5 a6).trans h)
noncomputable def nf_s_l10May (C : CallT) (L : LoopT) (a : Int) : Option Ret :=
 br (decide (a = (5 : Int))) (some (CVal.bool true, []))
 (br (decide (a = (14 : Int))) (some (CVal.bool true, []))
 (br (decide (a = (16 : Int))) (some (CVal.bool true, []))
 (br (decide (a = (9 : Int))) (some (CVal.bool true, []))
 (br (decide (a = (10 : Int))) (some (CVal.bool true, []))
 (br (decide (a = (11 : Int))) (some (CVal.bool true, []))
 (br (decide (a = (12 : Int))) (some (CVal.bool true, [])) (some (CVal.bool false, []))))))))
theorem eq_s_l10May (C : CallT) (L : LoopT) (a : Int) : evF E N C L f_s_l10May [AVal.v (CVal.int IntKind.i64 a)] [] = nf_s_l10May C L a := by kernel_rfl
theorem go_s_l10May (a : Int) (R : Ret) (h : nf_s_l10May CC LL a = some R) : CC f_s_l10May [AVal.v (CVal.int IntKind.i64 a)] [] = some R := fnW (by decide) rfl ((eq_s_l10May CC LL a).trans h)
noncomputable def nf_i_ways (C : CallT) (L : LoopT) (a0 : Int) (a1 : Int) (a2 : Int) (a3 : List CVal) (b : Int) : Option Ret :=
 br (decide ((0 : Int) ≤ b) && true)
 (a3[b.toNat]?.bind fun y =>
 br (CVal.fits true (7 : Nat) y)
 ((y.sub (0 : Nat) (7 : Nat)).bind fun y =>
 br (CVal.isAggN (7 : Nat) y)
 ((y.cell (0 : Nat)).bind fun c =>
 (y.cell (1 : Nat)).bind fun c_1 =>
 (y.cell (2 : Nat)).bind fun c_2 =>
 (y.cell (3 : Nat)).bind fun c_3 =>
 (y.cell (4 : Nat)).bind fun c_4 =>
 (y.cell (5 : Nat)).bind fun c_5 =>
 (y.cell (6 : Nat)).bind fun c_6 =>
 ((CVal.asInt IntKind.i64 c).bind fun n =>
 br (decide (n = (13 : Int))) (some (true, PUnit.unit))
 ((CVal.asInt IntKind.i64 c).bind fun n =>
 br (decide (n = (11 : Int))) (some (true, PUnit.unit))
 ((CVal.asInt IntKind.i64 c).bind fun n =>
 some (decide (n = (12 : Int)), PUnit.unit)))).bind
 fun y =>
 br y.1
 (br (c_6.isFlat && true)
 ((CVal.asInt IntKind.i64 c_6).bind fun n =>
 ((CVal.asInt IntKind.i64 c).bind fun n =>
 br (!decide (n = (13 : Int)))
 ((CVal.asInt IntKind.i64 c).bind fun n =>
 br (!decide (n = (15 : Int)))
 ((CVal.asInt IntKind.i64 c).bind fun n =>
 some (!decide (n = (16 : Int)), PUnit.unit))
 (some (false, PUnit.unit)))
 (some (false, PUnit.unit))).bind
 fun y =>
 br y.1
 (some
 (CVal.sl
 [CVal.int IntKind.i64 n,
 CVal.int IntKind.i64 (IntKind.i64.wrap (b + (1 : Int)))],
 []))
 (some (CVal.sl [CVal.int IntKind.i64 n], [])))
 none)
 (((CVal.asInt IntKind.i64 c).bind fun n =>
 br (!decide (n = (13 : Int)))
 ((CVal.asInt IntKind.i64 c).bind fun n =>
 br (!decide (n = (15 : Int)))
 ((CVal.asInt IntKind.i64 c).bind fun n =>
 some (!decide (n = (16 : Int)), PUnit.unit))
 (some (false, PUnit.unit)))
 (some (false, PUnit.unit))).bind
 fun y =>
 br y.1 (some (CVal.sl [CVal.int IntKind.i64 (IntKind.i64.wrap (b + (1 : Int)))], []))
 (some (CVal.sl [], []))))
 none)
 none)
 none
theorem eq_i_ways (C : CallT) (L : LoopT) (a0 : Int) (a1 : Int) (a2 : Int) (a3 : List CVal) (b : Int) : evF E N C L f_i_ways [AVal.v (CVal.agg [CVal.int IntKind.i64 a0, CVal.int IntKind.i64 a1, CVal.int IntKind.i64 a2, CVal.sl a3]),
 AVal.v (CVal.int IntKind.i64 b)] [] = nf_i_ways C L a0 a1 a2 a3 b := by kernel_rfl
theorem go_i_ways (a0 : Int) (a1 : Int) (a2 : Int) (a3 : List CVal) (b : Int) (R : Ret) (h : nf_i_ways CC LL a0 a1 a2 a3 b = some R) : CC f_i_ways [AVal.v (CVal.agg [CVal.int IntKind.i64 a0, CVal.int IntKind.i64 a1, CVal.int IntKind.i64 a2, CVal.sl a3]),
 AVal.v (CVal.int IntKind.i64 b)] [] = some R := fnW (by decide) rfl ((eq_i_ways CC LL a0 a1 a2 a3 b).trans h)
noncomputable def nf_i_Reads (C : CallT) (L : LoopT) (a0 : Int) (a1 : Int) (a2 : Int) (a3 : Int) (a4 : Int) (a5 : List CVal) (a6 : Int) : Option Ret :=
 (C f_i_hasPart [AVal.v (CVal.int IntKind.i64 a0), AVal.v (CVal.int IntKind.u8 (88 : Int))] []).bind fun r =>
 r.1.asBool.bind fun b =>
 br b
 ((C f_i_hasPart [AVal.v (CVal.int IntKind.i64 a0), AVal.v (CVal.int IntKind.u8 (89 : Int))] []).bind fun r =>
 r.1.asBool.bind fun b =>
 br b
 (br (decide (a0 = (8 : Int)))
 (br (a5.all (CVal.fitsF false [CK.int IntKind.i64]))
 (br (decide ((2 : Nat) + a5.length ≤ (4294967296 : Nat)) && true && true)
 ((C f_slices_Sort_int [AVal.lref (0 : Nat) (0 : Nat)]
 [PB.arr (Md.mk true true (0 : Nat)) false (1 : Nat)
 (CVal.int IntKind.i64 a2 :: CVal.int IntKind.i64 a3 :: a5)]).bind
 fun r =>
 r.2[(0 : Nat)]?.bind fun y =>
 (C f_slices_Compact_int [AVal.lref (0 : Nat) (0 : Nat)]
 [PB.arr (Md.mk true false (0 : Nat)) false (1 : Nat) y]).bind
 fun r => r.2[(0 : Nat)]?.bind fun y => some (CVal.sl y, []))
 none)
 none)
 ((C f_slices_Sort_int [AVal.lref (0 : Nat) (0 : Nat)]
 [PB.arr (Md.mk true true (0 : Nat)) false (1 : Nat)
 [CVal.int IntKind.i64 a2, CVal.int IntKind.i64 a3]]).bind
 fun r =>
 r.2[(0 : Nat)]?.bind fun y =>
 (C f_slices_Compact_int [AVal.lref (0 : Nat) (0 : Nat)]
 [PB.arr (Md.mk true false (0 : Nat)) false (1 : Nat) y]).bind
 fun r => r.2[(0 : Nat)]?.bind fun y => some (CVal.sl y, [])))
 (br (decide (a0 = (8 : Int)))
 (br (a5.all (CVal.fitsF false [CK.int IntKind.i64]))
 (br (decide ((1 : Nat) + a5.length ≤ (4294967296 : Nat)) && true && true)
 ((C f_slices_Sort_int [AVal.lref (0 : Nat) (0 : Nat)]
 [PB.arr (Md.mk true true (0 : Nat)) false (1 : Nat) (CVal.int IntKind.i64 a2 :: a5)]).bind
 fun r =>
 r.2[(0 : Nat)]?.bind fun y =>
 (C f_slices_Compact_int [AVal.lref (0 : Nat) (0 : Nat)]
 [PB.arr (Md.mk true false (0 : Nat)) false (1 : Nat) y]).bind
 fun r => r.2[(0 : Nat)]?.bind fun y => some (CVal.sl y, []))
 none)
 none)
 ((C f_slices_Sort_int [AVal.lref (0 : Nat) (0 : Nat)]
 [PB.arr (Md.mk true true (0 : Nat)) false (1 : Nat) [CVal.int IntKind.i64 a2]]).bind
 fun r =>
 r.2[(0 : Nat)]?.bind fun y =>
 (C f_slices_Compact_int [AVal.lref (0 : Nat) (0 : Nat)]
 [PB.arr (Md.mk true false (0 : Nat)) false (1 : Nat) y]).bind
 fun r => r.2[(0 : Nat)]?.bind fun y => some (CVal.sl y, []))))
 ((C f_i_hasPart [AVal.v (CVal.int IntKind.i64 a0), AVal.v (CVal.int IntKind.u8 (89 : Int))] []).bind fun r =>
 r.1.asBool.bind fun b =>
 br b
 (br (decide (a0 = (8 : Int)))
 (br (a5.all (CVal.fitsF false [CK.int IntKind.i64]))
 (br (decide ((1 : Nat) + a5.length ≤ (4294967296 : Nat)) && true && true)
 ((C f_slices_Sort_int [AVal.lref (0 : Nat) (0 : Nat)]
 [PB.arr (Md.mk true true (0 : Nat)) false (1 : Nat) (CVal.int IntKind.i64 a3 :: a5)]).bind
 fun r =>
 r.2[(0 : Nat)]?.bind fun y =>
 (C f_slices_Compact_int [AVal.lref (0 : Nat) (0 : Nat)]
 [PB.arr (Md.mk true false (0 : Nat)) false (1 : Nat) y]).bind
 fun r => r.2[(0 : Nat)]?.bind fun y => some (CVal.sl y, []))
 none)
 none)
 ((C f_slices_Sort_int [AVal.lref (0 : Nat) (0 : Nat)]
 [PB.arr (Md.mk true true (0 : Nat)) false (1 : Nat) [CVal.int IntKind.i64 a3]]).bind
 fun r =>
 r.2[(0 : Nat)]?.bind fun y =>
 (C f_slices_Compact_int [AVal.lref (0 : Nat) (0 : Nat)]
 [PB.arr (Md.mk true false (0 : Nat)) false (1 : Nat) y]).bind
 fun r => r.2[(0 : Nat)]?.bind fun y => some (CVal.sl y, [])))
 (br (decide (a0 = (8 : Int)))
 (br (a5.all (CVal.fitsF false [CK.int IntKind.i64]))
 (br (decide (a5.length ≤ (4294967296 : Nat)))
 ((C f_slices_Sort_int [AVal.lref (0 : Nat) (0 : Nat)]
 [PB.arr (Md.mk true true (0 : Nat)) false (1 : Nat) a5]).bind
 fun r =>
 r.2[(0 : Nat)]?.bind fun y =>
 (C f_slices_Compact_int [AVal.lref (0 : Nat) (0 : Nat)]
 [PB.arr (Md.mk true false (0 : Nat)) false (1 : Nat) y]).bind
 fun r => r.2[(0 : Nat)]?.bind fun y => some (CVal.sl y, []))
 none)
 none)
 ((C f_slices_Sort_int [AVal.lref (0 : Nat) (0 : Nat)]
 [PB.arr (Md.mk true true (0 : Nat)) false (1 : Nat) []]).bind
 fun r =>
 r.2[(0 : Nat)]?.bind fun y =>
 (C f_slices_Compact_int [AVal.lref (0 : Nat) (0 : Nat)]
 [PB.arr (Md.mk true false (0 : Nat)) false (1 : Nat) []]).bind
 fun r => r.2[(0 : Nat)]?.bind fun y => some (CVal.sl y, []))))
theorem eq_i_Reads (C : CallT) (L : LoopT) (a0 : Int) (a1 : Int) (a2 : Int) (a3 : Int) (a4 : Int) (a5 : List CVal) (a6 : Int) : evF E N C L f_i_Reads [AVal.v
 (CVal.agg
 [CVal.int IntKind.i64 a0, CVal.int IntKind.i64 a1, CVal.int IntKind.i64 a2, CVal.int IntKind.i64 a3,
 CVal.int IntKind.i64 a4, CVal.sl a5, CVal.int IntKind.i64 a6])] [] = nf_i_Reads C L a0 a1 a2 a3 a4 a5 a6 := by kernel_rfl
theorem go_i_Reads (a0 : Int) (a1 : Int) (a2 : Int) (a3 : Int) (a4 : Int) (a5 : List CVal) (a6 : Int) (R : Ret) (h : nf_i_Reads CC LL a0 a1 a2 a3 a4 a5 a6 = some R) : CC f_i_Reads [AVal.v
 (CVal.agg
 [CVal.int IntKind.i64 a0, CVal.int IntKind.i64 a1, CVal.int IntKind.i64 a2, CVal.int IntKind.i64 a3,
 CVal.int IntKind.i64 a4, CVal.sl a5, CVal.int IntKind.i64 a6])] [] = some R := fnW (by decide) rfl ((eq_i_Reads CC LL a0 a1 a2 a3 a4 a5 a6).trans h)
noncomputable def nf_s_l9Uses (C : CallT) (L : LoopT) (a : Int) : Option Ret :=
 br (decide (a = (1 : Int))) (some (CVal.agg [CVal.bool true, CVal.bool false, CVal.bool false, CVal.bool false], []))
 (br (decide (a = (2 : Int))) (some (CVal.agg [CVal.bool true, CVal.bool false, CVal.bool false, CVal.bool false], []))
 (br (decide (a = (3 : Int)))
 (some (CVal.agg [CVal.bool true, CVal.bool false, CVal.bool false, CVal.bool false], []))
 (br (decide (a = (8 : Int)))
 (some (CVal.agg [CVal.bool true, CVal.bool false, CVal.bool false, CVal.bool false], []))
 (br (decide (a = (4 : Int)))
 (some (CVal.agg [CVal.bool true, CVal.bool true, CVal.bool false, CVal.bool false], []))
 (br (decide (a = (9 : Int)))
 (some (CVal.agg [CVal.bool true, CVal.bool true, CVal.bool false, CVal.bool false], []))
 (br (decide (a = (10 : Int)))
 (some (CVal.agg [CVal.bool true, CVal.bool true, CVal.bool false, CVal.bool false], []))
 (br (decide (a = (5 : Int)))
 (some (CVal.agg [CVal.bool true, CVal.bool true, CVal.bool true, CVal.bool false], []))
 (br (decide (a = (6 : Int)))
 (some (CVal.agg [CVal.bool true, CVal.bool true, CVal.bool true, CVal.bool false], []))
 (br (decide (a = (7 : Int)))
 (some (CVal.agg [CVal.bool true, CVal.bool true, CVal.bool true, CVal.bool false], []))
 (br (decide (a = (14 : Int)))
 (some (CVal.agg [CVal.bool true, CVal.bool true, CVal.bool true, CVal.bool false], []))
 (br (decide (a = (11 : Int)))
 (some (CVal.agg [CVal.bool false, CVal.bool true, CVal.bool false, CVal.bool true], []))
 (br (decide (a = (12 : Int)))
 (some (CVal.agg [CVal.bool false, CVal.bool true, CVal.bool false, CVal.bool true], []))
 (br (decide (a = (13 : Int)))
 (some (CVal.agg [CVal.bool false, CVal.bool false, CVal.bool false, CVal.bool true], []))
 (br (decide (a = (15 : Int)))
 (some (CVal.agg [CVal.bool false, CVal.bool true, CVal.bool false, CVal.bool false], []))
 (br (decide (a = (16 : Int)))
 (some
 (CVal.agg [CVal.bool false, CVal.bool true, CVal.bool false, CVal.bool false], []))
 (br (decide (a = (17 : Int)))
 (some
 (CVal.agg [CVal.bool true, CVal.bool false, CVal.bool false, CVal.bool true], []))
 (some
 (CVal.agg [CVal.bool false, CVal.bool false, CVal.bool false, CVal.bool false],
 []))))))))))))))))))
theorem eq_s_l9Uses (C : CallT) (L : LoopT) (a : Int) : evF E N C L f_s_l9Uses [AVal.v (CVal.int IntKind.i64 a)] [] = nf_s_l9Uses C L a := by kernel_rfl
theorem go_s_l9Uses (a : Int) (R : Ret) (h : nf_s_l9Uses CC LL a = some R) : CC f_s_l9Uses [AVal.v (CVal.int IntKind.i64 a)] [] = some R := fnW (by decide) rfl ((eq_s_l9Uses CC LL a).trans h)
noncomputable def nf_i_insOk (C : CallT) (L : LoopT) (a0 : Int) (a1 : Int) (a2 : Int) (a3 : List CVal) (b0 : Int) (b1 : Int) (b2 : Int) (b3 : Int) (b4 : Int) (b5 : List CVal) (b6 : Int) : Option Ret :=
 (C f_i_insForm [AVal.v (CVal.int IntKind.i64 b0)] []).bind fun r =>
 r.1.asTup.bind fun y =>
 y[(0 : Nat)]?.bind fun y =>
 r.1.asTup.bind fun y =>
 y[(1 : Nat)]?.bind fun y =>
 (y.asBool.bind fun b =>
 br (!b) (some (true, PUnit.unit))
 ((C f_i_numOk
 [AVal.v
 (CVal.agg
 [CVal.int IntKind.i64 b0, CVal.int IntKind.i64 b1, CVal.int IntKind.i64 b2,
 CVal.int IntKind.i64 b3, CVal.int IntKind.i64 b4, CVal.sl b5, CVal.int IntKind.i64 b6])]
 []).bind
 fun r =>
 r.1.asBool.bind fun b =>
 br (!b) (some (true, PUnit.unit))
 ((C f_i_hasPart [AVal.v (CVal.int IntKind.i64 b0), AVal.v (CVal.int IntKind.u8 (84 : Int))]
 []).bind
 fun r =>
 (C f_i_fieldOk
 [AVal.v (CVal.int IntKind.i64 b6), AVal.v r.1,
 AVal.v (CVal.int IntKind.i64 (↑a3.length : Int))]
 []).bind
 fun r => r.1.asBool.bind fun b => some (!b, PUnit.unit)))).bind
 fun y =>
 br y.1 (some (CVal.bool false, []))
 (((C f_i_hasPart [AVal.v (CVal.int IntKind.i64 b0), AVal.v (CVal.int IntKind.u8 (68 : Int))] []).bind
 fun r =>
 (C f_i_fieldOk [AVal.v (CVal.int IntKind.i64 b1), AVal.v r.1, AVal.v (CVal.int IntKind.i64 a2)]
 []).bind
 fun r =>
 r.1.asBool.bind fun b =>
 br (!b) (some (true, PUnit.unit))
 ((C f_i_hasPart [AVal.v (CVal.int IntKind.i64 b0), AVal.v (CVal.int IntKind.u8 (88 : Int))]
 []).bind
 fun r =>
 (C f_i_fieldOk
 [AVal.v (CVal.int IntKind.i64 b2), AVal.v r.1, AVal.v (CVal.int IntKind.i64 a2)]
 []).bind
 fun r =>
 r.1.asBool.bind fun b =>
 br (!b) (some (true, PUnit.unit))
 ((C f_i_hasPart
 [AVal.v (CVal.int IntKind.i64 b0), AVal.v (CVal.int IntKind.u8 (89 : Int))]
 []).bind
 fun r =>
 (C f_i_fieldOk
 [AVal.v (CVal.int IntKind.i64 b3), AVal.v r.1,
 AVal.v (CVal.int IntKind.i64 a2)]
 []).bind
 fun r => r.1.asBool.bind fun b => some (!b, PUnit.unit)))).bind
 fun y =>
 br y.1 (some (CVal.bool false, []))
 (br (decide (b0 = (8 : Int)))
 ((C f_slices_ContainsFunc_int
 [AVal.v (CVal.sl b5),
 AVal.v
 (CVal.func f_i_insOk_1
 [(CVal.agg
 [CVal.int IntKind.i64 a0, CVal.int IntKind.i64 a1, CVal.int IntKind.i64 a2,
 CVal.sl a3]).fp
 (0 : Nat)])]
 []).bind
 fun r => r.1.asBool.bind fun b => some (CVal.bool !b, []))
 ((L f_i_insOk (0 : Nat) lc_i_insOk_0 [] k_i_insOk_0
 ((PUnit.unit, b5, (↑b5.length : Int), (0 : Int), PUnit.unit),
 (b0, b1, b2, b3, b4, b5, b6, PUnit.unit), PUnit.unit)).bind
 fun r =>
 loK r (fun r => some r) fun j p => br (j == (0 : Nat)) (some (CVal.bool true, [])) none)))
theorem eq_i_insOk (C : CallT) (L : LoopT) (a0 : Int) (a1 : Int) (a2 : Int) (a3 : List CVal) (b0 : Int) (b1 : Int) (b2 : Int) (b3 : Int) (b4 : Int) (b5 : List CVal) (b6 : Int) : evF E N C L f_i_insOk [AVal.v (CVal.agg [CVal.int IntKind.i64 a0, CVal.int IntKind.i64 a1, CVal.int IntKind.i64 a2, CVal.sl a3]),
 AVal.v
 (CVal.agg
 [CVal.int IntKind.i64 b0, CVal.int IntKind.i64 b1, CVal.int IntKind.i64 b2, CVal.int IntKind.i64 b3,
 CVal.int IntKind.i64 b4, CVal.sl b5, CVal.int IntKind.i64 b6])] [] = nf_i_insOk C L a0 a1 a2 a3 b0 b1 b2 b3 b4 b5 b6 := by kernel_rfl
theorem go_i_insOk (a0 : Int) (a1 : Int) (a2 : Int) (a3 : List CVal) (b0 : Int) (b1 : Int) (b2 : Int) (b3 : Int) (b4 : Int) (b5 : List CVal) (b6 : Int) (R : Ret) (h : nf_i_insOk CC LL a0 a1 a2 a3 b0 b1 b2 b3 b4 b5 b6 = some R) : CC f_i_insOk [AVal.v (CVal.agg [CVal.int IntKind.i64 a0, CVal.int IntKind.i64 a1, CVal.int IntKind.i64 a2, CVal.sl a3]),
 AVal.v
 (CVal.agg
 [CVal.int IntKind.i64 b0, CVal.int IntKind.i64 b1, CVal.int IntKind.i64 b2, CVal.int IntKind.i64 b3,
 CVal.int IntKind.i64 b4, CVal.sl b5, CVal.int IntKind.i64 b6])] [] = some R := fnW (by decide) rfl ((eq_i_insOk CC LL a0 a1 a2 a3 b0 b1 b2 b3 b4 b5 b6).trans h)
noncomputable def nf_i_fieldOk (C : CallT) (L : LoopT) (a : Int) (b : Bool) (c : Int) : Option Ret :=
 br b
 ((br (decide ((0 : Int) ≤ a)) (some (decide (a < c), PUnit.unit)) (some (false, PUnit.unit))).bind fun y =>
 some (CVal.bool y.1, []))
 (some (CVal.bool (decide (a = (0 : Int))), []))
theorem eq_i_fieldOk (C : CallT) (L : LoopT) (a : Int) (b : Bool) (c : Int) : evF E N C L f_i_fieldOk [AVal.v (CVal.int IntKind.i64 a), AVal.v (CVal.bool b), AVal.v (CVal.int IntKind.i64 c)] [] = nf_i_fieldOk C L a b c := by kernel_rfl
theorem go_i_fieldOk (a : Int) (b : Bool) (c : Int) (R : Ret) (h : nf_i_fieldOk CC LL a b c = some R) : CC f_i_fieldOk [AVal.v (CVal.int IntKind.i64 a), AVal.v (CVal.bool b), AVal.v (CVal.int IntKind.i64 c)] [] = some R := fnW (by decide) rfl ((eq_i_fieldOk CC LL a b c).trans h)
noncomputable def nf_slices_IndexFunc_int (C : CallT) (L : LoopT) (a : List CVal) (b : CVal) : Option Ret :=
 (L f_slices_IndexFunc_int (0 : Nat) lc_slices_IndexFunc_int_0 [] k_slices_IndexFunc_int_0
 ((a, b, (↑a.length : Int), (0 : Int), PUnit.unit), PUnit.unit)).bind
 fun r => loK r (fun r => some r) fun j p => br (j == (0 : Nat)) (some (CVal.int IntKind.i64 (-1 : Int), [])) none
theorem eq_slices_IndexFunc_int (C : CallT) (L : LoopT) (a : List CVal) (b : CVal) : evF E N C L f_slices_IndexFunc_int [AVal.v (CVal.sl a), AVal.v b] [] = nf_slices_IndexFunc_int C L a b := by kernel_rfl
theorem go_slices_IndexFunc_int (a : List CVal) (b : CVal) (R : Ret) (h : nf_slices_IndexFunc_int CC LL a b = some R) : CC f_slices_IndexFunc_int [AVal.v (CVal.sl a), AVal.v b] [] = some R := fnW (by decide) rfl ((eq_slices_IndexFunc_int CC LL a b).trans h)
noncomputable def nl_s_LiveOk_4 (C : CallT) (L : LoopT) (x02 : Int) (x10 : Int) (x11 : Int) (x12 : Int) (x13 : List CVal) (x20 : Int) (x21 : Int) (x22 : Int) (x23 : List CVal) (x25 : Bool) (x3 : List CVal) : Option (LO k_s_LiveOk_4.T) :=
 br (decide (x02 < (↑x13.length : Int)))
 ((C f_s_l10Node [AVal.lptr (0 : Nat) (0 : Nat), AVal.v (CVal.int IntKind.i64 x02)]
 [PB.box
 [AVal.v (CVal.int IntKind.i64 x20), AVal.v (CVal.int IntKind.i64 x21), AVal.v (CVal.int IntKind.i64 x22),
 AVal.v (CVal.sl x23), AVal.lref (1 : Nat) (0 : Nat), AVal.v (CVal.bool x25)],
 PB.arr (Md.mk true false (0 : Nat)) true (1 : Nat) x3]).bind
 fun r =>
 r.2[(0 : Nat)]?.bind fun y =>
 r.2[(1 : Nat)]?.bind fun y_1 =>
 y[(0 : Nat)]?.bind fun y_2 =>
 y[(1 : Nat)]?.bind fun y_3 =>
 y[(2 : Nat)]?.bind fun y_4 =>
 y[(3 : Nat)]?.bind fun y_5 =>
 y[(4 : Nat)]?.bind fun y_6 =>
 y[(5 : Nat)]?.bind fun y =>
 y_6.asSl.bind fun xs =>
 (CVal.asInt IntKind.i64 y_2).bind fun n =>
 (CVal.asInt IntKind.i64 y_3).bind fun n_1 =>
 (CVal.asInt IntKind.i64 y_4).bind fun n_2 =>
 y_5.asSl.bind fun xs_1 =>
 y.asBool.bind fun b =>
 L f_s_LiveOk (4 : Nat) lc_s_LiveOk_4 [] k_s_LiveOk_4
 ((PUnit.unit, PUnit.unit, IntKind.i64.wrap (x02 + (1 : Int)), PUnit.unit),
 (x10, x11, x12, x13, PUnit.unit), (n, n_1, n_2, xs_1, PUnit.unit, b, PUnit.unit),
 xs, PUnit.unit))
 (some
 (LO.out (4 : Nat)
 ((PUnit.unit, PUnit.unit, x02, PUnit.unit), (x10, x11, x12, x13, PUnit.unit),
 (x20, x21, x22, x23, PUnit.unit, x25, PUnit.unit), x3, PUnit.unit)))
theorem el_s_LiveOk_4 (C : CallT) (L : LoopT) (x02 : Int) (x10 : Int) (x11 : Int) (x12 : Int) (x13 : List CVal) (x20 : Int) (x21 : Int) (x22 : Int) (x23 : List CVal) (x25 : Bool) (x3 : List CVal) : evL E N C L f_s_LiveOk 4 lc_s_LiveOk_4 [] k_s_LiveOk_4 (((), (), x02, ()), (x10, x11, x12, x13, ()), (x20, x21, x22, x23, (), x25, ()), x3, ()) = nl_s_LiveOk_4 C L x02 x10 x11 x12 x13 x20 x21 x22 x23 x25 x3 := by kernel_rfl
theorem gl_s_LiveOk_4 (x02 : Int) (x10 : Int) (x11 : Int) (x12 : Int) (x13 : List CVal) (x20 : Int) (x21 : Int) (x22 : Int) (x23 : List CVal) (x25 : Bool) (x3 : List CVal) (R : LO k_s_LiveOk_4.T) (h : nl_s_LiveOk_4 CC LL x02 x10 x11 x12 x13 x20 x21 x22 x23 x25 x3 = some R) : LL f_s_LiveOk 4 lc_s_LiveOk_4 [] k_s_LiveOk_4 (((), (), x02, ()), (x10, x11, x12, x13, ()), (x20, x21, x22, x23, (), x25, ()), x3, ()) = some R := loopW ((el_s_LiveOk_4 CC LL x02 x10 x11 x12 x13 x20 x21 x22 x23 x25 x3).trans h)
noncomputable def nl_i_LiveOk_4 (C : CallT) (L : LoopT) (x02 : Int) (x03 : Int) (x10 : Int) (x11 : Int) (x12 : Int) (x13 : List CVal) (x2 : List CVal) : Option (LO k_i_LiveOk_4.T) :=
 br (decide (x03 < x02))
 ((C f_i_wanted
 [AVal.v (CVal.agg [CVal.int IntKind.i64 x10, CVal.int IntKind.i64 x11, CVal.int IntKind.i64 x12, CVal.sl x13]),
 AVal.v (CVal.int IntKind.i64 x03), AVal.v (CVal.sl x2)]
 []).bind
 fun r =>
 br (!r.1.plain) none
 (br r.1.isFlat
 (r.1.asSl.bind fun xs =>
 (L f_i_LiveOk (6 : Nat) lc_i_LiveOk_6 [] k_i_LiveOk_6
 ((PUnit.unit, PUnit.unit, x03, x02, x03, PUnit.unit, (↑xs.length : Int), (0 : Int), PUnit.unit),
 (x10, x11, x12, x13, PUnit.unit), x2, xs, PUnit.unit)).bind
 fun r =>
 loK r (fun r => some (LO.ret r)) fun j p =>
 br (j == (6 : Nat))
 (L f_i_LiveOk (4 : Nat) lc_i_LiveOk_4 [] k_i_LiveOk_4
 ((PUnit.unit, PUnit.unit, p.fst.snd.snd.snd.1, IntKind.i64.wrap (p.fst.snd.snd.snd.snd.1 + (1 : Int)),
 PUnit.unit),
 (p.snd.fst.1, p.snd.fst.snd.1, p.snd.fst.snd.snd.1, p.snd.fst.snd.snd.snd.1, PUnit.unit),
 p.snd.snd.1, PUnit.unit))
 (br (j == (5 : Nat))
 (L f_i_LiveOk (4 : Nat) lc_i_LiveOk_4 [] k_i_LiveOk_4
 ((PUnit.unit, PUnit.unit, p.fst.snd.snd.snd.1,
 IntKind.i64.wrap (p.fst.snd.snd.snd.snd.1 + (1 : Int)), PUnit.unit),
 (p.snd.fst.1, p.snd.fst.snd.1, p.snd.fst.snd.snd.1, p.snd.fst.snd.snd.snd.1, PUnit.unit),
 p.snd.snd.1, PUnit.unit))
 (some
 (LO.out j
 ((PUnit.unit, PUnit.unit, p.fst.snd.snd.snd.1, p.fst.snd.snd.snd.snd.1, PUnit.unit),
 (p.snd.fst.1, p.snd.fst.snd.1, p.snd.fst.snd.snd.1, p.snd.fst.snd.snd.snd.1, PUnit.unit),
 p.snd.snd.1, PUnit.unit)))))
 none))
 (some
 (LO.out (4 : Nat)
 ((PUnit.unit, PUnit.unit, x02, x03, PUnit.unit), (x10, x11, x12, x13, PUnit.unit), x2, PUnit.unit)))
theorem el_i_LiveOk_4 (C : CallT) (L : LoopT) (x02 : Int) (x03 : Int) (x10 : Int) (x11 : Int) (x12 : Int) (x13 : List CVal) (x2 : List CVal) : evL E N C L f_i_LiveOk 4 lc_i_LiveOk_4 [] k_i_LiveOk_4 (((), (), x02, x03, ()), (x10, x11, x12, x13, ()), x2, ()) = nl_i_LiveOk_4 C L x02 x03 x10 x11 x12 x13 x2 := by kernel_rfl
theorem gl_i_LiveOk_4 (x02 : Int) (x03 : Int) (x10 : Int) (x11 : Int) (x12 : Int) (x13 : List CVal) (x2 : List CVal) (R : LO k_i_LiveOk_4.T) (h : nl_i_LiveOk_4 CC LL x02 x03 x10 x11 x12 x13 x2 = some R) : LL f_i_LiveOk 4 lc_i_LiveOk_4 [] k_i_LiveOk_4 (((), (), x02, x03, ()), (x10, x11, x12, x13, ()), x2, ()) = some R := loopW ((el_i_LiveOk_4 CC LL x02 x03 x10 x11 x12 x13 x2).trans h)
noncomputable def nl_i_Live_0 (C : CallT) (L : LoopT) (x01 : List CVal) (x02 : Int) (x03 : Int) (x1 : List CVal) : Option (LO k_i_Live_0.T) :=
 br (decide (x03 < x02))
 (br (decide ((0 : Int) ≤ x03) && true)
 (x01[x03.toNat]?.bind fun y =>
 br (CVal.fits false (1 : Nat) y)
 ((y.cell (0 : Nat)).bind fun c =>
 (C f_i_things [AVal.v c] []).bind fun r =>
 br r.1.isFlat
 (r.1.asSl.bind fun xs =>
 br (decide (x1.length + (1 : Nat) ≤ (4294967296 : Nat)) && true && true)
 (L f_i_Live (0 : Nat) lc_i_Live_0 [] k_i_Live_0
 ((PUnit.unit, x01, x02, IntKind.i64.wrap (x03 + (1 : Int)), PUnit.unit), x1 ++ [CVal.sl xs],
 PUnit.unit))
 none)
 none)
 none)
 none)
 (some (LO.out (0 : Nat) ((PUnit.unit, x01, x02, x03, PUnit.unit), x1, PUnit.unit)))
theorem el_i_Live_0 (C : CallT) (L : LoopT) (x01 : List CVal) (x02 : Int) (x03 : Int) (x1 : List CVal) : evL E N C L f_i_Live 0 lc_i_Live_0 [] k_i_Live_0 (((), x01, x02, x03, ()), x1, ()) = nl_i_Live_0 C L x01 x02 x03 x1 := by kernel_rfl
theorem gl_i_Live_0 (x01 : List CVal) (x02 : Int) (x03 : Int) (x1 : List CVal) (R : LO k_i_Live_0.T) (h : nl_i_Live_0 CC LL x01 x02 x03 x1 = some R) : LL f_i_Live 0 lc_i_Live_0 [] k_i_Live_0 (((), x01, x02, x03, ()), x1, ()) = some R := loopW ((el_i_Live_0 CC LL x01 x02 x03 x1).trans h)
noncomputable def nl_l_toInsS_0 (C : CallT) (L : LoopT) (x00 : List CVal) (x02 : Int) (x1 : List CVal) : Option (LO k_l_toInsS_0.T) :=
 br (decide (x02 < (↑x00.length : Int)))
 (br (decide ((0 : Int) ≤ x02) && true)
 (x00[x02.toNat]?.bind fun y =>
 br (CVal.fits true (7 : Nat) y)
 ((y.sub (0 : Nat) (7 : Nat)).bind fun y =>
 (C f_l_toIns [AVal.v y] []).bind fun r =>
 br (CVal.isAggN (7 : Nat) r.1)
 ((r.1.cell (0 : Nat)).bind fun c =>
 (r.1.cell (1 : Nat)).bind fun c_1 =>
 (r.1.cell (2 : Nat)).bind fun c_2 =>
 (r.1.cell (3 : Nat)).bind fun c_3 =>
 (r.1.cell (4 : Nat)).bind fun c_4 =>
 (r.1.cell (5 : Nat)).bind fun c_5 =>
 (r.1.cell (6 : Nat)).bind fun c_6 =>
 c_5.asSl.bind fun xs =>
 br (decide ((0 : Int) ≤ x02) && true)
 (br (decide (x02.toNat < x1.length) && true)
 ((CVal.asInt IntKind.i64 c).bind fun n =>
 (CVal.asInt IntKind.i64 c_1).bind fun n_1 =>
 (CVal.asInt IntKind.i64 c_2).bind fun n_2 =>
 (CVal.asInt IntKind.i64 c_3).bind fun n_3 =>
 (CVal.asInt IntKind.i64 c_4).bind fun n_4 =>
 (CVal.asInt IntKind.i64 c_6).bind fun n_5 =>
 x1[x02.toNat]?.bind fun y =>
 br (CVal.fits true (7 : Nat) y)
 (L f_l_toInsS (0 : Nat) lc_l_toInsS_0 [] k_l_toInsS_0
 ((x00, PUnit.unit, IntKind.i64.wrap (x02 + (1 : Int)), PUnit.unit),
 x1.set x02.toNat
 (CVal.agg
 [CVal.int IntKind.i64 n, CVal.int IntKind.i64 n_1,
 CVal.int IntKind.i64 n_2, CVal.int IntKind.i64 n_3,
 CVal.int IntKind.i64 n_4, CVal.sl xs,
 CVal.int IntKind.i64 n_5]),
 PUnit.unit))
 (br (y.isAgg && decide ((7 : Nat) ≤ y.cells.length))
 (L f_l_toInsS (0 : Nat) lc_l_toInsS_0 [] k_l_toInsS_0
 ((x00, PUnit.unit, IntKind.i64.wrap (x02 + (1 : Int)),
 PUnit.unit),
 x1.set x02.toNat
 (CVal.agg
 (CVal.int IntKind.i64 n ::
 CVal.int IntKind.i64 n_1 ::
 CVal.int IntKind.i64 n_2 ::
 CVal.int IntKind.i64 n_3 ::
 CVal.int IntKind.i64 n_4 ::
 CVal.sl xs ::
 CVal.int IntKind.i64 n_5 ::
 List.drop (7 : Nat) y.cells)),
 PUnit.unit))
 none))
 none)
 none)
 none)
 none)
 none)
 (some (LO.out (0 : Nat) ((x00, PUnit.unit, x02, PUnit.unit), x1, PUnit.unit)))
theorem el_l_toInsS_0 (C : CallT) (L : LoopT) (x00 : List CVal) (x02 : Int) (x1 : List CVal) : evL E N C L f_l_toInsS 0 lc_l_toInsS_0 [] k_l_toInsS_0 ((x00, (), x02, ()), x1, ()) = nl_l_toInsS_0 C L x00 x02 x1 := by kernel_rfl
theorem gl_l_toInsS_0 (x00 : List CVal) (x02 : Int) (x1 : List CVal) (R : LO k_l_toInsS_0.T) (h : nl_l_toInsS_0 CC LL x00 x02 x1 = some R) : LL f_l_toInsS 0 lc_l_toInsS_0 [] k_l_toInsS_0 ((x00, (), x02, ()), x1, ()) = some R := loopW ((el_l_toInsS_0 CC LL x00 x02 x1).trans h)
noncomputable def nl_s_l10Node_2 (C : CallT) (L : LoopT) (x01 : Int) (x02 : Int) (x03 : List CVal) (x04 : Int) (x10 : Int) (x11 : Int) (x12 : Int) (x13 : List CVal) (x15 : Bool) (x3 : List CVal) : Option (LO k_s_l10Node_2.T) :=
 br (decide (x04 < (↑x03.length : Int)))
 (br (decide ((0 : Int) ≤ x04) && true)
 (x03[x04.toNat]?.bind fun y =>
 br (CVal.fits false (1 : Nat) y)
 ((y.cell (0 : Nat)).bind fun c =>
 (C f_s_l10From
 [AVal.lptr (0 : Nat) (0 : Nat), AVal.v (CVal.int IntKind.i64 x01), AVal.v c,
 AVal.v (CVal.int IntKind.i64 x02)]
 [PB.box
 [AVal.v (CVal.int IntKind.i64 x10), AVal.v (CVal.int IntKind.i64 x11),
 AVal.v (CVal.int IntKind.i64 x12), AVal.v (CVal.sl x13), AVal.lref (1 : Nat) (0 : Nat),
 AVal.v (CVal.bool x15)],
 PB.arr (Md.mk true false (0 : Nat)) true (1 : Nat) x3]).bind
 fun r =>
 r.2[(0 : Nat)]?.bind fun y =>
 r.2[(1 : Nat)]?.bind fun y_1 =>
 y[(0 : Nat)]?.bind fun y_2 =>
 y[(1 : Nat)]?.bind fun y_3 =>
 y[(2 : Nat)]?.bind fun y_4 =>
 y[(3 : Nat)]?.bind fun y_5 =>
 y[(4 : Nat)]?.bind fun y_6 =>
 y[(5 : Nat)]?.bind fun y =>
 y_6.asSl.bind fun xs =>
 (CVal.asInt IntKind.i64 y_2).bind fun n =>
 (CVal.asInt IntKind.i64 y_3).bind fun n_1 =>
 (CVal.asInt IntKind.i64 y_4).bind fun n_2 =>
 y_5.asSl.bind fun xs_1 =>
 y.asBool.bind fun b =>
 L f_s_l10Node (2 : Nat) lc_s_l10Node_2
 [PSh.box [none, none, none, none, some (1 : Nat), none],
 PSh.arr (Md.mk true false (0 : Nat)) true (1 : Nat)]
 k_s_l10Node_2
 ((PUnit.unit, x01, x02, x03, IntKind.i64.wrap (x04 + (1 : Int)), PUnit.unit),
 (n, n_1, n_2, xs_1, PUnit.unit, b, PUnit.unit), PUnit.unit, xs, PUnit.unit))
 none)
 none)
 (some
 (LO.out (2 : Nat)
 ((PUnit.unit, x01, x02, x03, x04, PUnit.unit), (x10, x11, x12, x13, PUnit.unit, x15, PUnit.unit), PUnit.unit, x3,
 PUnit.unit)))
theorem el_s_l10Node_2 (C : CallT) (L : LoopT) (x01 : Int) (x02 : Int) (x03 : List CVal) (x04 : Int) (x10 : Int) (x11 : Int) (x12 : Int) (x13 : List CVal) (x15 : Bool) (x3 : List CVal) : evL E N C L f_s_l10Node 2 lc_s_l10Node_2 [PSh.box [none, none, none, none, some (1 : Nat), none], PSh.arr (Md.mk true false (0 : Nat)) true (1 : Nat)] k_s_l10Node_2 (((), x01, x02, x03, x04, ()), (x10, x11, x12, x13, (), x15, ()), (), x3, ()) = nl_s_l10Node_2 C L x01 x02 x03 x04 x10 x11 x12 x13 x15 x3 := by kernel_rfl
theorem gl_s_l10Node_2 (x01 : Int) (x02 : Int) (x03 : List CVal) (x04 : Int) (x10 : Int) (x11 : Int) (x12 : Int) (x13 : List CVal) (x15 : Bool) (x3 : List CVal) (R : LO k_s_l10Node_2.T) (h : nl_s_l10Node_2 CC LL x01 x02 x03 x04 x10 x11 x12 x13 x15 x3 = some R) : LL f_s_l10Node 2 lc_s_l10Node_2 [PSh.box [none, none, none, none, some (1 : Nat), none], PSh.arr (Md.mk true false (0 : Nat)) true (1 : Nat)] k_s_l10Node_2 (((), x01, x02, x03, x04, ()), (x10, x11, x12, x13, (), x15, ()), (), x3, ()) = some R := loopW ((el_s_l10Node_2 CC LL x01 x02 x03 x04 x10 x11 x12 x13 x15 x3).trans h)
noncomputable def nl_l_eqInsS_0 (C : CallT) (L : LoopT) (x00 : List CVal) (x01 : List CVal) (x02 : Int) : Option (LO k_l_eqInsS_0.T) :=
 br (decide (x02 < (↑x00.length : Int)))
 (br (decide ((0 : Int) ≤ x02) && true)
 (x00[x02.toNat]?.bind fun y =>
 br (CVal.fits true (7 : Nat) y)
 ((y.sub (0 : Nat) (7 : Nat)).bind fun y =>
 br (decide ((0 : Int) ≤ x02) && true)
 (x01[x02.toNat]?.bind fun y_1 =>
 br (CVal.fits true (7 : Nat) y_1)
 ((y_1.sub (0 : Nat) (7 : Nat)).bind fun y_2 =>
 (C f_l_eqIns [AVal.v y, AVal.v y_2] []).bind fun r =>
 r.1.asBool.bind fun b =>
 br (!b) (some (LO.ret (CVal.bool false, [])))
 (L f_l_eqInsS (0 : Nat) lc_l_eqInsS_0 [] k_l_eqInsS_0
 ((x00, x01, IntKind.i64.wrap (x02 + (1 : Int)), PUnit.unit), PUnit.unit)))
 none)
 none)
 none)
 none)
 (some (LO.out (0 : Nat) ((x00, x01, x02, PUnit.unit), PUnit.unit)))
theorem el_l_eqInsS_0 (C : CallT) (L : LoopT) (x00 : List CVal) (x01 : List CVal) (x02 : Int) : evL E N C L f_l_eqInsS 0 lc_l_eqInsS_0 [] k_l_eqInsS_0 ((x00, x01, x02, ()), ()) = nl_l_eqInsS_0 C L x00 x01 x02 := by kernel_rfl
theorem gl_l_eqInsS_0 (x00 : List CVal) (x01 : List CVal) (x02 : Int) (R : LO k_l_eqInsS_0.T) (h : nl_l_eqInsS_0 CC LL x00 x01 x02 = some R) : LL f_l_eqInsS 0 lc_l_eqInsS_0 [] k_l_eqInsS_0 ((x00, x01, x02, ()), ()) = some R := loopW ((el_l_eqInsS_0 CC LL x00 x01 x02).trans h)
noncomputable def nl_s_l10Lists_2 (C : CallT) (L : LoopT) (x00 : List CVal) (x02 : Int) (x04 : Int) (x1 : List CVal) (x2 : List CVal) : Option (LO k_s_l10Lists_2.T) :=
 br (decide ((0 : Int) ≤ x02) && true)
 (x00[x02.toNat]?.bind fun y =>
 br (CVal.fits false (1 : Nat) y)
 ((y.cell (0 : Nat)).bind fun c =>
 c.asSl.bind fun xs =>
 br (decide (x04 < (↑xs.length : Int)))
 (br (decide ((0 : Int) ≤ x02) && true)
 (x00[x02.toNat]?.bind fun y =>
 br (CVal.fits false (1 : Nat) y)
 ((y.cell (0 : Nat)).bind fun c =>
 br (decide ((0 : Int) ≤ x04) && true)
 (c.asSl.bind fun xs =>
 xs[x04.toNat]?.bind fun y =>
 br (CVal.fits false (1 : Nat) y)
 ((y.cell (0 : Nat)).bind fun c =>
 c.asBool.bind fun b =>
 br b
 (br (decide (x2.length + (1 : Nat) ≤ (4294967296 : Nat)) && true && true)
 (L f_s_l10Lists (2 : Nat) lc_s_l10Lists_2 [] k_s_l10Lists_2
 ((x00, PUnit.unit, x02, PUnit.unit, IntKind.i64.wrap (x04 + (1 : Int)),
 PUnit.unit),
 x1, x2 ++ [CVal.int IntKind.i64 x04], PUnit.unit))
 none)
 (L f_s_l10Lists (2 : Nat) lc_s_l10Lists_2 [] k_s_l10Lists_2
 ((x00, PUnit.unit, x02, PUnit.unit, IntKind.i64.wrap (x04 + (1 : Int)), PUnit.unit),
 x1, x2, PUnit.unit)))
 none)
 none)
 none)
 none)
 (some (LO.out (2 : Nat) ((x00, PUnit.unit, x02, PUnit.unit, x04, PUnit.unit), x1, x2, PUnit.unit))))
 none)
 none
theorem el_s_l10Lists_2 (C : CallT) (L : LoopT) (x00 : List CVal) (x02 : Int) (x04 : Int) (x1 : List CVal) (x2 : List CVal) : evL E N C L f_s_l10Lists 2 lc_s_l10Lists_2 [] k_s_l10Lists_2 ((x00, (), x02, (), x04, ()), x1, x2, ()) = nl_s_l10Lists_2 C L x00 x02 x04 x1 x2 := by kernel_rfl
theorem gl_s_l10Lists_2 (x00 : List CVal) (x02 : Int) (x04 : Int) (x1 : List CVal) (x2 : List CVal) (R : LO k_s_l10Lists_2.T) (h : nl_s_l10Lists_2 CC LL x00 x02 x04 x1 x2 = some R) : LL f_s_l10Lists 2 lc_s_l10Lists_2 [] k_s_l10Lists_2 ((x00, (), x02, (), x04, ()), x1, x2, ()) = some R := loopW ((el_s_l10Lists_2 CC LL x00 x02 x04 x1 x2).trans h)
noncomputable def nl_i_liveSets_0 (C : CallT) (L : LoopT) (x00 : CVal) (x02 : Int) (x03 : Int) (x1 : List CVal) : Option (LO k_i_liveSets_0.T) :=
 br (decide (x03 < x02))
 (x00.asFp.bind fun y =>
 (y.1.cell (y.2 + (2 : Nat))).bind fun c =>
 c.asIdx.bind fun y =>
 c.asIdx.bind fun y_1 =>
 br (decide ((0 : Int) ≤ y) && decide (y = y_1) && decide (y ≤ (1048576 : Int)))
 (br (decide (x1.length + (1 : Nat) ≤ (4294967296 : Nat)) && true && true)
 (L f_i_liveSets (0 : Nat) lc_i_liveSets_0 [] k_i_liveSets_0
 ((x00, PUnit.unit, x02, IntKind.i64.wrap (x03 + (1 : Int)), PUnit.unit),
 x1 ++ [CVal.sl (List.replicate y.toNat (CVal.bool false))], PUnit.unit))
 none)
 none)
 (some (LO.out (0 : Nat) ((x00, PUnit.unit, x02, x03, PUnit.unit), x1, PUnit.unit)))
theorem el_i_liveSets_0 (C : CallT) (L : LoopT) (x00 : CVal) (x02 : Int) (x03 : Int) (x1 : List CVal) : evL E N C L f_i_liveSets 0 lc_i_liveSets_0 [] k_i_liveSets_0 ((x00, (), x02, x03, ()), x1, ()) = nl_i_liveSets_0 C L x00 x02 x03 x1 := by kernel_rfl
theorem gl_i_liveSets_0 (x00 : CVal) (x02 : Int) (x03 : Int) (x1 : List CVal) (R : LO k_i_liveSets_0.T) (h : nl_i_liveSets_0 CC LL x00 x02 x03 x1 = some R) : LL f_i_liveSets 0 lc_i_liveSets_0 [] k_i_liveSets_0 ((x00, (), x02, x03, ()), x1, ()) = some R := loopW ((el_i_liveSets_0 CC LL x00 x02 x03 x1).trans h)
noncomputable def nl_l_heldIntS_0 (C : CallT) (L : LoopT) (x00 : List CVal) (x01 : Int) (x02 : Int) : Option (LO k_l_heldIntS_0.T) :=
 br (decide (x02 < (↑x00.length : Int)))
 (br (decide ((0 : Int) ≤ x02) && true)
 (x00[x02.toNat]?.bind fun y =>
 br (CVal.fits false (1 : Nat) y)
 ((y.cell (0 : Nat)).bind fun c =>
 (CVal.asInt IntKind.i64 c).bind fun n =>
 br (!decide (n = x01)) (some (LO.ret (CVal.int IntKind.i64 (-1 : Int), [])))
 (L f_l_heldIntS (0 : Nat) lc_l_heldIntS_0 [] k_l_heldIntS_0
 ((x00, IntKind.i64.wrap (x01 + (1 : Int)), IntKind.i64.wrap (x02 + (1 : Int)), PUnit.unit),
 PUnit.unit)))
 none)
 none)
 (some (LO.out (0 : Nat) ((x00, x01, x02, PUnit.unit), PUnit.unit)))
theorem el_l_heldIntS_0 (C : CallT) (L : LoopT) (x00 : List CVal) (x01 : Int) (x02 : Int) : evL E N C L f_l_heldIntS 0 lc_l_heldIntS_0 [] k_l_heldIntS_0 ((x00, x01, x02, ()), ()) = nl_l_heldIntS_0 C L x00 x01 x02 := by kernel_rfl
theorem gl_l_heldIntS_0 (x00 : List CVal) (x01 : Int) (x02 : Int) (R : LO k_l_heldIntS_0.T) (h : nl_l_heldIntS_0 CC LL x00 x01 x02 = some R) : LL f_l_heldIntS 0 lc_l_heldIntS_0 [] k_l_heldIntS_0 ((x00, x01, x02, ()), ()) = some R := loopW ((el_l_heldIntS_0 CC LL x00 x01 x02).trans h)
noncomputable def nl_s_l10From_0 (C : CallT) (L : LoopT) (x01 : Int) (x02 : Int) (x03 : Int) (x04 : Int) (x10 : Int) (x11 : Int) (x12 : Int) (x13 : List CVal) (x15 : Bool) (x3 : List CVal) : Option (LO k_s_l10From_0.T) :=
 br (decide (x04 < x12))
 ((br (decide ((0 : Int) ≤ x02) && true)
 (br (decide (x02.toNat < x3.length) && true)
 (x3[x02.toNat]?.bind fun y =>
 (y.cell (0 : Nat)).bind fun c =>
 c.asSl.bind fun xs =>
 br (decide ((0 : Int) ≤ x04) && true)
 ((x3[x02.toNat]?.bind fun y => (y.cell (0 : Nat)).bind fun c => c.asSl).bind fun y =>
 br (decide (x04.toNat < y.length))
 ((x3[x02.toNat]?.bind fun y => (y.cell (0 : Nat)).bind fun c => c.asSl).bind fun y =>
 y[x04.toNat]?.bind fun y =>
 y.asBool.bind fun b =>
 br b (some (!decide (x04 = x03), PUnit.unit)) (some (false, PUnit.unit)))
 none)
 none)
 none)
 none).bind
 fun y =>
 br y.1
 ((C f_s_l10Set
 [AVal.lptr (0 : Nat) (0 : Nat), AVal.v (CVal.int IntKind.i64 x01), AVal.v (CVal.int IntKind.i64 x04)]
 [PB.box
 [AVal.v (CVal.int IntKind.i64 x10), AVal.v (CVal.int IntKind.i64 x11),
 AVal.v (CVal.int IntKind.i64 x12), AVal.v (CVal.sl x13), AVal.lref (1 : Nat) (0 : Nat),
 AVal.v (CVal.bool x15)],
 PB.arr (Md.mk true false (0 : Nat)) true (1 : Nat) x3]).bind
 fun r =>
 r.2[(0 : Nat)]?.bind fun y =>
 r.2[(1 : Nat)]?.bind fun y_1 =>
 y[(0 : Nat)]?.bind fun y_2 =>
 y[(1 : Nat)]?.bind fun y_3 =>
 y[(2 : Nat)]?.bind fun y_4 =>
 y[(3 : Nat)]?.bind fun y_5 =>
 y[(4 : Nat)]?.bind fun y_6 =>
 y[(5 : Nat)]?.bind fun y =>
 y_6.asSl.bind fun xs =>
 (CVal.asInt IntKind.i64 y_2).bind fun n =>
 (CVal.asInt IntKind.i64 y_3).bind fun n_1 =>
 (CVal.asInt IntKind.i64 y_4).bind fun n_2 =>
 y_5.asSl.bind fun xs_1 =>
 y.asBool.bind fun b =>
 L f_s_l10From (0 : Nat) lc_s_l10From_0
 [PSh.box [none, none, none, none, some (1 : Nat), none],
 PSh.arr (Md.mk true false (0 : Nat)) true (1 : Nat)]
 k_s_l10From_0
 ((PUnit.unit, x01, x02, x03, IntKind.i64.wrap (x04 + (1 : Int)), PUnit.unit),
 (n, n_1, n_2, xs_1, PUnit.unit, b, PUnit.unit), PUnit.unit, xs, PUnit.unit))
 (L f_s_l10From (0 : Nat) lc_s_l10From_0
 [PSh.box [none, none, none, none, some (1 : Nat), none], PSh.arr (Md.mk true false (0 : Nat)) true (1 : Nat)]
 k_s_l10From_0
 ((PUnit.unit, x01, x02, x03, IntKind.i64.wrap (x04 + (1 : Int)), PUnit.unit),
 (x10, x11, x12, x13, PUnit.unit, x15, PUnit.unit), PUnit.unit, x3, PUnit.unit)))
 (some
 (LO.out (0 : Nat)
 ((PUnit.unit, x01, x02, x03, x04, PUnit.unit), (x10, x11, x12, x13, PUnit.unit, x15, PUnit.unit), PUnit.unit, x3,
 PUnit.unit)))
theorem el_s_l10From_0 (C : CallT) (L : LoopT) (x01 : Int) (x02 : Int) (x03 : Int) (x04 : Int) (x10 : Int) (x11 : Int) (x12 : Int) (x13 : List CVal) (x15 : Bool) (x3 : List CVal) : evL E N C L f_s_l10From 0 lc_s_l10From_0 [PSh.box [none, none, none, none, some (1 : Nat), none], PSh.arr (Md.mk true false (0 : Nat)) true (1 : Nat)] k_s_l10From_0 (((), x01, x02, x03, x04, ()), (x10, x11, x12, x13, (), x15, ()), (), x3, ()) = nl_s_l10From_0 C L x01 x02 x03 x04 x10 x11 x12 x13 x15 x3 := by kernel_rfl
theorem gl_s_l10From_0 (x01 : Int) (x02 : Int) (x03 : Int) (x04 : Int) (x10 : Int) (x11 : Int) (x12 : Int) (x13 : List CVal) (x15 : Bool) (x3 : List CVal) (R : LO k_s_l10From_0.T) (h : nl_s_l10From_0 CC LL x01 x02 x03 x04 x10 x11 x12 x13 x15 x3 = some R) : LL f_s_l10From 0 lc_s_l10From_0 [PSh.box [none, none, none, none, some (1 : Nat), none], PSh.arr (Md.mk true false (0 : Nat)) true (1 : Nat)] k_s_l10From_0 (((), x01, x02, x03, x04, ()), (x10, x11, x12, x13, (), x15, ()), (), x3, ()) = some R := loopW ((el_s_l10From_0 CC LL x01 x02 x03 x04 x10 x11 x12 x13 x15 x3).trans h)
noncomputable def nl_slices_Equal_bool_0 (C : CallT) (L : LoopT) (x00 : List CVal) (x01 : List CVal) (x02 : Int) (x03 : Int) : Option (LO k_slices_Equal_bool_0.T) :=
 br (decide (x03 < x02))
 (br (decide ((0 : Int) ≤ x03) && true)
 (x00[x03.toNat]?.bind fun y =>
 br (CVal.fits false (1 : Nat) y)
 ((y.cell (0 : Nat)).bind fun c =>
 br (decide ((0 : Int) ≤ x03) && true)
 (x01[x03.toNat]?.bind fun y =>
 br (CVal.fits false (1 : Nat) y)
 ((y.cell (0 : Nat)).bind fun c_1 =>
 c.asBool.bind fun b =>
 c_1.asBool.bind fun b_1 =>
 br (!b == b_1) (some (LO.ret (CVal.bool false, [])))
 (L f_slices_Equal_bool (0 : Nat) lc_slices_Equal_bool_0 [] k_slices_Equal_bool_0
 ((x00, x01, x02, IntKind.i64.wrap (x03 + (1 : Int)), PUnit.unit), PUnit.unit)))
 none)
 none)
 none)
 none)
 (some (LO.out (0 : Nat) ((x00, x01, x02, x03, PUnit.unit), PUnit.unit)))
theorem el_slices_Equal_bool_0 (C : CallT) (L : LoopT) (x00 : List CVal) (x01 : List CVal) (x02 : Int) (x03 : Int) : evL E N C L f_slices_Equal_bool 0 lc_slices_Equal_bool_0 [] k_slices_Equal_bool_0 ((x00, x01, x02, x03, ()), ()) = nl_slices_Equal_bool_0 C L x00 x01 x02 x03 := by kernel_rfl
theorem gl_slices_Equal_bool_0 (x00 : List CVal) (x01 : List CVal) (x02 : Int) (x03 : Int) (R : LO k_slices_Equal_bool_0.T) (h : nl_slices_Equal_bool_0 CC LL x00 x01 x02 x03 = some R) : LL f_slices_Equal_bool 0 lc_slices_Equal_bool_0 [] k_slices_Equal_bool_0 ((x00, x01, x02, x03, ()), ()) = some R := loopW ((el_slices_Equal_bool_0 CC LL x00 x01 x02 x03).trans h)
noncomputable def nl_slices_IndexFunc_int_0 (C : CallT) (L : LoopT) (x00 : List CVal) (x01 : CVal) (x02 : Int) (x03 : Int) : Option (LO k_slices_IndexFunc_int_0.T) :=
 br (decide (x03 < x02))
 (br (decide ((0 : Int) ≤ x03) && true)
 (x00[x03.toNat]?.bind fun y =>
 br (CVal.fits false (1 : Nat) y)
 ((y.cell (0 : Nat)).bind fun c =>
 (C apId [AVal.v x01, AVal.v c] []).bind fun r =>
 r.1.asBool.bind fun b =>
 br b (some (LO.ret (CVal.int IntKind.i64 x03, [])))
 (L f_slices_IndexFunc_int (0 : Nat) lc_slices_IndexFunc_int_0 [] k_slices_IndexFunc_int_0
 ((x00, x01, x02, IntKind.i64.wrap (x03 + (1 : Int)), PUnit.unit), PUnit.unit)))
 none)
 none)
 (some (LO.out (0 : Nat) ((x00, x01, x02, x03, PUnit.unit), PUnit.unit)))
theorem el_slices_IndexFunc_int_0 (C : CallT) (L : LoopT) (x00 : List CVal) (x01 : CVal) (x02 : Int) (x03 : Int) : evL E N C L f_slices_IndexFunc_int 0 lc_slices_IndexFunc_int_0 [] k_slices_IndexFunc_int_0 ((x00, x01, x02, x03, ()), ()) = nl_slices_IndexFunc_int_0 C L x00 x01 x02 x03 := by kernel_rfl
theorem gl_slices_IndexFunc_int_0 (x00 : List CVal) (x01 : CVal) (x02 : Int) (x03 : Int) (R : LO k_slices_IndexFunc_int_0.T) (h : nl_slices_IndexFunc_int_0 CC LL x00 x01 x02 x03 = some R) : LL f_slices_IndexFunc_int 0 lc_slices_IndexFunc_int_0 [] k_slices_IndexFunc_int_0 ((x00, x01, x02, x03, ()), ()) = some R := loopW ((el_slices_IndexFunc_int_0 CC LL x00 x01 x02 x03).trans h)
end Go.Proofs.Ytmjjaoffeajcbaa.Abs
