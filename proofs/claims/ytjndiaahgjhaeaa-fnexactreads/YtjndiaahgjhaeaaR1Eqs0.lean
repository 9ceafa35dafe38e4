/- What the functions come to in the abstract machine. -/
import Derived.Test.YtjndiaahgjhaeaaR1Ann
import Derived.KernelRfl
set_option linter.unusedVariables false
set_option maxRecDepth 100000
namespace Go.Proofs.Ytjndiaahgjhaeaa.Abs
open Go Go.Proofs
noncomputable def nf_l_FnExactReads (C : CallT) (L : LoopT) (a0 : Int) (a1 : Int) (a2 : Int) (a3 : Int) (a4 : Int) (a5 : List CVal) (a6 : Int) : Option Ret :=
 (C f_l_szIns
 [AVal.v
 (CVal.agg
 [CVal.int IntKind.i64 a0, CVal.int IntKind.i64 a1, CVal.int IntKind.i64 a2, CVal.int IntKind.i64 a3,
 CVal.int IntKind.i64 a4, CVal.sl a5, CVal.int IntKind.i64 a6]),
 AVal.v (CVal.int IntKind.i64 (1048576 : Int))]
 []).bind
 fun r =>
 (CVal.asInt IntKind.i64 r.1).bind fun n =>
 br (decide (n < (0 : Int))) (some (CVal.bool true, []))
 ((C f_l_toIns
 [AVal.v
 (CVal.agg
 [CVal.int IntKind.i64 a0, CVal.int IntKind.i64 a1, CVal.int IntKind.i64 a2, CVal.int IntKind.i64 a3,
 CVal.int IntKind.i64 a4, CVal.sl a5, CVal.int IntKind.i64 a6])]
 []).bind
 fun r =>
 (C f_s_Reads [AVal.v r.1] []).bind fun r =>
 (C f_l_toIns
 [AVal.v
 (CVal.agg
 [CVal.int IntKind.i64 a0, CVal.int IntKind.i64 a1, CVal.int IntKind.i64 a2,
 CVal.int IntKind.i64 a3, CVal.int IntKind.i64 a4, CVal.sl a5, CVal.int IntKind.i64 a6])]
 []).bind
 fun r_1 =>
 br (CVal.isAggN (7 : Nat) r_1.1)
 ((r_1.1.cell (0 : Nat)).bind fun c =>
 (r_1.1.cell (1 : Nat)).bind fun c_1 =>
 (r_1.1.cell (2 : Nat)).bind fun c_2 =>
 (r_1.1.cell (3 : Nat)).bind fun c_3 =>
 (r_1.1.cell (4 : Nat)).bind fun c_4 =>
 (r_1.1.cell (5 : Nat)).bind fun c_5 =>
 (r_1.1.cell (6 : Nat)).bind fun c_6 =>
 c_5.asSl.bind fun xs =>
 (C f_i_Reads [AVal.v (CVal.agg [c, c_1, c_2, c_3, c_4, CVal.sl xs, c_6])] []).bind
 fun r_2 =>
 br (!r_2.1.plain) none
 (br r_2.1.isFlat
 (r_2.1.asSl.bind fun xs_1 =>
 (C f_l_eqIntS [AVal.v (CVal.sl xs_1), AVal.v r.1] []).bind fun r_3 =>
 br (!scalar r_3.1) none
 (r_3.1.asBool.bind fun b =>
 br (!b) (some (CVal.bool false, []))
 ((C f_l_toIns
 [AVal.v
 (CVal.agg
 [CVal.int IntKind.i64 a0, CVal.int IntKind.i64 a1,
 CVal.int IntKind.i64 a2, CVal.int IntKind.i64 a3,
 CVal.int IntKind.i64 a4, CVal.sl a5,
 CVal.int IntKind.i64 a6])]
 []).bind
 fun r_4 =>
 (C f_l_eqIns
 [AVal.v (CVal.agg [c, c_1, c_2, c_3, c_4, CVal.sl xs, c_6]),
 AVal.v r_4.1]
 []).bind
 fun r_5 =>
 br (!scalar r_5.1) none
 (r_5.1.asBool.bind fun b =>
 br (!b) (some (CVal.bool false, []))
 ((C f_l_markIns
 [AVal.agg
 [AVal.v c, AVal.v c_1, AVal.v c_2, AVal.v c_3,
 AVal.v c_4, AVal.lref (0 : Nat) (0 : Nat),
 AVal.v c_6],
 AVal.v (CVal.int IntKind.i64 (1 : Int))]
 [PB.arr (Md.mk true true (0 : Nat)) false (1 : Nat)
 xs]).bind
 fun r_6 =>
 r_6.2[(0 : Nat)]?.bind fun y =>
 ((CVal.asInt IntKind.i64 r_6.1).bind fun n =>
 br (decide (n < (0 : Int))) (some (true, PUnit.unit))
 ((C f_l_eqIntS [AVal.v (CVal.sl xs_1), AVal.v r.1]
 []).bind
 fun r =>
 br (!scalar r.1) none
 (r.1.asBool.bind fun b =>
 some (!b, PUnit.unit)))).bind
 fun y =>
 br y.1 (some (CVal.bool false, []))
 ((C f_l_markIntS
 [AVal.lref (0 : Nat) (0 : Nat),
 AVal.v (CVal.int IntKind.i64 (1 : Int))]
 [PB.arr (Md.mk true true (0 : Nat)) false
 (1 : Nat) xs_1]).bind
 fun r_7 =>
 r_7.2[(0 : Nat)]?.bind fun y =>
 (C f_l_heldIntS
 [AVal.v (CVal.sl y),
 AVal.v (CVal.int IntKind.i64 (1 : Int))]
 []).bind
 fun r_8 =>
 br (!scalar r_8.1) none
 ((CVal.asInt IntKind.i64 r_8.1).bind fun n =>
 br (decide (n < (0 : Int)))
 (some (CVal.bool false, []))
 ((CVal.asInt IntKind.i64 r_8.1).bind
 fun n =>
 (CVal.asInt IntKind.i64 r_7.1).bind
 fun n_1 =>
 br (!decide (n = n_1))
 (some (CVal.bool false, []))
 ((C f_l_toIns
 [AVal.v
 (CVal.agg
 [CVal.int IntKind.i64 a0,
 CVal.int IntKind.i64 a1,
 CVal.int IntKind.i64 a2,
 CVal.int IntKind.i64 a3,
 CVal.int IntKind.i64 a4,
 CVal.sl a5,
 CVal.int IntKind.i64
 a6])]
 []).bind
 fun r_9 =>
 (C f_i_Reads [AVal.v r_9.1] []).bind
 fun r_10 =>
 br r_10.1.isFlat
 (r_10.1.asSl.bind fun xs =>
 (C f_l_eqIntS
 [AVal.v (CVal.sl xs),
 AVal.v r.1]
 []).bind
 fun r =>
 br (!scalar r.1) none
 (r.1.asBool.bind fun b =>
 br (!b)
 (some
 (CVal.bool false,
 []))
 ((C f_l_heldIntS
 [AVal.v
 (CVal.sl y),
 AVal.v
 (CVal.int
 IntKind.i64
 (1 :
 Int))]
 []).bind
 fun r =>
 br (!scalar r.1)
 none
 ((CVal.asInt
 IntKind.i64
 r.1).bind
 fun n =>
 br
 (decide
 (n <
 (0 :
 Int)))
 (some
 (CVal.bool
 false,
 []))
 ((CVal.asInt
 IntKind.i64
 r.1).bind
 fun n =>
 (CVal.asInt
 IntKind.i64
 r_7.1).bind
 fun n_2 =>
 br
 (!decide
 (n =
 n_2))
 (some
 (CVal.bool
 false,
 []))
 (some
 (CVal.bool
 true,
 [])))))))
 none)))))))))
 none))
 none)
theorem eq_l_FnExactReads (C : CallT) (L : LoopT) (a0 : Int) (a1 : Int) (a2 : Int) (a3 : Int) (a4 : Int) (a5 : List CVal) (a6 : Int) : evF E N C L f_l_FnExactReads [AVal.v
 (CVal.agg
 [CVal.int IntKind.i64 a0, CVal.int IntKind.i64 a1, CVal.int IntKind.i64 a2, CVal.int IntKind.i64 a3,
 CVal.int IntKind.i64 a4, CVal.sl a5, CVal.int IntKind.i64 a6])] [] = nf_l_FnExactReads C L a0 a1 a2 a3 a4 a5 a6 := by kernel_rfl
theorem go_l_FnExactReads (a0 : Int) (a1 : Int) (a2 : Int) (a3 : Int) (a4 : Int) (a5 : List CVal) (a6 : Int) (R : Ret) (h : nf_l_FnExactReads CC LL a0 a1 a2 a3 a4 a5 a6 = some R) : CC f_l_FnExactReads [AVal.v
 (CVal.agg
 [CVal.int IntKind.i64 a0, CVal.int IntKind.i64 a1, CVal.int IntKind.i64 a2, CVal.int IntKind.i64 a3,
 CVal.int IntKind.i64 a4, CVal.sl a5, CVal.int IntKind.i64 a6])] [] = some R := fnW (by decide) rfl ((eq_l_FnExactReads CC LL a0 a1 a2 a3 a4 a5 a6).trans h)
noncomputable def nf_s_Reads (C : CallT) (L : LoopT) (a0 : Int) (a1 : Int) (a2 : Int) (a3 : Int) (a4 : Int) (a5 : List CVal) (a6 : Int) : Option Ret :=
 (C f_s_l9Uses [AVal.v (CVal.int IntKind.i64 a0)] []).bind fun r =>
 br (CVal.isAggN (4 : Nat) r.1)
 ((r.1.cell (0 : Nat)).bind fun c =>
 (r.1.cell (1 : Nat)).bind fun c =>
 (r.1.cell (2 : Nat)).bind fun c_1 =>
 (r.1.cell (3 : Nat)).bind fun c_2 =>
 c.asBool.bind fun b =>
 br b
 ((C f_s_l10Add [AVal.v (CVal.sl []), AVal.v (CVal.int IntKind.i64 a2)] []).bind fun r =>
 c_1.asBool.bind fun b =>
 br b
 ((C f_s_l10Add [AVal.v r.1, AVal.v (CVal.int IntKind.i64 a3)] []).bind fun r =>
 r.1.asSl.bind fun xs =>
 (L f_s_Reads (0 : Nat) lc_s_Reads_0 [] k_s_Reads_0
 ((PUnit.unit, xs, (0 : Int), PUnit.unit), (a0, a1, a2, a3, a4, a5, a6, PUnit.unit),
 PUnit.unit)).bind
 fun r =>
 loK r (fun r => some r) fun j p =>
 br (j == (0 : Nat)) (some (CVal.sl p.fst.snd.1, [])) none)
 (r.1.asSl.bind fun xs =>
 (L f_s_Reads (0 : Nat) lc_s_Reads_0 [] k_s_Reads_0
 ((PUnit.unit, xs, (0 : Int), PUnit.unit), (a0, a1, a2, a3, a4, a5, a6, PUnit.unit),
 PUnit.unit)).bind
 fun r =>
 loK r (fun r => some r) fun j p => br (j == (0 : Nat)) (some (CVal.sl p.fst.snd.1, [])) none))
 (c_1.asBool.bind fun b =>
 br b
 ((C f_s_l10Add [AVal.v (CVal.sl []), AVal.v (CVal.int IntKind.i64 a3)] []).bind fun r =>
 r.1.asSl.bind fun xs =>
 (L f_s_Reads (0 : Nat) lc_s_Reads_0 [] k_s_Reads_0
 ((PUnit.unit, xs, (0 : Int), PUnit.unit), (a0, a1, a2, a3, a4, a5, a6, PUnit.unit),
 PUnit.unit)).bind
 fun r =>
 loK r (fun r => some r) fun j p => br (j == (0 : Nat)) (some (CVal.sl p.fst.snd.1, [])) none)
 ((L f_s_Reads (0 : Nat) lc_s_Reads_0 [] k_s_Reads_0
 ((PUnit.unit, [], (0 : Int), PUnit.unit), (a0, a1, a2, a3, a4, a5, a6, PUnit.unit),
 PUnit.unit)).bind
 fun r =>
 loK r (fun r => some r) fun j p => br (j == (0 : Nat)) (some (CVal.sl p.fst.snd.1, [])) none)))
 none
theorem eq_s_Reads (C : CallT) (L : LoopT) (a0 : Int) (a1 : Int) (a2 : Int) (a3 : Int) (a4 : Int) (a5 : List CVal) (a6 : Int) : evF E N C L f_s_Reads [AVal.v
 (CVal.agg
 [CVal.int IntKind.i64 a0, CVal.int IntKind.i64 a1, CVal.int IntKind.i64 a2, CVal.int IntKind.i64 a3,
 CVal.int IntKind.i64 a4, CVal.sl a5, CVal.int IntKind.i64 a6])] [] = nf_s_Reads C L a0 a1 a2 a3 a4 a5 a6 := by kernel_rfl
theorem go_s_Reads (a0 : Int) (a1 : Int) (a2 : Int) (a3 : Int) (a4 : Int) (a5 : List CVal) (a6 : Int) (R : Ret) (h : nf_s_Reads CC LL a0 a1 a2 a3 a4 a5 a6 = some R) : CC f_s_Reads [AVal.v
 (CVal.agg
 [CVal.int IntKind.i64 a0, CVal.int IntKind.i64 a1, CVal.int IntKind.i64 a2, CVal.int IntKind.i64 a3,
 CVal.int IntKind.i64 a4, CVal.sl a5, CVal.int IntKind.i64 a6])] [] = some R := fnW (by decide) rfl ((eq_s_Reads CC LL a0 a1 a2 a3 a4 a5 a6).trans h)
noncomputable def nf_l_markIns (C : CallT) (L : LoopT) (a0 : Int) (a1 : Int) (a2 : Int) (a3 : Int) (a4 : Int) (a5 : List CVal) (a6 : Int) (b : Int) : Option Ret :=
 (C f_l_markIntS [AVal.lref (0 : Nat) (0 : Nat), AVal.v (CVal.int IntKind.i64 b)]
 [PB.arr (Md.mk true true (0 : Nat)) false (1 : Nat) a5]).bind
 fun r => r.2[(0 : Nat)]?.bind fun y => some (r.1, [y])
theorem eq_l_markIns (C : CallT) (L : LoopT) (a0 : Int) (a1 : Int) (a2 : Int) (a3 : Int) (a4 : Int) (a5 : List CVal) (a6 : Int) (b : Int) : evF E N C L f_l_markIns [AVal.agg
 [AVal.v (CVal.int IntKind.i64 a0), AVal.v (CVal.int IntKind.i64 a1), AVal.v (CVal.int IntKind.i64 a2),
 AVal.v (CVal.int IntKind.i64 a3), AVal.v (CVal.int IntKind.i64 a4), AVal.lref (0 : Nat) (0 : Nat),
 AVal.v (CVal.int IntKind.i64 a6)],
 AVal.v (CVal.int IntKind.i64 b)] [PB.arr (Md.mk true true (0 : Nat)) false (1 : Nat) a5] = nf_l_markIns C L a0 a1 a2 a3 a4 a5 a6 b := by kernel_rfl
theorem go_l_markIns (a0 : Int) (a1 : Int) (a2 : Int) (a3 : Int) (a4 : Int) (a5 : List CVal) (a6 : Int) (b : Int) (R : Ret) (h : nf_l_markIns CC LL a0 a1 a2 a3 a4 a5 a6 b = some R) : CC f_l_markIns [AVal.agg
 [AVal.v (CVal.int IntKind.i64 a0), AVal.v (CVal.int IntKind.i64 a1), AVal.v (CVal.int IntKind.i64 a2),
 AVal.v (CVal.int IntKind.i64 a3), AVal.v (CVal.int IntKind.i64 a4), AVal.lref (0 : Nat) (0 : Nat),
 AVal.v (CVal.int IntKind.i64 a6)],
 AVal.v (CVal.int IntKind.i64 b)] [PB.arr (Md.mk true true (0 : Nat)) false (1 : Nat) a5] = some R := fnW (by decide) rfl ((eq_l_markIns CC LL a0 a1 a2 a3 a4 a5 a6 b).trans h)
noncomputable def nf_l_toPiece (C : CallT) (L : LoopT) (a0 : Int) (a1 : Int) (a2 : Int) (a3 : List CVal) : Option Ret :=
 (C f_l_toInsS [AVal.v (CVal.sl a3)] []).bind fun r =>
 br r.1.isFlat
 (r.1.asSl.bind fun xs =>
 some (CVal.agg [CVal.int IntKind.i64 a0, CVal.int IntKind.i64 a1, CVal.int IntKind.i64 a2, CVal.sl xs], []))
 none
theorem eq_l_toPiece (C : CallT) (L : LoopT) (a0 : Int) (a1 : Int) (a2 : Int) (a3 : List CVal) : evF E N C L f_l_toPiece [AVal.v (CVal.agg [CVal.int IntKind.i64 a0, CVal.int IntKind.i64 a1, CVal.int IntKind.i64 a2, CVal.sl a3])] [] = nf_l_toPiece C L a0 a1 a2 a3 := by kernel_rfl
theorem go_l_toPiece (a0 : Int) (a1 : Int) (a2 : Int) (a3 : List CVal) (R : Ret) (h : nf_l_toPiece CC LL a0 a1 a2 a3 = some R) : CC f_l_toPiece [AVal.v (CVal.agg [CVal.int IntKind.i64 a0, CVal.int IntKind.i64 a1, CVal.int IntKind.i64 a2, CVal.sl a3])] [] = some R := fnW (by decide) rfl ((eq_l_toPiece CC LL a0 a1 a2 a3).trans h)
noncomputable def nf_l_markPiece (C : CallT) (L : LoopT) (a0 : Int) (a1 : Int) (a2 : Int) (a3 : List CVal) (b : Int) : Option Ret :=
 (C f_l_markInsS [AVal.lref (0 : Nat) (0 : Nat), AVal.v (CVal.int IntKind.i64 b)]
 [PB.arr (Md.mk true true (0 : Nat)) false (7 : Nat) a3]).bind
 fun r => r.2[(0 : Nat)]?.bind fun y => some (r.1, [y])
theorem eq_l_markPiece (C : CallT) (L : LoopT) (a0 : Int) (a1 : Int) (a2 : Int) (a3 : List CVal) (b : Int) : evF E N C L f_l_markPiece [AVal.agg
 [AVal.v (CVal.int IntKind.i64 a0), AVal.v (CVal.int IntKind.i64 a1), AVal.v (CVal.int IntKind.i64 a2),
 AVal.lref (0 : Nat) (0 : Nat)],
 AVal.v (CVal.int IntKind.i64 b)] [PB.arr (Md.mk true true (0 : Nat)) false (7 : Nat) a3] = nf_l_markPiece C L a0 a1 a2 a3 b := by kernel_rfl
theorem go_l_markPiece (a0 : Int) (a1 : Int) (a2 : Int) (a3 : List CVal) (b : Int) (R : Ret) (h : nf_l_markPiece CC LL a0 a1 a2 a3 b = some R) : CC f_l_markPiece [AVal.agg
 [AVal.v (CVal.int IntKind.i64 a0), AVal.v (CVal.int IntKind.i64 a1), AVal.v (CVal.int IntKind.i64 a2),
 AVal.lref (0 : Nat) (0 : Nat)],
 AVal.v (CVal.int IntKind.i64 b)] [PB.arr (Md.mk true true (0 : Nat)) false (7 : Nat) a3] = some R := fnW (by decide) rfl ((eq_l_markPiece CC LL a0 a1 a2 a3 b).trans h)
noncomputable def nf_s_l10Add (C : CallT) (L : LoopT) (a : List CVal) (b : Int) : Option Ret :=
 (L f_s_l10Add (0 : Nat) lc_s_l10Add_0 [] k_s_l10Add_0
 ((a, b, PUnit.unit, false, (0 : Int), PUnit.unit), [], PUnit.unit)).bind
 fun r =>
 loK r (fun r => some r) fun j p =>
 br (j == (0 : Nat))
 (br (!p.fst.snd.snd.snd.1)
 (br (decide (List.length p.snd.1 + (1 : Nat) ≤ (4294967296 : Nat)) && true && true)
 (some (CVal.sl (p.snd.1 ++ [CVal.int IntKind.i64 p.fst.snd.1]), [])) none)
 (some (CVal.sl p.snd.1, [])))
 none
theorem eq_s_l10Add (C : CallT) (L : LoopT) (a : List CVal) (b : Int) : evF E N C L f_s_l10Add [AVal.v (CVal.sl a), AVal.v (CVal.int IntKind.i64 b)] [] = nf_s_l10Add C L a b := by kernel_rfl
theorem go_s_l10Add (a : List CVal) (b : Int) (R : Ret) (h : nf_s_l10Add CC LL a b = some R) : CC f_s_l10Add [AVal.v (CVal.sl a), AVal.v (CVal.int IntKind.i64 b)] [] = some R := fnW (by decide) rfl ((eq_s_l10Add CC LL a b).trans h)
noncomputable def nf_s_l1In (C : CallT) (L : LoopT) (a : Int) (b : Int) (c : Int) : Option Ret :=
 (br (decide (b ≤ a)) (some (decide (a ≤ c), PUnit.unit)) (some (false, PUnit.unit))).bind fun y =>
 some (CVal.bool y.1, [])
theorem eq_s_l1In (C : CallT) (L : LoopT) (a : Int) (b : Int) (c : Int) : evF E N C L f_s_l1In [AVal.v (CVal.int IntKind.i64 a), AVal.v (CVal.int IntKind.i64 b), AVal.v (CVal.int IntKind.i64 c)] [] = nf_s_l1In C L a b c := by kernel_rfl
theorem go_s_l1In (a : Int) (b : Int) (c : Int) (R : Ret) (h : nf_s_l1In CC LL a b c = some R) : CC f_s_l1In [AVal.v (CVal.int IntKind.i64 a), AVal.v (CVal.int IntKind.i64 b), AVal.v (CVal.int IntKind.i64 c)] [] = some R := fnW (by decide) rfl ((eq_s_l1In CC LL a b c).trans h)
noncomputable def nf_i_in (C : CallT) (L : LoopT) (a : Int) (b : Int) (c : Int) : Option Ret :=
 (br (decide (b ≤ a)) (some (decide (a ≤ c), PUnit.unit)) (some (false, PUnit.unit))).bind fun y =>
 some (CVal.bool y.1, [])
theorem eq_i_in (C : CallT) (L : LoopT) (a : Int) (b : Int) (c : Int) : evF E N C L f_i_in [AVal.v (CVal.int IntKind.i64 a), AVal.v (CVal.int IntKind.i64 b), AVal.v (CVal.int IntKind.i64 c)] [] = nf_i_in C L a b c := by kernel_rfl
theorem go_i_in (a : Int) (b : Int) (c : Int) (R : Ret) (h : nf_i_in CC LL a b c = some R) : CC f_i_in [AVal.v (CVal.int IntKind.i64 a), AVal.v (CVal.int IntKind.i64 b), AVal.v (CVal.int IntKind.i64 c)] [] = some R := fnW (by decide) rfl ((eq_i_in CC LL a b c).trans h)
noncomputable def nf_l_eqInsS (C : CallT) (L : LoopT) (a : List CVal) (b : List CVal) : Option Ret :=
 br (!decide ((↑a.length : Int) = (↑b.length : Int))) (some (CVal.bool false, []))
 ((L f_l_eqInsS (0 : Nat) lc_l_eqInsS_0 [] k_l_eqInsS_0 ((a, b, (0 : Int), PUnit.unit), PUnit.unit)).bind fun r =>
 loK r (fun r => some r) fun j p => br (j == (0 : Nat)) (some (CVal.bool true, [])) none)
theorem eq_l_eqInsS (C : CallT) (L : LoopT) (a : List CVal) (b : List CVal) : evF E N C L f_l_eqInsS [AVal.v (CVal.sl a), AVal.v (CVal.sl b)] [] = nf_l_eqInsS C L a b := by kernel_rfl
theorem go_l_eqInsS (a : List CVal) (b : List CVal) (R : Ret) (h : nf_l_eqInsS CC LL a b = some R) : CC f_l_eqInsS [AVal.v (CVal.sl a), AVal.v (CVal.sl b)] [] = some R := fnW (by decide) rfl ((eq_l_eqInsS CC LL a b).trans h)
noncomputable def nf_s_l10Guard (C : CallT) (L : LoopT) (a0 : Int) (a1 : Int) (a2 : Int) (a3 : List CVal) (b : Int) : Option Ret :=
 (L f_s_l10Guard (0 : Nat) lc_s_l10Guard_0 [] k_s_l10Guard_0
 ((b, PUnit.unit, PUnit.unit, (0 : Int), PUnit.unit), (a0, a1, a2, a3, PUnit.unit), [], PUnit.unit)).bind
 fun r =>
 loK r (fun r => some r) fun j p =>
 br (j == (0 : Nat))
 ((br (decide ((↑(List.length p.snd.snd.1) : Int) = (0 : Int))) (some (true, PUnit.unit))
 ((C f_s_l1In
 [AVal.v (CVal.int IntKind.i64 p.fst.1), AVal.v (CVal.int IntKind.i64 (0 : Int)),
 AVal.v
 (CVal.int IntKind.i64
 (IntKind.i64.wrap ((↑(List.length p.snd.fst.snd.snd.snd.1) : Int) - (1 : Int))))]
 []).bind
 fun r => r.1.asBool.bind fun b => some (!b, PUnit.unit))).bind
 fun y =>
 br y.1 (some (CVal.int IntKind.i64 (-1 : Int), []))
 (br (decide ((0 : Int) ≤ IntKind.i64.wrap ((↑(List.length p.snd.snd.1) : Int) - (1 : Int))) && true)
 (br
 (decide
 ((IntKind.i64.wrap ((↑(List.length p.snd.snd.1) : Int) - (1 : Int))).toNat <
 List.length p.snd.snd.1) &&
 true)
 (p.snd.snd.1[(IntKind.i64.wrap ((↑(List.length p.snd.snd.1) : Int) - (1 : Int))).toNat]?.bind fun y =>
 (y.cell (0 : Nat)).bind fun c =>
 (CVal.asInt IntKind.i64 c).bind fun n => some (CVal.int IntKind.i64 n, []))
 none)
 none))
 none
theorem eq_s_l10Guard (C : CallT) (L : LoopT) (a0 : Int) (a1 : Int) (a2 : Int) (a3 : List CVal) (b : Int) : evF E N C L f_s_l10Guard [AVal.v (CVal.agg [CVal.int IntKind.i64 a0, CVal.int IntKind.i64 a1, CVal.int IntKind.i64 a2, CVal.sl a3]),
 AVal.v (CVal.int IntKind.i64 b)] [] = nf_s_l10Guard C L a0 a1 a2 a3 b := by kernel_rfl
theorem go_s_l10Guard (a0 : Int) (a1 : Int) (a2 : Int) (a3 : List CVal) (b : Int) (R : Ret) (h : nf_s_l10Guard CC LL a0 a1 a2 a3 b = some R) : CC f_s_l10Guard [AVal.v (CVal.agg [CVal.int IntKind.i64 a0, CVal.int IntKind.i64 a1, CVal.int IntKind.i64 a2, CVal.sl a3]),
 AVal.v (CVal.int IntKind.i64 b)] [] = some R := fnW (by decide) rfl ((eq_s_l10Guard CC LL a0 a1 a2 a3 b).trans h)
noncomputable def nl_l_markIntS_0 (C : CallT) (L : LoopT) (x01 : Int) (x02 : Int) (x1 : List CVal) : Option (LO k_l_markIntS_0.T) :=
 br (decide (x02 < (↑x1.length : Int)))
 (br (decide ((0 : Int) ≤ x02) && true)
 (br (decide (x02.toNat < x1.length) && true)
 (x1[x02.toNat]?.bind fun y =>
 br (CVal.fits false (1 : Nat) y)
 (L f_l_markIntS (0 : Nat) lc_l_markIntS_0 [PSh.arr (Md.mk true true (0 : Nat)) false (1 : Nat)] k_l_markIntS_0
 ((PUnit.unit, IntKind.i64.wrap (x01 + (1 : Int)), IntKind.i64.wrap (x02 + (1 : Int)), PUnit.unit),
 x1.set x02.toNat (CVal.int IntKind.i64 x01), PUnit.unit))
 (br (y.isAgg && decide ((1 : Nat) ≤ y.cells.length))
 (L f_l_markIntS (0 : Nat) lc_l_markIntS_0 [PSh.arr (Md.mk true true (0 : Nat)) false (1 : Nat)]
 k_l_markIntS_0
 ((PUnit.unit, IntKind.i64.wrap (x01 + (1 : Int)), IntKind.i64.wrap (x02 + (1 : Int)), PUnit.unit),
 x1.set x02.toNat (CVal.agg (CVal.int IntKind.i64 x01 :: List.drop (1 : Nat) y.cells)), PUnit.unit))
 none))
 none)
 none)
 (some (LO.out (0 : Nat) ((PUnit.unit, x01, x02, PUnit.unit), x1, PUnit.unit)))
theorem el_l_markIntS_0 (C : CallT) (L : LoopT) (x01 : Int) (x02 : Int) (x1 : List CVal) : evL E N C L f_l_markIntS 0 lc_l_markIntS_0 [PSh.arr (Md.mk true true (0 : Nat)) false (1 : Nat)] k_l_markIntS_0 (((), x01, x02, ()), x1, ()) = nl_l_markIntS_0 C L x01 x02 x1 := by kernel_rfl
theorem gl_l_markIntS_0 (x01 : Int) (x02 : Int) (x1 : List CVal) (R : LO k_l_markIntS_0.T) (h : nl_l_markIntS_0 CC LL x01 x02 x1 = some R) : LL f_l_markIntS 0 lc_l_markIntS_0 [PSh.arr (Md.mk true true (0 : Nat)) false (1 : Nat)] k_l_markIntS_0 (((), x01, x02, ()), x1, ()) = some R := loopW ((el_l_markIntS_0 CC LL x01 x02 x1).trans h)
noncomputable def nl_l_szInsS_0 (C : CallT) (L : LoopT) (x00 : List CVal) (x01 : Int) (x02 : Int) : Option (LO k_l_szInsS_0.T) :=
 br (decide (x02 < (↑x00.length : Int)))
 (br (decide ((0 : Int) ≤ x02) && true)
 (x00[x02.toNat]?.bind fun y =>
 br (CVal.fits true (7 : Nat) y)
 ((y.sub (0 : Nat) (7 : Nat)).bind fun y =>
 (C f_l_szIns [AVal.v y, AVal.v (CVal.int IntKind.i64 x01)] []).bind fun r =>
 (CVal.asInt IntKind.i64 r.1).bind fun n =>
 br (decide (n < (0 : Int))) (some (LO.ret (CVal.int IntKind.i64 (-1 : Int), [])))
 ((CVal.asInt IntKind.i64 r.1).bind fun n =>
 L f_l_szInsS (0 : Nat) lc_l_szInsS_0 [] k_l_szInsS_0
 ((x00, n, IntKind.i64.wrap (x02 + (1 : Int)), PUnit.unit), PUnit.unit)))
 none)
 none)
 (some (LO.out (0 : Nat) ((x00, x01, x02, PUnit.unit), PUnit.unit)))
theorem el_l_szInsS_0 (C : CallT) (L : LoopT) (x00 : List CVal) (x01 : Int) (x02 : Int) : evL E N C L f_l_szInsS 0 lc_l_szInsS_0 [] k_l_szInsS_0 ((x00, x01, x02, ()), ()) = nl_l_szInsS_0 C L x00 x01 x02 := by kernel_rfl
theorem gl_l_szInsS_0 (x00 : List CVal) (x01 : Int) (x02 : Int) (R : LO k_l_szInsS_0.T) (h : nl_l_szInsS_0 CC LL x00 x01 x02 = some R) : LL f_l_szInsS 0 lc_l_szInsS_0 [] k_l_szInsS_0 ((x00, x01, x02, ()), ()) = some R := loopW ((el_l_szInsS_0 CC LL x00 x01 x02).trans h)
noncomputable def nl_l_markInsS_0 (C : CallT) (L : LoopT) (x01 : Int) (x02 : Int) (x1 : List CVal) : Option (LO k_l_markInsS_0.T) :=
 br (decide (x02 < (↑x1.length : Int)))
 (br (decide ((0 : Int) ≤ x02) && true)
 (br (decide (x02.toNat < x1.length) && true)
 (x1[x02.toNat]?.bind fun y =>
 br (CVal.fits false (1 : Nat) y)
 (br (decide ((0 : Int) ≤ x02) && true)
 (br (decide (x02.toNat < (x1.set x02.toNat (CVal.int IntKind.i64 x01)).length) && true)
 ((x1.set x02.toNat (CVal.int IntKind.i64 x01))[x02.toNat]?.bind fun y =>
 br (y.isAgg && decide ((2 : Nat) ≤ y.cells.length))
 (br (decide ((0 : Int) ≤ x02) && true)
 (br
 (decide
 (x02.toNat <
 ((x1.set x02.toNat (CVal.int IntKind.i64 x01)).set x02.toNat
 (CVal.agg
 (splice y.cells (1 : Nat)
 [CVal.int IntKind.i64 (IntKind.i64.wrap (x01 + (1 : Int)))]))).length) &&
 true)
 (((x1.set x02.toNat (CVal.int IntKind.i64 x01)).set x02.toNat
 (CVal.agg
 (splice y.cells (1 : Nat)
 [CVal.int IntKind.i64 (IntKind.i64.wrap (x01 + (1 : Int)))])))[x02.toNat]?.bind
 fun y_1 =>
 br (y_1.isAgg && decide ((3 : Nat) ≤ y_1.cells.length))
 (br (decide ((0 : Int) ≤ x02) && true)
 (br
 (decide
 (x02.toNat <
 (((x1.set x02.toNat (CVal.int IntKind.i64 x01)).set x02.toNat
 (CVal.agg
 (splice y.cells (1 : Nat)
 [CVal.int IntKind.i64 (IntKind.i64.wrap (x01 + (1 : Int)))]))).set
 x02.toNat
 (CVal.agg
 (splice y_1.cells (2 : Nat)
 [CVal.int IntKind.i64
 (IntKind.i64.wrap
 (IntKind.i64.wrap (x01 + (1 : Int)) + (1 : Int)))]))).length) &&
 true)
 ((((x1.set x02.toNat (CVal.int IntKind.i64 x01)).set x02.toNat
 (CVal.agg
 (splice y.cells (1 : Nat)
 [CVal.int IntKind.i64 (IntKind.i64.wrap (x01 + (1 : Int)))]))).set
 x02.toNat
 (CVal.agg
 (splice y_1.cells (2 : Nat)
 [CVal.int IntKind.i64
 (IntKind.i64.wrap
 (IntKind.i64.wrap (x01 + (1 : Int)) + (1 : Int)))])))[x02.toNat]?.bind
 fun y_2 =>
 br (y_2.isAgg && decide ((4 : Nat) ≤ y_2.cells.length))
 (br (decide ((0 : Int) ≤ x02) && true)
 (br
 (decide
 (x02.toNat <
 ((((x1.set x02.toNat (CVal.int IntKind.i64 x01)).set x02.toNat
 (CVal.agg
 (splice y.cells (1 : Nat)
 [CVal.int IntKind.i64
 (IntKind.i64.wrap (x01 + (1 : Int)))]))).set
 x02.toNat
 (CVal.agg
 (splice y_1.cells (2 : Nat)
 [CVal.int IntKind.i64
 (IntKind.i64.wrap
 (IntKind.i64.wrap (x01 + (1 : Int)) + (1 : Int)))]))).set
 x02.toNat
 (CVal.agg
 (splice y_2.cells (3 : Nat)
 [CVal.int IntKind.i64
 (IntKind.i64.wrap
 (IntKind.i64.wrap
 (IntKind.i64.wrap (x01 + (1 : Int)) + (1 : Int)) +
 (1 : Int)))]))).length) &&
 true)
 (((((x1.set x02.toNat (CVal.int IntKind.i64 x01)).set x02.toNat
 (CVal.agg
 (splice y.cells (1 : Nat)
 [CVal.int IntKind.i64
 (IntKind.i64.wrap (x01 + (1 : Int)))]))).set
 x02.toNat
 (CVal.agg
 (splice y_1.cells (2 : Nat)
 [CVal.int IntKind.i64
 (IntKind.i64.wrap
 (IntKind.i64.wrap (x01 + (1 : Int)) + (1 : Int)))]))).set
 x02.toNat
 (CVal.agg
 (splice y_2.cells (3 : Nat)
 [CVal.int IntKind.i64
 (IntKind.i64.wrap
 (IntKind.i64.wrap
 (IntKind.i64.wrap (x01 + (1 : Int)) + (1 : Int)) +
 (1 : Int)))])))[x02.toNat]?.bind
 fun y_3 =>
 br (y_3.isAgg && decide ((5 : Nat) ≤ y_3.cells.length))
 (br (decide ((0 : Int) ≤ x02) && true)
 (br
 (decide
 (x02.toNat <
 (((((x1.set x02.toNat (CVal.int IntKind.i64 x01)).set x02.toNat
 (CVal.agg
 (splice y.cells (1 : Nat)
 [CVal.int IntKind.i64
 (IntKind.i64.wrap (x01 + (1 : Int)))]))).set
 x02.toNat
 (CVal.agg
 (splice y_1.cells (2 : Nat)
 [CVal.int IntKind.i64
 (IntKind.i64.wrap
 (IntKind.i64.wrap (x01 + (1 : Int)) +
 (1 : Int)))]))).set
 x02.toNat
 (CVal.agg
 (splice y_2.cells (3 : Nat)
 [CVal.int IntKind.i64
 (IntKind.i64.wrap
 (IntKind.i64.wrap
 (IntKind.i64.wrap (x01 + (1 : Int)) +
 (1 : Int)) +
 (1 : Int)))]))).set
 x02.toNat
 (CVal.agg
 (splice y_3.cells (4 : Nat)
 [CVal.int IntKind.i64
 (IntKind.i64.wrap
 (IntKind.i64.wrap
 (IntKind.i64.wrap
 (IntKind.i64.wrap (x01 + (1 : Int)) +
 (1 : Int)) +
 (1 : Int)) +
 (1 : Int)))]))).length) &&
 true)
 ((((((x1.set x02.toNat (CVal.int IntKind.i64 x01)).set x02.toNat
 (CVal.agg
 (splice y.cells (1 : Nat)
 [CVal.int IntKind.i64
 (IntKind.i64.wrap (x01 + (1 : Int)))]))).set
 x02.toNat
 (CVal.agg
 (splice y_1.cells (2 : Nat)
 [CVal.int IntKind.i64
 (IntKind.i64.wrap
 (IntKind.i64.wrap (x01 + (1 : Int)) +
 (1 : Int)))]))).set
 x02.toNat
 (CVal.agg
 (splice y_2.cells (3 : Nat)
 [CVal.int IntKind.i64
 (IntKind.i64.wrap
 (IntKind.i64.wrap
 (IntKind.i64.wrap (x01 + (1 : Int)) +
 (1 : Int)) +
 (1 : Int)))]))).set
 x02.toNat
 (CVal.agg
 (splice y_3.cells (4 : Nat)
 [CVal.int IntKind.i64
 (IntKind.i64.wrap
 (IntKind.i64.wrap
 (IntKind.i64.wrap
 (IntKind.i64.wrap (x01 + (1 : Int)) +
 (1 : Int)) +
 (1 : Int)) +
 (1 : Int)))])))[x02.toNat]?.bind
 fun y_4 =>
 (y_4.cell (5 : Nat)).bind fun c =>
 c.asSl.bind fun xs =>
 (((((x1.set x02.toNat (CVal.int IntKind.i64 x01)).set x02.toNat
 (CVal.agg
 (splice y.cells (1 : Nat)
 [CVal.int IntKind.i64
 (IntKind.i64.wrap
 (x01 + (1 : Int)))]))).set
 x02.toNat
 (CVal.agg
 (splice y_1.cells (2 : Nat)
 [CVal.int IntKind.i64
 (IntKind.i64.wrap
 (IntKind.i64.wrap (x01 + (1 : Int)) +
 (1 : Int)))]))).set
 x02.toNat
 (CVal.agg
 (splice y_2.cells (3 : Nat)
 [CVal.int IntKind.i64
 (IntKind.i64.wrap
 (IntKind.i64.wrap
 (IntKind.i64.wrap (x01 + (1 : Int)) +
 (1 : Int)) +
 (1 : Int)))]))).set
 x02.toNat
 (CVal.agg
 (splice y_3.cells (4 : Nat)
 [CVal.int IntKind.i64
 (IntKind.i64.wrap
 (IntKind.i64.wrap
 (IntKind.i64.wrap
 (IntKind.i64.wrap (x01 + (1 : Int)) +
 (1 : Int)) +
 (1 : Int)) +
 (1 : Int)))])))[x02.toNat]?.bind
 fun y_5 =>
 (y_5.cell (5 : Nat)).bind fun c =>
 c.asSl.bind fun xs =>
 br (xs.all (CVal.fits false (1 : Nat)))
 ((C f_l_markIntS
 [AVal.lref (0 : Nat) (0 : Nat),
 AVal.v
 (CVal.int IntKind.i64
 (IntKind.i64.wrap
 (IntKind.i64.wrap
 (IntKind.i64.wrap
 (IntKind.i64.wrap
 (IntKind.i64.wrap
 (x01 + (1 : Int)) +
 (1 : Int)) +
 (1 : Int)) +
 (1 : Int)) +
 (1 : Int))))]
 [PB.arr (Md.mk true true (0 : Nat)) false (1 : Nat)
 xs]).bind
 fun r =>
 r.2[(0 : Nat)]?.bind fun y_6 =>
 br (decide ((0 : Int) ≤ x02) && true)
 (br
 (decide
 (x02.toNat <
 ((((((x1.set x02.toNat
 (CVal.int IntKind.i64
 x01)).set
 x02.toNat
 (CVal.agg
 (splice y.cells
 (1 : Nat)
 [CVal.int IntKind.i64
 (IntKind.i64.wrap
 (x01 +
 (1 :
 Int)))]))).set
 x02.toNat
 (CVal.agg
 (splice y_1.cells (2 : Nat)
 [CVal.int IntKind.i64
 (IntKind.i64.wrap
 (IntKind.i64.wrap
 (x01 +
 (1 : Int)) +
 (1 :
 Int)))]))).set
 x02.toNat
 (CVal.agg
 (splice y_2.cells (3 : Nat)
 [CVal.int IntKind.i64
 (IntKind.i64.wrap
 (IntKind.i64.wrap
 (IntKind.i64.wrap
 (x01 +
 (1 : Int)) +
 (1 : Int)) +
 (1 : Int)))]))).set
 x02.toNat
 (CVal.agg
 (splice y_3.cells (4 : Nat)
 [CVal.int IntKind.i64
 (IntKind.i64.wrap
 (IntKind.i64.wrap
 (IntKind.i64.wrap
 (IntKind.i64.wrap
 (x01 +
 (1 : Int)) +
 (1 : Int)) +
 (1 : Int)) +
 (1 : Int)))]))).set
 x02.toNat
 (y_5.putCell (5 : Nat)
 (CVal.sl y_6))).length) &&
 true)
 (br (r.1.isFlat && true)
 ((CVal.asInt IntKind.i64 r.1).bind fun n =>
 ((((((x1.set x02.toNat
 (CVal.int
 IntKind.i64
 x01)).set
 x02.toNat
 (CVal.agg
 (splice y.cells
 (1 : Nat)
 [CVal.int
 IntKind.i64
 (IntKind.i64.wrap
 (x01 +
 (1 :
 Int)))]))).set
 x02.toNat
 (CVal.agg
 (splice y_1.cells
 (2 : Nat)
 [CVal.int IntKind.i64
 (IntKind.i64.wrap
 (IntKind.i64.wrap
 (x01 +
 (1 : Int)) +
 (1 :
 Int)))]))).set
 x02.toNat
 (CVal.agg
 (splice y_2.cells (3 : Nat)
 [CVal.int IntKind.i64
 (IntKind.i64.wrap
 (IntKind.i64.wrap
 (IntKind.i64.wrap
 (x01 +
 (1 : Int)) +
 (1 : Int)) +
 (1 : Int)))]))).set
 x02.toNat
 (CVal.agg
 (splice y_3.cells (4 : Nat)
 [CVal.int IntKind.i64
 (IntKind.i64.wrap
 (IntKind.i64.wrap
 (IntKind.i64.wrap
 (IntKind.i64.wrap
 (x01 +
 (1 : Int)) +
 (1 : Int)) +
 (1 : Int)) +
 (1 : Int)))]))).set
 x02.toNat
 (y_5.putCell (5 : Nat)
 (CVal.sl y_6)))[x02.toNat]?.bind
 fun y_7 =>
 br
 (y_7.isAgg &&
 decide ((7 : Nat) ≤ y_7.cells.length))
 ((CVal.asInt IntKind.i64 r.1).bind
 fun n_1 =>
 L f_l_markInsS (0 : Nat) lc_l_markInsS_0
 [PSh.arr (Md.mk true true (0 : Nat))
 false (7 : Nat)]
 k_l_markInsS_0
 ((PUnit.unit,
 IntKind.i64.wrap (n_1 + (1 : Int)),
 IntKind.i64.wrap (x02 + (1 : Int)),
 PUnit.unit),
 ((((((x1.set x02.toNat
 (CVal.int
 IntKind.i64
 x01)).set
 x02.toNat
 (CVal.agg
 (splice
 y.cells
 (1 : Nat)
 [CVal.int
 IntKind.i64
 (IntKind.i64.wrap
 (x01 +
 (1 :
 Int)))]))).set
 x02.toNat
 (CVal.agg
 (splice y_1.cells
 (2 : Nat)
 [CVal.int
 IntKind.i64
 (IntKind.i64.wrap
 (IntKind.i64.wrap
 (x01 +
 (1 :
 Int)) +
 (1 :
 Int)))]))).set
 x02.toNat
 (CVal.agg
 (splice y_2.cells
 (3 : Nat)
 [CVal.int
 IntKind.i64
 (IntKind.i64.wrap
 (IntKind.i64.wrap
 (IntKind.i64.wrap
 (x01 +
 (1 :
 Int)) +
 (1 :
 Int)) +
 (1 :
 Int)))]))).set
 x02.toNat
 (CVal.agg
 (splice y_3.cells
 (4 : Nat)
 [CVal.int IntKind.i64
 (IntKind.i64.wrap
 (IntKind.i64.wrap
 (IntKind.i64.wrap
 (IntKind.i64.wrap
 (x01 +
 (1 :
 Int)) +
 (1 :
 Int)) +
 (1 : Int)) +
 (1 :
 Int)))]))).set
 x02.toNat
 (y_5.putCell (5 : Nat)
 (CVal.sl y_6))).set
 x02.toNat
 (CVal.agg
 (splice y_7.cells (6 : Nat)
 [CVal.int IntKind.i64 n])),
 PUnit.unit))
 none)
 none)
 none)
 none)
 none)
 none)
 none)
 none)
 none)
 none)
 none)
 none)
 none)
 none)
 none)
 none)
 none)
 none)
 none)
 (br (y.isAgg && decide ((1 : Nat) ≤ y.cells.length))
 (br (decide ((0 : Int) ≤ x02) && true)
 (br
 (decide
 (x02.toNat <
 (x1.set x02.toNat (CVal.agg (CVal.int IntKind.i64 x01 :: List.drop (1 : Nat) y.cells))).length) &&
 true)
 ((x1.set x02.toNat
 (CVal.agg (CVal.int IntKind.i64 x01 :: List.drop (1 : Nat) y.cells)))[x02.toNat]?.bind
 fun y_1 =>
 br (y_1.isAgg && decide ((2 : Nat) ≤ y_1.cells.length))
 (br (decide ((0 : Int) ≤ x02) && true)
 (br
 (decide
 (x02.toNat <
 ((x1.set x02.toNat
 (CVal.agg (CVal.int IntKind.i64 x01 :: List.drop (1 : Nat) y.cells))).set
 x02.toNat
 (CVal.agg
 (splice y_1.cells (1 : Nat)
 [CVal.int IntKind.i64 (IntKind.i64.wrap (x01 + (1 : Int)))]))).length) &&
 true)
 (((x1.set x02.toNat (CVal.agg (CVal.int IntKind.i64 x01 :: List.drop (1 : Nat) y.cells))).set
 x02.toNat
 (CVal.agg
 (splice y_1.cells (1 : Nat)
 [CVal.int IntKind.i64 (IntKind.i64.wrap (x01 + (1 : Int)))])))[x02.toNat]?.bind
 fun y_2 =>
 br (y_2.isAgg && decide ((3 : Nat) ≤ y_2.cells.length))
 (br (decide ((0 : Int) ≤ x02) && true)
 (br
 (decide
 (x02.toNat <
 (((x1.set x02.toNat
 (CVal.agg
 (CVal.int IntKind.i64 x01 :: List.drop (1 : Nat) y.cells))).set
 x02.toNat
 (CVal.agg
 (splice y_1.cells (1 : Nat)
 [CVal.int IntKind.i64 (IntKind.i64.wrap (x01 + (1 : Int)))]))).set
 x02.toNat
 (CVal.agg
 (splice y_2.cells (2 : Nat)
 [CVal.int IntKind.i64
 (IntKind.i64.wrap
 (IntKind.i64.wrap (x01 + (1 : Int)) + (1 : Int)))]))).length) &&
 true)
 ((((x1.set x02.toNat
 (CVal.agg
 (CVal.int IntKind.i64 x01 :: List.drop (1 : Nat) y.cells))).set
 x02.toNat
 (CVal.agg
 (splice y_1.cells (1 : Nat)
 [CVal.int IntKind.i64 (IntKind.i64.wrap (x01 + (1 : Int)))]))).set
 x02.toNat
 (CVal.agg
 (splice y_2.cells (2 : Nat)
 [CVal.int IntKind.i64
 (IntKind.i64.wrap
 (IntKind.i64.wrap (x01 + (1 : Int)) + (1 : Int)))])))[x02.toNat]?.bind
 fun y_3 =>
 br (y_3.isAgg && decide ((4 : Nat) ≤ y_3.cells.length))
 (br (decide ((0 : Int) ≤ x02) && true)
 (br
 (decide
 (x02.toNat <
 ((((x1.set x02.toNat
 (CVal.agg
 (CVal.int IntKind.i64 x01 ::
 List.drop (1 : Nat) y.cells))).set
 x02.toNat
 (CVal.agg
 (splice y_1.cells (1 : Nat)
 [CVal.int IntKind.i64
 (IntKind.i64.wrap (x01 + (1 : Int)))]))).set
 x02.toNat
 (CVal.agg
 (splice y_2.cells (2 : Nat)
 [CVal.int IntKind.i64
 (IntKind.i64.wrap
 (IntKind.i64.wrap (x01 + (1 : Int)) +
 (1 : Int)))]))).set
 x02.toNat
 (CVal.agg
 (splice y_3.cells (3 : Nat)
 [CVal.int IntKind.i64
 (IntKind.i64.wrap
 (IntKind.i64.wrap
 (IntKind.i64.wrap (x01 + (1 : Int)) + (1 : Int)) +
 (1 : Int)))]))).length) &&
 true)
 (((((x1.set x02.toNat
 (CVal.agg
 (CVal.int IntKind.i64 x01 ::
 List.drop (1 : Nat) y.cells))).set
 x02.toNat
 (CVal.agg
 (splice y_1.cells (1 : Nat)
 [CVal.int IntKind.i64
 (IntKind.i64.wrap (x01 + (1 : Int)))]))).set
 x02.toNat
 (CVal.agg
 (splice y_2.cells (2 : Nat)
 [CVal.int IntKind.i64
 (IntKind.i64.wrap
 (IntKind.i64.wrap (x01 + (1 : Int)) + (1 : Int)))]))).set
 x02.toNat
 (CVal.agg
 (splice y_3.cells (3 : Nat)
 [CVal.int IntKind.i64
 (IntKind.i64.wrap
 (IntKind.i64.wrap
 (IntKind.i64.wrap (x01 + (1 : Int)) + (1 : Int)) +
 (1 : Int)))])))[x02.toNat]?.bind
 fun y_4 =>
 br (y_4.isAgg && decide ((5 : Nat) ≤ y_4.cells.length))
 (br (decide ((0 : Int) ≤ x02) && true)
 (br
 (decide
 (x02.toNat <
 (((((x1.set x02.toNat
 (CVal.agg
 (CVal.int IntKind.i64 x01 ::
 List.drop (1 : Nat) y.cells))).set
 x02.toNat
 (CVal.agg
 (splice y_1.cells (1 : Nat)
 [CVal.int IntKind.i64
 (IntKind.i64.wrap
 (x01 + (1 : Int)))]))).set
 x02.toNat
 (CVal.agg
 (splice y_2.cells (2 : Nat)
 [CVal.int IntKind.i64
 (IntKind.i64.wrap
 (IntKind.i64.wrap (x01 + (1 : Int)) +
 (1 : Int)))]))).set
 x02.toNat
 (CVal.agg
 (splice y_3.cells (3 : Nat)
 [CVal.int IntKind.i64
 (IntKind.i64.wrap
 (IntKind.i64.wrap
 (IntKind.i64.wrap (x01 + (1 : Int)) +
 (1 : Int)) +
 (1 : Int)))]))).set
 x02.toNat
 (CVal.agg
 (splice y_4.cells (4 : Nat)
 [CVal.int IntKind.i64
 (IntKind.i64.wrap
 (IntKind.i64.wrap
 (IntKind.i64.wrap
 (IntKind.i64.wrap (x01 + (1 : Int)) +
 (1 : Int)) +
 (1 : Int)) +
 (1 : Int)))]))).length) &&
 true)
 ((((((x1.set x02.toNat
 (CVal.agg
 (CVal.int IntKind.i64 x01 ::
 List.drop (1 : Nat) y.cells))).set
 x02.toNat
 (CVal.agg
 (splice y_1.cells (1 : Nat)
 [CVal.int IntKind.i64
 (IntKind.i64.wrap (x01 + (1 : Int)))]))).set
 x02.toNat
 (CVal.agg
 (splice y_2.cells (2 : Nat)
 [CVal.int IntKind.i64
 (IntKind.i64.wrap
 (IntKind.i64.wrap (x01 + (1 : Int)) +
 (1 : Int)))]))).set
 x02.toNat
 (CVal.agg
 (splice y_3.cells (3 : Nat)
 [CVal.int IntKind.i64
 (IntKind.i64.wrap
 (IntKind.i64.wrap
 (IntKind.i64.wrap (x01 + (1 : Int)) +
 (1 : Int)) +
 (1 : Int)))]))).set
 x02.toNat
 (CVal.agg
 (splice y_4.cells (4 : Nat)
 [CVal.int IntKind.i64
 (IntKind.i64.wrap
 (IntKind.i64.wrap
 (IntKind.i64.wrap
 (IntKind.i64.wrap (x01 + (1 : Int)) +
 (1 : Int)) +
 (1 : Int)) +
 (1 : Int)))])))[x02.toNat]?.bind
 fun y_5 =>
 (y_5.cell (5 : Nat)).bind fun c =>
 c.asSl.bind fun xs =>
 (((((x1.set x02.toNat
 (CVal.agg
 (CVal.int IntKind.i64 x01 ::
 List.drop (1 : Nat) y.cells))).set
 x02.toNat
 (CVal.agg
 (splice y_1.cells (1 : Nat)
 [CVal.int IntKind.i64
 (IntKind.i64.wrap
 (x01 + (1 : Int)))]))).set
 x02.toNat
 (CVal.agg
 (splice y_2.cells (2 : Nat)
 [CVal.int IntKind.i64
 (IntKind.i64.wrap
 (IntKind.i64.wrap (x01 + (1 : Int)) +
 (1 : Int)))]))).set
 x02.toNat
 (CVal.agg
 (splice y_3.cells (3 : Nat)
 [CVal.int IntKind.i64
 (IntKind.i64.wrap
 (IntKind.i64.wrap
 (IntKind.i64.wrap (x01 + (1 : Int)) +
 (1 : Int)) +
 (1 : Int)))]))).set
 x02.toNat
 (CVal.agg
 (splice y_4.cells (4 : Nat)
 [CVal.int IntKind.i64
 (IntKind.i64.wrap
 (IntKind.i64.wrap
 (IntKind.i64.wrap
 (IntKind.i64.wrap (x01 + (1 : Int)) +
 (1 : Int)) +
 (1 : Int)) +
 (1 : Int)))])))[x02.toNat]?.bind
 fun y_6 =>
 (y_6.cell (5 : Nat)).bind fun c =>
 c.asSl.bind fun xs =>
 br (xs.all (CVal.fits false (1 : Nat)))
 ((C f_l_markIntS
 [AVal.lref (0 : Nat) (0 : Nat),
 AVal.v
 (CVal.int IntKind.i64
 (IntKind.i64.wrap
 (IntKind.i64.wrap
 (IntKind.i64.wrap
 (IntKind.i64.wrap
 (IntKind.i64.wrap
 (x01 + (1 : Int)) +
 (1 : Int)) +
 (1 : Int)) +
 (1 : Int)) +
 (1 : Int))))]
 [PB.arr (Md.mk true true (0 : Nat)) false (1 : Nat)
 xs]).bind
 fun r =>
 r.2[(0 : Nat)]?.bind fun y_7 =>
 br (decide ((0 : Int) ≤ x02) && true)
 (br
 (decide
 (x02.toNat <
 ((((((x1.set x02.toNat
 (CVal.agg
 (CVal.int
 IntKind.i64
 x01 ::
 List.drop
 (1 : Nat)
 y.cells))).set
 x02.toNat
 (CVal.agg
 (splice y_1.cells
 (1 : Nat)
 [CVal.int
 IntKind.i64
 (IntKind.i64.wrap
 (x01 +
 (1 :
 Int)))]))).set
 x02.toNat
 (CVal.agg
 (splice y_2.cells
 (2 : Nat)
 [CVal.int IntKind.i64
 (IntKind.i64.wrap
 (IntKind.i64.wrap
 (x01 +
 (1 : Int)) +
 (1 :
 Int)))]))).set
 x02.toNat
 (CVal.agg
 (splice y_3.cells (3 : Nat)
 [CVal.int IntKind.i64
 (IntKind.i64.wrap
 (IntKind.i64.wrap
 (IntKind.i64.wrap
 (x01 +
 (1 : Int)) +
 (1 : Int)) +
 (1 : Int)))]))).set
 x02.toNat
 (CVal.agg
 (splice y_4.cells (4 : Nat)
 [CVal.int IntKind.i64
 (IntKind.i64.wrap
 (IntKind.i64.wrap
 (IntKind.i64.wrap
 (IntKind.i64.wrap
 (x01 +
 (1 : Int)) +
 (1 : Int)) +
 (1 : Int)) +
 (1 : Int)))]))).set
 x02.toNat
 (y_6.putCell (5 : Nat)
 (CVal.sl y_7))).length) &&
 true)
 (br (r.1.isFlat && true)
 ((CVal.asInt IntKind.i64 r.1).bind fun n =>
 ((((((x1.set x02.toNat
 (CVal.agg
 (CVal.int
 IntKind.i64
 x01 ::
 List.drop
 (1 : Nat)
 y.cells))).set
 x02.toNat
 (CVal.agg
 (splice y_1.cells
 (1 : Nat)
 [CVal.int
 IntKind.i64
 (IntKind.i64.wrap
 (x01 +
 (1 :
 Int)))]))).set
 x02.toNat
 (CVal.agg
 (splice y_2.cells
 (2 : Nat)
 [CVal.int IntKind.i64
 (IntKind.i64.wrap
 (IntKind.i64.wrap
 (x01 +
 (1 :
 Int)) +
 (1 :
 Int)))]))).set
 x02.toNat
 (CVal.agg
 (splice y_3.cells (3 : Nat)
 [CVal.int IntKind.i64
 (IntKind.i64.wrap
 (IntKind.i64.wrap
 (IntKind.i64.wrap
 (x01 +
 (1 :
 Int)) +
 (1 : Int)) +
 (1 :
 Int)))]))).set
 x02.toNat
 (CVal.agg
 (splice y_4.cells (4 : Nat)
 [CVal.int IntKind.i64
 (IntKind.i64.wrap
 (IntKind.i64.wrap
 (IntKind.i64.wrap
 (IntKind.i64.wrap
 (x01 +
 (1 :
 Int)) +
 (1 : Int)) +
 (1 : Int)) +
 (1 : Int)))]))).set
 x02.toNat
 (y_6.putCell (5 : Nat)
 (CVal.sl y_7)))[x02.toNat]?.bind
 fun y_8 =>
 br
 (y_8.isAgg &&
 decide ((7 : Nat) ≤ y_8.cells.length))
 ((CVal.asInt IntKind.i64 r.1).bind
 fun n_1 =>
 L f_l_markInsS (0 : Nat) lc_l_markInsS_0
 [PSh.arr (Md.mk true true (0 : Nat))
 false (7 : Nat)]
 k_l_markInsS_0
 ((PUnit.unit,
 IntKind.i64.wrap
 (n_1 + (1 : Int)),
 IntKind.i64.wrap
 (x02 + (1 : Int)),
 PUnit.unit),
 ((((((x1.set x02.toNat
 (CVal.agg
 (CVal.int
 IntKind.i64
 x01 ::
 List.drop
 (1 :
 Nat)
 y.cells))).set
 x02.toNat
 (CVal.agg
 (splice
 y_1.cells
 (1 : Nat)
 [CVal.int
 IntKind.i64
 (IntKind.i64.wrap
 (x01 +
 (1 :
 Int)))]))).set
 x02.toNat
 (CVal.agg
 (splice
 y_2.cells
 (2 : Nat)
 [CVal.int
 IntKind.i64
 (IntKind.i64.wrap
 (IntKind.i64.wrap
 (x01 +
 (1 :
 Int)) +
 (1 :
 Int)))]))).set
 x02.toNat
 (CVal.agg
 (splice y_3.cells
 (3 : Nat)
 [CVal.int
 IntKind.i64
 (IntKind.i64.wrap
 (IntKind.i64.wrap
 (IntKind.i64.wrap
 (x01 +
 (1 :
 Int)) +
 (1 :
 Int)) +
 (1 :
 Int)))]))).set
 x02.toNat
 (CVal.agg
 (splice y_4.cells
 (4 : Nat)
 [CVal.int IntKind.i64
 (IntKind.i64.wrap
 (IntKind.i64.wrap
 (IntKind.i64.wrap
 (IntKind.i64.wrap
 (x01 +
 (1 :
 Int)) +
 (1 :
 Int)) +
 (1 :
 Int)) +
 (1 :
 Int)))]))).set
 x02.toNat
 (y_6.putCell (5 : Nat)
 (CVal.sl y_7))).set
 x02.toNat
 (CVal.agg
 (splice y_8.cells (6 : Nat)
 [CVal.int IntKind.i64 n])),
 PUnit.unit))
 none)
 none)
 none)
 none)
 none)
 none)
 none)
 none)
 none)
 none)
 none)
 none)
 none)
 none)
 none)
 none)
 none)
 none)
 none)
 none))
 none)
 none)
 (some (LO.out (0 : Nat) ((PUnit.unit, x01, x02, PUnit.unit), x1, PUnit.unit)))
theorem el_l_markInsS_0 (C : CallT) (L : LoopT) (x01 : Int) (x02 : Int) (x1 : List CVal) : evL E N C L f_l_markInsS 0 lc_l_markInsS_0 [PSh.arr (Md.mk true true (0 : Nat)) false (7 : Nat)] k_l_markInsS_0 (((), x01, x02, ()), x1, ()) = nl_l_markInsS_0 C L x01 x02 x1 := by kernel_rfl
theorem gl_l_markInsS_0 (x01 : Int) (x02 : Int) (x1 : List CVal) (R : LO k_l_markInsS_0.T) (h : nl_l_markInsS_0 CC LL x01 x02 x1 = some R) : LL f_l_markInsS 0 lc_l_markInsS_0 [PSh.arr (Md.mk true true (0 : Nat)) false (7 : Nat)] k_l_markInsS_0 (((), x01, x02, ()), x1, ()) = some R := loopW ((el_l_markInsS_0 CC LL x01 x02 x1).trans h)
end Go.Proofs.Ytjndiaahgjhaeaa.Abs
