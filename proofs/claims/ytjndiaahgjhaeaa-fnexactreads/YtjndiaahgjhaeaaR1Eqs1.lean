/- What the functions come to in the abstract machine. -/
import Derived.Test.YtjndiaahgjhaeaaR1Ann
import Derived.KernelRfl
set_option linter.unusedVariables false
set_option maxRecDepth 100000
namespace Go.Proofs.Ytjndiaahgjhaeaa.Abs
open Go Go.Proofs
noncomputable def nf_l_FnExactNexts (C : CallT) (L : LoopT) (a0 : Int) (a1 : Int) (a2 : Int) (a3 : List CVal) (b : Int) : Option Ret :=
 (C f_l_szPiece
 [AVal.v (CVal.agg [CVal.int IntKind.i64 a0, CVal.int IntKind.i64 a1, CVal.int IntKind.i64 a2, CVal.sl a3]),
 AVal.v (CVal.int IntKind.i64 (1048576 : Int))]
 []).bind
 fun r =>
 (CVal.asInt IntKind.i64 r.1).bind fun n =>
 br (decide (n < (0 : Int))) (some (CVal.bool true, []))
 ((C f_l_toPiece
 [AVal.v (CVal.agg [CVal.int IntKind.i64 a0, CVal.int IntKind.i64 a1, CVal.int IntKind.i64 a2, CVal.sl a3])]
 []).bind
 fun r =>
 (C f_s_Nexts [AVal.v r.1, AVal.v (CVal.int IntKind.i64 b)] []).bind fun r =>
 (C f_l_toPiece
 [AVal.v
 (CVal.agg [CVal.int IntKind.i64 a0, CVal.int IntKind.i64 a1, CVal.int IntKind.i64 a2, CVal.sl a3])]
 []).bind
 fun r_1 =>
 br (CVal.isAggN (4 : Nat) r_1.1)
 ((r_1.1.cell (0 : Nat)).bind fun c =>
 (r_1.1.cell (1 : Nat)).bind fun c_1 =>
 (r_1.1.cell (2 : Nat)).bind fun c_2 =>
 (r_1.1.cell (3 : Nat)).bind fun c_3 =>
 c_3.asSl.bind fun xs =>
 (C f_i_Nexts [AVal.v (CVal.agg [c, c_1, c_2, CVal.sl xs]), AVal.v (CVal.int IntKind.i64 b)]
 []).bind
 fun r_2 =>
 br (!r_2.1.plain) none
 (br r_2.1.isFlat
 (r_2.1.asSl.bind fun xs_1 =>
 (C f_l_eqIntS [AVal.v (CVal.sl xs_1), AVal.v r.1] []).bind fun r_3 =>
 br (!scalar r_3.1) none
 (r_3.1.asBool.bind fun b_1 =>
 br (!b_1) (some (CVal.bool false, []))
 ((C f_l_toPiece
 [AVal.v
 (CVal.agg
 [CVal.int IntKind.i64 a0, CVal.int IntKind.i64 a1,
 CVal.int IntKind.i64 a2, CVal.sl a3])]
 []).bind
 fun r_4 =>
 (C f_l_eqPiece [AVal.v (CVal.agg [c, c_1, c_2, CVal.sl xs]), AVal.v r_4.1]
 []).bind
 fun r_5 =>
 br (!scalar r_5.1) none
 (r_5.1.asBool.bind fun b_2 =>
 br (!b_2) (some (CVal.bool false, []))
 ((C f_l_markPiece
 [AVal.agg
 [AVal.v c, AVal.v c_1, AVal.v c_2,
 AVal.lref (0 : Nat) (0 : Nat)],
 AVal.v (CVal.int IntKind.i64 (1 : Int))]
 [PB.arr (Md.mk true true (0 : Nat)) false (7 : Nat) xs]).bind
 fun r_6 =>
 r_6.2[(0 : Nat)]?.bind fun y =>
 ((CVal.asInt IntKind.i64 r_6.1).bind fun n =>
 br (decide (n < (0 : Int))) (some (true, PUnit.unit))
 ((C f_l_eqIntS [AVal.v (CVal.sl xs_1), AVal.v r.1]
 []).bind
 fun r =>
 br (!scalar r.1) none
 (r.1.asBool.bind fun b =>
 some (!b, PUnit.unit)))).bind
 fun y =>
 br y.1 (some (CVal.bool false, []))
 ((C f_l_markIntS
 [AVal.lref (0 : Nat) (0 : Nat),
 AVal.v (CVal.int IntKind.i64 (1 : Int))]
 [PB.arr (Md.mk true true (0 : Nat)) false (1 : Nat)
 xs_1]).bind
 fun r_7 =>
 r_7.2[(0 : Nat)]?.bind fun y =>
 (C f_l_heldIntS
 [AVal.v (CVal.sl y),
 AVal.v (CVal.int IntKind.i64 (1 : Int))]
 []).bind
 fun r_8 =>
 br (!scalar r_8.1) none
 ((CVal.asInt IntKind.i64 r_8.1).bind fun n =>
 br (decide (n < (0 : Int)))
 (some (CVal.bool false, []))
 ((CVal.asInt IntKind.i64 r_8.1).bind fun n =>
 (CVal.asInt IntKind.i64 r_7.1).bind fun n_1 =>
 br (!decide (n = n_1))
 (some (CVal.bool false, []))
 ((C f_l_toPiece
 [AVal.v
 (CVal.agg
 [CVal.int IntKind.i64 a0,
 CVal.int IntKind.i64 a1,
 CVal.int IntKind.i64 a2,
 CVal.sl a3])]
 []).bind
 fun r_9 =>
 (C f_i_Nexts
 [AVal.v r_9.1,
 AVal.v (CVal.int IntKind.i64 b)]
 []).bind
 fun r_10 =>
 br r_10.1.isFlat
 (r_10.1.asSl.bind fun xs =>
 (C f_l_eqIntS
 [AVal.v (CVal.sl xs),
 AVal.v r.1]
 []).bind
 fun r =>
 br (!scalar r.1) none
 (r.1.asBool.bind fun b =>
 br (!b)
 (some (CVal.bool false, []))
 ((C f_l_heldIntS
 [AVal.v (CVal.sl y),
 AVal.v
 (CVal.int
 IntKind.i64
 (1 : Int))]
 []).bind
 fun r =>
 br (!scalar r.1) none
 ((CVal.asInt IntKind.i64
 r.1).bind
 fun n =>
 br
 (decide
 (n < (0 : Int)))
 (some
 (CVal.bool false,
 []))
 ((CVal.asInt
 IntKind.i64
 r.1).bind
 fun n =>
 (CVal.asInt
 IntKind.i64
 r_7.1).bind
 fun n_2 =>
 br
 (!decide
 (n = n_2))
 (some
 (CVal.bool
 false,
 []))
 (some
 (CVal.bool
 true,
 [])))))))
 none)))))))))
 none))
 none)
theorem eq_l_FnExactNexts (C : CallT) (L : LoopT) (a0 : Int) (a1 : Int) (a2 : Int) (a3 : List CVal) (b : Int) : evF E N C L f_l_FnExactNexts [AVal.v (CVal.agg [CVal.int IntKind.i64 a0, CVal.int IntKind.i64 a1, CVal.int IntKind.i64 a2, CVal.sl a3]),
 AVal.v (CVal.int IntKind.i64 b)] [] = nf_l_FnExactNexts C L a0 a1 a2 a3 b := by kernel_rfl
theorem go_l_FnExactNexts (a0 : Int) (a1 : Int) (a2 : Int) (a3 : List CVal) (b : Int) (R : Ret) (h : nf_l_FnExactNexts CC LL a0 a1 a2 a3 b = some R) : CC f_l_FnExactNexts [AVal.v (CVal.agg [CVal.int IntKind.i64 a0, CVal.int IntKind.i64 a1, CVal.int IntKind.i64 a2, CVal.sl a3]),
 AVal.v (CVal.int IntKind.i64 b)] [] = some R := fnW (by decide) rfl ((eq_l_FnExactNexts CC LL a0 a1 a2 a3 b).trans h)
noncomputable def nf_i_Reads (C : CallT) (L : LoopT) (a0 : Int) (a1 : Int) (a2 : Int) (a3 : Int) (a4 : Int) (a5 : List CVal) (a6 : Int) : Option Ret :=
 (C f_i_hasPart [AVal.v (CVal.int IntKind.i64 a0), AVal.v (CVal.int IntKind.u8 (88 : Int))] []).bind fun r =>
 r.1.asBool.bind fun b =>
 br b
 ((C f_i_hasPart [AVal.v (CVal.int IntKind.i64 a0), AVal.v (CVal.int IntKind.u8 (89 : Int))] []).bind fun r =>
 r.1.asBool.bind fun b =>
 br b
 (br (decide (a0 = (8 : Int)))
 (br (a5.all (CVal.fitsF false [CK.int IntKind.i64]))
 (br (decide ((2 : Nat) + a5.length ≤ (4294967296 : Nat)) && true && true)
 ((C f_slices_Sort_int [AVal.lref (0 : Nat) (0 : Nat)]
 [PB.arr (Md.mk true true (0 : Nat)) false (1 : Nat)
 (CVal.int IntKind.i64 a2 :: CVal.int IntKind.i64 a3 :: a5)]).bind
 fun r =>
 r.2[(0 : Nat)]?.bind fun y =>
 (C f_slices_Compact_int [AVal.lref (0 : Nat) (0 : Nat)]
 [PB.arr (Md.mk true false (0 : Nat)) false (1 : Nat) y]).bind
 fun r => r.2[(0 : Nat)]?.bind fun y => some (CVal.sl y, []))
 none)
 none)
 ((C f_slices_Sort_int [AVal.lref (0 : Nat) (0 : Nat)]
 [PB.arr (Md.mk true true (0 : Nat)) false (1 : Nat)
 [CVal.int IntKind.i64 a2, CVal.int IntKind.i64 a3]]).bind
 fun r =>
 r.2[(0 : Nat)]?.bind fun y =>
 (C f_slices_Compact_int [AVal.lref (0 : Nat) (0 : Nat)]
 [PB.arr (Md.mk true false (0 : Nat)) false (1 : Nat) y]).bind
 fun r => r.2[(0 : Nat)]?.bind fun y => some (CVal.sl y, [])))
 (br (decide (a0 = (8 : Int)))
 (br (a5.all (CVal.fitsF false [CK.int IntKind.i64]))
 (br (decide ((1 : Nat) + a5.length ≤ (4294967296 : Nat)) && true && true)
 ((C f_slices_Sort_int [AVal.lref (0 : Nat) (0 : Nat)]
 [PB.arr (Md.mk true true (0 : Nat)) false (1 : Nat) (CVal.int IntKind.i64 a2 :: a5)]).bind
 fun r =>
 r.2[(0 : Nat)]?.bind fun y =>
 (C f_slices_Compact_int [AVal.lref (0 : Nat) (0 : Nat)]
 [PB.arr (Md.mk true false (0 : Nat)) false (1 : Nat) y]).bind
 fun r => r.2[(0 : Nat)]?.bind fun y => some (CVal.sl y, []))
 none)
 none)
 ((C f_slices_Sort_int [AVal.lref (0 : Nat) (0 : Nat)]
 [PB.arr (Md.mk true true (0 : Nat)) false (1 : Nat) [CVal.int IntKind.i64 a2]]).bind
 fun r =>
 r.2[(0 : Nat)]?.bind fun y =>
 (C f_slices_Compact_int [AVal.lref (0 : Nat) (0 : Nat)]
 [PB.arr (Md.mk true false (0 : Nat)) false (1 : Nat) y]).bind
 fun r => r.2[(0 : Nat)]?.bind fun y => some (CVal.sl y, []))))
 ((C f_i_hasPart [AVal.v (CVal.int IntKind.i64 a0), AVal.v (CVal.int IntKind.u8 (89 : Int))] []).bind fun r =>
 r.1.asBool.bind fun b =>
 br b
 (br (decide (a0 = (8 : Int)))
 (br (a5.all (CVal.fitsF false [CK.int IntKind.i64]))
 (br (decide ((1 : Nat) + a5.length ≤ (4294967296 : Nat)) && true && true)
 ((C f_slices_Sort_int [AVal.lref (0 : Nat) (0 : Nat)]
 [PB.arr (Md.mk true true (0 : Nat)) false (1 : Nat) (CVal.int IntKind.i64 a3 :: a5)]).bind
 fun r =>
 r.2[(0 : Nat)]?.bind fun y =>
 (C f_slices_Compact_int [AVal.lref (0 : Nat) (0 : Nat)]
 [PB.arr (Md.mk true false (0 : Nat)) false (1 : Nat) y]).bind
 fun r => r.2[(0 : Nat)]?.bind fun y => some (CVal.sl y, []))
 none)
 none)
 ((C f_slices_Sort_int [AVal.lref (0 : Nat) (0 : Nat)]
 [PB.arr (Md.mk true true (0 : Nat)) false (1 : Nat) [CVal.int IntKind.i64 a3]]).bind
 fun r =>
 r.2[(0 : Nat)]?.bind fun y =>
 (C f_slices_Compact_int [AVal.lref (0 : Nat) (0 : Nat)]
 [PB.arr (Md.mk true false (0 : Nat)) false (1 : Nat) y]).bind
 fun r => r.2[(0 : Nat)]?.bind fun y => some (CVal.sl y, [])))
 (br (decide (a0 = (8 : Int)))
 (br (a5.all (CVal.fitsF false [CK.int IntKind.i64]))
 (br (decide (a5.length ≤ (4294967296 : Nat)))
 ((C f_slices_Sort_int [AVal.lref (0 : Nat) (0 : Nat)]
 [PB.arr (Md.mk true true (0 : Nat)) false (1 : Nat) a5]).bind
 fun r =>
 r.2[(0 : Nat)]?.bind fun y =>
 (C f_slices_Compact_int [AVal.lref (0 : Nat) (0 : Nat)]
 [PB.arr (Md.mk true false (0 : Nat)) false (1 : Nat) y]).bind
 fun r => r.2[(0 : Nat)]?.bind fun y => some (CVal.sl y, []))
 none)
 none)
 ((C f_slices_Sort_int [AVal.lref (0 : Nat) (0 : Nat)]
 [PB.arr (Md.mk true true (0 : Nat)) false (1 : Nat) []]).bind
 fun r =>
 r.2[(0 : Nat)]?.bind fun y =>
 (C f_slices_Compact_int [AVal.lref (0 : Nat) (0 : Nat)]
 [PB.arr (Md.mk true false (0 : Nat)) false (1 : Nat) []]).bind
 fun r => r.2[(0 : Nat)]?.bind fun y => some (CVal.sl y, []))))
theorem eq_i_Reads (C : CallT) (L : LoopT) (a0 : Int) (a1 : Int) (a2 : Int) (a3 : Int) (a4 : Int) (a5 : List CVal) (a6 : Int) : evF E N C L f_i_Reads [AVal.v
 (CVal.agg
 [CVal.int IntKind.i64 a0, CVal.int IntKind.i64 a1, CVal.int IntKind.i64 a2, CVal.int IntKind.i64 a3,
 CVal.int IntKind.i64 a4, CVal.sl a5, CVal.int IntKind.i64 a6])] [] = nf_i_Reads C L a0 a1 a2 a3 a4 a5 a6 := by kernel_rfl
theorem go_i_Reads (a0 : Int) (a1 : Int) (a2 : Int) (a3 : Int) (a4 : Int) (a5 : List CVal) (a6 : Int) (R : Ret) (h : nf_i_Reads CC LL a0 a1 a2 a3 a4 a5 a6 = some R) : CC f_i_Reads [AVal.v
 (CVal.agg
 [CVal.int IntKind.i64 a0, CVal.int IntKind.i64 a1, CVal.int IntKind.i64 a2, CVal.int IntKind.i64 a3,
 CVal.int IntKind.i64 a4, CVal.sl a5, CVal.int IntKind.i64 a6])] [] = some R := fnW (by decide) rfl ((eq_i_Reads CC LL a0 a1 a2 a3 a4 a5 a6).trans h)
noncomputable def nf_l_markIntS (C : CallT) (L : LoopT) (a : List CVal) (b : Int) : Option Ret :=
 (L f_l_markIntS (0 : Nat) lc_l_markIntS_0 [PSh.arr (Md.mk true true (0 : Nat)) false (1 : Nat)] k_l_markIntS_0
 ((PUnit.unit, b, (0 : Int), PUnit.unit), a, PUnit.unit)).bind
 fun r =>
 loK r (fun r => some r) fun j p => br (j == (0 : Nat)) (some (CVal.int IntKind.i64 p.fst.snd.1, [p.snd.1])) none
theorem eq_l_markIntS (C : CallT) (L : LoopT) (a : List CVal) (b : Int) : evF E N C L f_l_markIntS [AVal.lref (0 : Nat) (0 : Nat), AVal.v (CVal.int IntKind.i64 b)] [PB.arr (Md.mk true true (0 : Nat)) false (1 : Nat) a] = nf_l_markIntS C L a b := by kernel_rfl
theorem go_l_markIntS (a : List CVal) (b : Int) (R : Ret) (h : nf_l_markIntS CC LL a b = some R) : CC f_l_markIntS [AVal.lref (0 : Nat) (0 : Nat), AVal.v (CVal.int IntKind.i64 b)] [PB.arr (Md.mk true true (0 : Nat)) false (1 : Nat) a] = some R := fnW (by decide) rfl ((eq_l_markIntS CC LL a b).trans h)
noncomputable def nf_s_Nexts (C : CallT) (L : LoopT) (a0 : Int) (a1 : Int) (a2 : Int) (a3 : List CVal) (b : Int) : Option Ret :=
 (C f_s_l1In
 [AVal.v (CVal.int IntKind.i64 b), AVal.v (CVal.int IntKind.i64 (0 : Int)),
 AVal.v (CVal.int IntKind.i64 (IntKind.i64.wrap ((↑a3.length : Int) - (1 : Int))))]
 []).bind
 fun r =>
 r.1.asBool.bind fun b_1 =>
 br (!b_1) (some (CVal.sl [], []))
 ((C f_s_l10Normal
 [AVal.v (CVal.agg [CVal.int IntKind.i64 a0, CVal.int IntKind.i64 a1, CVal.int IntKind.i64 a2, CVal.sl a3]),
 AVal.v (CVal.int IntKind.i64 b)]
 []).bind
 fun r =>
 (C f_s_Guard
 [AVal.v
 (CVal.agg [CVal.int IntKind.i64 a0, CVal.int IntKind.i64 a1, CVal.int IntKind.i64 a2, CVal.sl a3]),
 AVal.v (CVal.int IntKind.i64 b)]
 []).bind
 fun r_1 =>
 ((CVal.asInt IntKind.i64 r_1.1).bind fun n =>
 br (decide ((0 : Int) ≤ n))
 (br (decide ((0 : Int) ≤ b) && true)
 (a3[b.toNat]?.bind fun y =>
 br (CVal.fits true (7 : Nat) y)
 ((y.cell (0 : Nat)).bind fun c =>
 (C f_s_l10May [AVal.v c] []).bind fun r =>
 (bif true then r.1 else CVal.bool false).asBool.bind fun b => some (b, PUnit.unit))
 none)
 none)
 (some (false, PUnit.unit))).bind
 fun y =>
 br y.1 ((C f_s_l10Add [AVal.v r.1, AVal.v r_1.1] []).bind fun r => some (r.1, [])) (some (r.1, [])))
theorem eq_s_Nexts (C : CallT) (L : LoopT) (a0 : Int) (a1 : Int) (a2 : Int) (a3 : List CVal) (b : Int) : evF E N C L f_s_Nexts [AVal.v (CVal.agg [CVal.int IntKind.i64 a0, CVal.int IntKind.i64 a1, CVal.int IntKind.i64 a2, CVal.sl a3]),
 AVal.v (CVal.int IntKind.i64 b)] [] = nf_s_Nexts C L a0 a1 a2 a3 b := by kernel_rfl
theorem go_s_Nexts (a0 : Int) (a1 : Int) (a2 : Int) (a3 : List CVal) (b : Int) (R : Ret) (h : nf_s_Nexts CC LL a0 a1 a2 a3 b = some R) : CC f_s_Nexts [AVal.v (CVal.agg [CVal.int IntKind.i64 a0, CVal.int IntKind.i64 a1, CVal.int IntKind.i64 a2, CVal.sl a3]),
 AVal.v (CVal.int IntKind.i64 b)] [] = some R := fnW (by decide) rfl ((eq_s_Nexts CC LL a0 a1 a2 a3 b).trans h)
noncomputable def nf_l_szIntS (C : CallT) (L : LoopT) (a : List CVal) (b : Int) : Option Ret :=
 br (decide (IntKind.i64.wrap (b - (↑a.length : Int)) < (0 : Int))) (some (CVal.int IntKind.i64 (-1 : Int), []))
 (some (CVal.int IntKind.i64 (IntKind.i64.wrap (b - (↑a.length : Int))), []))
theorem eq_l_szIntS (C : CallT) (L : LoopT) (a : List CVal) (b : Int) : evF E N C L f_l_szIntS [AVal.v (CVal.sl a), AVal.v (CVal.int IntKind.i64 b)] [] = nf_l_szIntS C L a b := by kernel_rfl
theorem go_l_szIntS (a : List CVal) (b : Int) (R : Ret) (h : nf_l_szIntS CC LL a b = some R) : CC f_l_szIntS [AVal.v (CVal.sl a), AVal.v (CVal.int IntKind.i64 b)] [] = some R := fnW (by decide) rfl ((eq_l_szIntS CC LL a b).trans h)
noncomputable def nf_i_hasPart (C : CallT) (L : LoopT) (a : Int) (b : Int) : Option Ret :=
 (C f_i_insForm [AVal.v (CVal.int IntKind.i64 a)] []).bind fun r =>
 r.1.asTup.bind fun y =>
 y[(0 : Nat)]?.bind fun y =>
 r.1.asTup.bind fun y_1 =>
 y_1[(1 : Nat)]?.bind fun y_2 =>
 y.asStr.bind fun s =>
 br (decide (s.length ≤ (4294967296 : Nat)))
 ((C f_slices_Contains_byte [AVal.v (CVal.sl (bytesC s)), AVal.v (CVal.int IntKind.u8 b)] []).bind fun r =>
 some (r.1, []))
 none
theorem eq_i_hasPart (C : CallT) (L : LoopT) (a : Int) (b : Int) : evF E N C L f_i_hasPart [AVal.v (CVal.int IntKind.i64 a), AVal.v (CVal.int IntKind.u8 b)] [] = nf_i_hasPart C L a b := by kernel_rfl
theorem go_i_hasPart (a : Int) (b : Int) (R : Ret) (h : nf_i_hasPart CC LL a b = some R) : CC f_i_hasPart [AVal.v (CVal.int IntKind.i64 a), AVal.v (CVal.int IntKind.u8 b)] [] = some R := fnW (by decide) rfl ((eq_i_hasPart CC LL a b).trans h)
noncomputable def nf_s_l10Normal (C : CallT) (L : LoopT) (a0 : Int) (a1 : Int) (a2 : Int) (a3 : List CVal) (b : Int) : Option Ret :=
 br (decide ((0 : Int) ≤ b) && true)
 (a3[b.toNat]?.bind fun y =>
 br (CVal.fits true (7 : Nat) y)
 ((y.sub (0 : Nat) (7 : Nat)).bind fun y =>
 br (CVal.isAggN (7 : Nat) y)
 ((y.cell (0 : Nat)).bind fun c =>
 (y.cell (1 : Nat)).bind fun c_1 =>
 (y.cell (2 : Nat)).bind fun c_2 =>
 (y.cell (3 : Nat)).bind fun c_3 =>
 (y.cell (4 : Nat)).bind fun c_4 =>
 (y.cell (5 : Nat)).bind fun c_5 =>
 (y.cell (6 : Nat)).bind fun c_6 =>
 (CVal.asInt IntKind.i64 c).bind fun n =>
 br (decide (n = (15 : Int))) (some (CVal.sl [], []))
 ((CVal.asInt IntKind.i64 c).bind fun n =>
 br (decide (n = (16 : Int))) (some (CVal.sl [], []))
 ((CVal.asInt IntKind.i64 c).bind fun n =>
 br (decide (n = (13 : Int)))
 (br (c_6.isFlat && true)
 ((CVal.asInt IntKind.i64 c_6).bind fun n =>
 some (CVal.sl [CVal.int IntKind.i64 n], []))
 none)
 ((CVal.asInt IntKind.i64 c).bind fun n =>
 br (decide (n = (11 : Int)))
 ((CVal.asInt IntKind.i64 c_6).bind fun n =>
 br (decide (n < IntKind.i64.wrap (b + (1 : Int))))
 (br (c_6.isFlat && true)
 ((CVal.asInt IntKind.i64 c_6).bind fun n =>
 some
 (CVal.sl
 [CVal.int IntKind.i64 n,
 CVal.int IntKind.i64 (IntKind.i64.wrap (b + (1 : Int)))],
 []))
 none)
 ((CVal.asInt IntKind.i64 c_6).bind fun n =>
 br (decide (IntKind.i64.wrap (b + (1 : Int)) < n))
 (br (c_6.isFlat && true)
 ((CVal.asInt IntKind.i64 c_6).bind fun n =>
 some
 (CVal.sl
 [CVal.int IntKind.i64 (IntKind.i64.wrap (b + (1 : Int))),
 CVal.int IntKind.i64 n],
 []))
 none)
 (some
 (CVal.sl [CVal.int IntKind.i64 (IntKind.i64.wrap (b + (1 : Int)))],
 []))))
 ((CVal.asInt IntKind.i64 c).bind fun n =>
 br (decide (n = (12 : Int)))
 ((CVal.asInt IntKind.i64 c_6).bind fun n =>
 br (decide (n < IntKind.i64.wrap (b + (1 : Int))))
 (br (c_6.isFlat && true)
 ((CVal.asInt IntKind.i64 c_6).bind fun n =>
 some
 (CVal.sl
 [CVal.int IntKind.i64 n,
 CVal.int IntKind.i64 (IntKind.i64.wrap (b + (1 : Int)))],
 []))
 none)
 ((CVal.asInt IntKind.i64 c_6).bind fun n =>
 br (decide (IntKind.i64.wrap (b + (1 : Int)) < n))
 (br (c_6.isFlat && true)
 ((CVal.asInt IntKind.i64 c_6).bind fun n =>
 some
 (CVal.sl
 [CVal.int IntKind.i64 (IntKind.i64.wrap (b + (1 : Int))),
 CVal.int IntKind.i64 n],
 []))
 none)
 (some
 (CVal.sl
 [CVal.int IntKind.i64 (IntKind.i64.wrap (b + (1 : Int)))],
 []))))
 (some
 (CVal.sl [CVal.int IntKind.i64 (IntKind.i64.wrap (b + (1 : Int)))],
 [])))))))
 none)
 none)
 none
theorem eq_s_l10Normal (C : CallT) (L : LoopT) (a0 : Int) (a1 : Int) (a2 : Int) (a3 : List CVal) (b : Int) : evF E N C L f_s_l10Normal [AVal.v (CVal.agg [CVal.int IntKind.i64 a0, CVal.int IntKind.i64 a1, CVal.int IntKind.i64 a2, CVal.sl a3]),
 AVal.v (CVal.int IntKind.i64 b)] [] = nf_s_l10Normal C L a0 a1 a2 a3 b := by kernel_rfl
theorem go_s_l10Normal (a0 : Int) (a1 : Int) (a2 : Int) (a3 : List CVal) (b : Int) (R : Ret) (h : nf_s_l10Normal CC LL a0 a1 a2 a3 b = some R) : CC f_s_l10Normal [AVal.v (CVal.agg [CVal.int IntKind.i64 a0, CVal.int IntKind.i64 a1, CVal.int IntKind.i64 a2, CVal.sl a3]),
 AVal.v (CVal.int IntKind.i64 b)] [] = some R := fnW (by decide) rfl ((eq_s_l10Normal CC LL a0 a1 a2 a3 b).trans h)
noncomputable def nf_i_ways (C : CallT) (L : LoopT) (a0 : Int) (a1 : Int) (a2 : Int) (a3 : List CVal) (b : Int) : Option Ret :=
 br (decide ((0 : Int) ≤ b) && true)
 (a3[b.toNat]?.bind fun y =>
 br (CVal.fits true (7 : Nat) y)
 ((y.sub (0 : Nat) (7 : Nat)).bind fun y =>
 br (CVal.isAggN (7 : Nat) y)
 ((y.cell (0 : Nat)).bind fun c =>
 (y.cell (1 : Nat)).bind fun c_1 =>
 (y.cell (2 : Nat)).bind fun c_2 =>
 (y.cell (3 : Nat)).bind fun c_3 =>
 (y.cell (4 : Nat)).bind fun c_4 =>
 (y.cell (5 : Nat)).bind fun c_5 =>
 (y.cell (6 : Nat)).bind fun c_6 =>
 ((CVal.asInt IntKind.i64 c).bind fun n =>
 br (decide (n = (13 : Int))) (some (true, PUnit.unit))
 ((CVal.asInt IntKind.i64 c).bind fun n =>
 br (decide (n = (11 : Int))) (some (true, PUnit.unit))
 ((CVal.asInt IntKind.i64 c).bind fun n =>
 some (decide (n = (12 : Int)), PUnit.unit)))).bind
 fun y =>
 br y.1
 (br (c_6.isFlat && true)
 ((CVal.asInt IntKind.i64 c_6).bind fun n =>
 ((CVal.asInt IntKind.i64 c).bind fun n =>
 br (!decide (n = (13 : Int)))
 ((CVal.asInt IntKind.i64 c).bind fun n =>
 br (!decide (n = (15 : Int)))
 ((CVal.asInt IntKind.i64 c).bind fun n =>
 some (!decide (n = (16 : Int)), PUnit.unit))
 (some (false, PUnit.unit)))
 (some (false, PUnit.unit))).bind
 fun y =>
 br y.1
 (some
 (CVal.sl
 [CVal.int IntKind.i64 n,
 CVal.int IntKind.i64 (IntKind.i64.wrap (b + (1 : Int)))],
 []))
 (some (CVal.sl [CVal.int IntKind.i64 n], [])))
 none)
 (((CVal.asInt IntKind.i64 c).bind fun n =>
 br (!decide (n = (13 : Int)))
 ((CVal.asInt IntKind.i64 c).bind fun n =>
 br (!decide (n = (15 : Int)))
 ((CVal.asInt IntKind.i64 c).bind fun n =>
 some (!decide (n = (16 : Int)), PUnit.unit))
 (some (false, PUnit.unit)))
 (some (false, PUnit.unit))).bind
 fun y =>
 br y.1 (some (CVal.sl [CVal.int IntKind.i64 (IntKind.i64.wrap (b + (1 : Int)))], []))
 (some (CVal.sl [], []))))
 none)
 none)
 none
theorem eq_i_ways (C : CallT) (L : LoopT) (a0 : Int) (a1 : Int) (a2 : Int) (a3 : List CVal) (b : Int) : evF E N C L f_i_ways [AVal.v (CVal.agg [CVal.int IntKind.i64 a0, CVal.int IntKind.i64 a1, CVal.int IntKind.i64 a2, CVal.sl a3]),
 AVal.v (CVal.int IntKind.i64 b)] [] = nf_i_ways C L a0 a1 a2 a3 b := by kernel_rfl
theorem go_i_ways (a0 : Int) (a1 : Int) (a2 : Int) (a3 : List CVal) (b : Int) (R : Ret) (h : nf_i_ways CC LL a0 a1 a2 a3 b = some R) : CC f_i_ways [AVal.v (CVal.agg [CVal.int IntKind.i64 a0, CVal.int IntKind.i64 a1, CVal.int IntKind.i64 a2, CVal.sl a3]),
 AVal.v (CVal.int IntKind.i64 b)] [] = some R := fnW (by decide) rfl ((eq_i_ways CC LL a0 a1 a2 a3 b).trans h)
noncomputable def nf_l_markInsS (C : CallT) (L : LoopT) (a : List CVal) (b : Int) : Option Ret :=
 (L f_l_markInsS (0 : Nat) lc_l_markInsS_0 [PSh.arr (Md.mk true true (0 : Nat)) false (7 : Nat)] k_l_markInsS_0
 ((PUnit.unit, b, (0 : Int), PUnit.unit), a, PUnit.unit)).bind
 fun r =>
 loK r (fun r => some r) fun j p => br (j == (0 : Nat)) (some (CVal.int IntKind.i64 p.fst.snd.1, [p.snd.1])) none
theorem eq_l_markInsS (C : CallT) (L : LoopT) (a : List CVal) (b : Int) : evF E N C L f_l_markInsS [AVal.lref (0 : Nat) (0 : Nat), AVal.v (CVal.int IntKind.i64 b)] [PB.arr (Md.mk true true (0 : Nat)) false (7 : Nat) a] = nf_l_markInsS C L a b := by kernel_rfl
theorem go_l_markInsS (a : List CVal) (b : Int) (R : Ret) (h : nf_l_markInsS CC LL a b = some R) : CC f_l_markInsS [AVal.lref (0 : Nat) (0 : Nat), AVal.v (CVal.int IntKind.i64 b)] [PB.arr (Md.mk true true (0 : Nat)) false (7 : Nat) a] = some R := fnW (by decide) rfl ((eq_l_markInsS CC LL a b).trans h)
noncomputable def nf_slices_Index_byte (C : CallT) (L : LoopT) (a : List CVal) (b : Int) : Option Ret :=
 (L f_slices_Index_byte (0 : Nat) lc_slices_Index_byte_0 [] k_slices_Index_byte_0
 ((a, b, (↑a.length : Int), (0 : Int), PUnit.unit), PUnit.unit)).bind
 fun r => loK r (fun r => some r) fun j p => br (j == (0 : Nat)) (some (CVal.int IntKind.i64 (-1 : Int), [])) none
theorem eq_slices_Index_byte (C : CallT) (L : LoopT) (a : List CVal) (b : Int) : evF E N C L f_slices_Index_byte [AVal.v (CVal.sl a), AVal.v (CVal.int IntKind.u8 b)] [] = nf_slices_Index_byte C L a b := by kernel_rfl
theorem go_slices_Index_byte (a : List CVal) (b : Int) (R : Ret) (h : nf_slices_Index_byte CC LL a b = some R) : CC f_slices_Index_byte [AVal.v (CVal.sl a), AVal.v (CVal.int IntKind.u8 b)] [] = some R := fnW (by decide) rfl ((eq_slices_Index_byte CC LL a b).trans h)
noncomputable def nl_l_heldIntS_0 (C : CallT) (L : LoopT) (x00 : List CVal) (x01 : Int) (x02 : Int) : Option (LO k_l_heldIntS_0.T) :=
 br (decide (x02 < (↑x00.length : Int)))
 (br (decide ((0 : Int) ≤ x02) && true)
 (x00[x02.toNat]?.bind fun y =>
 br (CVal.fits false (1 : Nat) y)
 ((y.cell (0 : Nat)).bind fun c =>
 (CVal.asInt IntKind.i64 c).bind fun n =>
 br (!decide (n = x01)) (some (LO.ret (CVal.int IntKind.i64 (-1 : Int), [])))
 (L f_l_heldIntS (0 : Nat) lc_l_heldIntS_0 [] k_l_heldIntS_0
 ((x00, IntKind.i64.wrap (x01 + (1 : Int)), IntKind.i64.wrap (x02 + (1 : Int)), PUnit.unit),
 PUnit.unit)))
 none)
 none)
 (some (LO.out (0 : Nat) ((x00, x01, x02, PUnit.unit), PUnit.unit)))
theorem el_l_heldIntS_0 (C : CallT) (L : LoopT) (x00 : List CVal) (x01 : Int) (x02 : Int) : evL E N C L f_l_heldIntS 0 lc_l_heldIntS_0 [] k_l_heldIntS_0 ((x00, x01, x02, ()), ()) = nl_l_heldIntS_0 C L x00 x01 x02 := by kernel_rfl
theorem gl_l_heldIntS_0 (x00 : List CVal) (x01 : Int) (x02 : Int) (R : LO k_l_heldIntS_0.T) (h : nl_l_heldIntS_0 CC LL x00 x01 x02 = some R) : LL f_l_heldIntS 0 lc_l_heldIntS_0 [] k_l_heldIntS_0 ((x00, x01, x02, ()), ()) = some R := loopW ((el_l_heldIntS_0 CC LL x00 x01 x02).trans h)
noncomputable def nl_l_toInsS_0 (C : CallT) (L : LoopT) (x00 : List CVal) (x02 : Int) (x1 : List CVal) : Option (LO k_l_toInsS_0.T) :=
 br (decide (x02 < (↑x00.length : Int)))
 (br (decide ((0 : Int) ≤ x02) && true)
 (x00[x02.toNat]?.bind fun y =>
 br (CVal.fits true (7 : Nat) y)
 ((y.sub (0 : Nat) (7 : Nat)).bind fun y =>
 (C f_l_toIns [AVal.v y] []).bind fun r =>
 br (CVal.isAggN (7 : Nat) r.1)
 ((r.1.cell (0 : Nat)).bind fun c =>
 (r.1.cell (1 : Nat)).bind fun c_1 =>
 (r.1.cell (2 : Nat)).bind fun c_2 =>
 (r.1.cell (3 : Nat)).bind fun c_3 =>
 (r.1.cell (4 : Nat)).bind fun c_4 =>
 (r.1.cell (5 : Nat)).bind fun c_5 =>
 (r.1.cell (6 : Nat)).bind fun c_6 =>
 c_5.asSl.bind fun xs =>
 br (decide ((0 : Int) ≤ x02) && true)
 (br (decide (x02.toNat < x1.length) && true)
 ((CVal.asInt IntKind.i64 c).bind fun n =>
 (CVal.asInt IntKind.i64 c_1).bind fun n_1 =>
 (CVal.asInt IntKind.i64 c_2).bind fun n_2 =>
 (CVal.asInt IntKind.i64 c_3).bind fun n_3 =>
 (CVal.asInt IntKind.i64 c_4).bind fun n_4 =>
 (CVal.asInt IntKind.i64 c_6).bind fun n_5 =>
 x1[x02.toNat]?.bind fun y =>
 br (CVal.fits true (7 : Nat) y)
 (L f_l_toInsS (0 : Nat) lc_l_toInsS_0 [] k_l_toInsS_0
 ((x00, PUnit.unit, IntKind.i64.wrap (x02 + (1 : Int)), PUnit.unit),
 x1.set x02.toNat
 (CVal.agg
 [CVal.int IntKind.i64 n, CVal.int IntKind.i64 n_1,
 CVal.int IntKind.i64 n_2, CVal.int IntKind.i64 n_3,
 CVal.int IntKind.i64 n_4, CVal.sl xs,
 CVal.int IntKind.i64 n_5]),
 PUnit.unit))
 (br (y.isAgg && decide ((7 : Nat) ≤ y.cells.length))
 (L f_l_toInsS (0 : Nat) lc_l_toInsS_0 [] k_l_toInsS_0
 ((x00, PUnit.unit, IntKind.i64.wrap (x02 + (1 : Int)),
 PUnit.unit),
 x1.set x02.toNat
 (CVal.agg
 (CVal.int IntKind.i64 n ::
 CVal.int IntKind.i64 n_1 ::
 CVal.int IntKind.i64 n_2 ::
 CVal.int IntKind.i64 n_3 ::
 CVal.int IntKind.i64 n_4 ::
 CVal.sl xs ::
 CVal.int IntKind.i64 n_5 ::
 List.drop (7 : Nat) y.cells)),
 PUnit.unit))
 none))
 none)
 none)
 none)
 none)
 none)
 (some (LO.out (0 : Nat) ((x00, PUnit.unit, x02, PUnit.unit), x1, PUnit.unit)))
theorem el_l_toInsS_0 (C : CallT) (L : LoopT) (x00 : List CVal) (x02 : Int) (x1 : List CVal) : evL E N C L f_l_toInsS 0 lc_l_toInsS_0 [] k_l_toInsS_0 ((x00, (), x02, ()), x1, ()) = nl_l_toInsS_0 C L x00 x02 x1 := by kernel_rfl
theorem gl_l_toInsS_0 (x00 : List CVal) (x02 : Int) (x1 : List CVal) (R : LO k_l_toInsS_0.T) (h : nl_l_toInsS_0 CC LL x00 x02 x1 = some R) : LL f_l_toInsS 0 lc_l_toInsS_0 [] k_l_toInsS_0 ((x00, (), x02, ()), x1, ()) = some R := loopW ((el_l_toInsS_0 CC LL x00 x02 x1).trans h)
noncomputable def nl_s_l10Guard_0 (C : CallT) (L : LoopT) (x00 : Int) (x03 : Int) (x10 : Int) (x11 : Int) (x12 : Int) (x13 : List CVal) (x2 : List CVal) : Option (LO k_s_l10Guard_0.T) :=
 (br (decide (x03 < x00)) (some (decide (x03 < (↑x13.length : Int)), PUnit.unit)) (some (false, PUnit.unit))).bind
 fun y =>
 br y.1
 (br (decide ((0 : Int) ≤ x03) && true)
 (x13[x03.toNat]?.bind fun y =>
 br (CVal.fits true (7 : Nat) y)
 ((y.cell (0 : Nat)).bind fun c =>
 (CVal.asInt IntKind.i64 c).bind fun n =>
 br (decide (n = (17 : Int)))
 (br (decide (x2.length + (1 : Nat) ≤ (4294967296 : Nat)) && true && true)
 (L f_s_l10Guard (0 : Nat) lc_s_l10Guard_0 [] k_s_l10Guard_0
 ((x00, PUnit.unit, PUnit.unit, IntKind.i64.wrap (x03 + (1 : Int)), PUnit.unit),
 (x10, x11, x12, x13, PUnit.unit), x2 ++ [CVal.int IntKind.i64 x03], PUnit.unit))
 none)
 ((CVal.asInt IntKind.i64 c).bind fun n =>
 br (decide (n = (18 : Int)))
 (br (decide ((0 : Int) < (↑x2.length : Int)))
 (br
 (decide ((0 : Int) ≤ IntKind.i64.wrap ((↑x2.length : Int) - (1 : Int))) &&
 decide (IntKind.i64.wrap ((↑x2.length : Int) - (1 : Int)) ≤ (↑x2.length : Int)) &&
 true)
 (L f_s_l10Guard (0 : Nat) lc_s_l10Guard_0 [] k_s_l10Guard_0
 ((x00, PUnit.unit, PUnit.unit, IntKind.i64.wrap (x03 + (1 : Int)), PUnit.unit),
 (x10, x11, x12, x13, PUnit.unit),
 List.take (IntKind.i64.wrap ((↑x2.length : Int) - (1 : Int))).toNat x2, PUnit.unit))
 none)
 (L f_s_l10Guard (0 : Nat) lc_s_l10Guard_0 [] k_s_l10Guard_0
 ((x00, PUnit.unit, PUnit.unit, IntKind.i64.wrap (x03 + (1 : Int)), PUnit.unit),
 (x10, x11, x12, x13, PUnit.unit), x2, PUnit.unit)))
 (L f_s_l10Guard (0 : Nat) lc_s_l10Guard_0 [] k_s_l10Guard_0
 ((x00, PUnit.unit, PUnit.unit, IntKind.i64.wrap (x03 + (1 : Int)), PUnit.unit),
 (x10, x11, x12, x13, PUnit.unit), x2, PUnit.unit))))
 none)
 none)
 (some
 (LO.out (0 : Nat)
 ((x00, PUnit.unit, PUnit.unit, x03, PUnit.unit), (x10, x11, x12, x13, PUnit.unit), x2, PUnit.unit)))
theorem el_s_l10Guard_0 (C : CallT) (L : LoopT) (x00 : Int) (x03 : Int) (x10 : Int) (x11 : Int) (x12 : Int) (x13 : List CVal) (x2 : List CVal) : evL E N C L f_s_l10Guard 0 lc_s_l10Guard_0 [] k_s_l10Guard_0 ((x00, (), (), x03, ()), (x10, x11, x12, x13, ()), x2, ()) = nl_s_l10Guard_0 C L x00 x03 x10 x11 x12 x13 x2 := by kernel_rfl
theorem gl_s_l10Guard_0 (x00 : Int) (x03 : Int) (x10 : Int) (x11 : Int) (x12 : Int) (x13 : List CVal) (x2 : List CVal) (R : LO k_s_l10Guard_0.T) (h : nl_s_l10Guard_0 CC LL x00 x03 x10 x11 x12 x13 x2 = some R) : LL f_s_l10Guard 0 lc_s_l10Guard_0 [] k_s_l10Guard_0 ((x00, (), (), x03, ()), (x10, x11, x12, x13, ()), x2, ()) = some R := loopW ((el_s_l10Guard_0 CC LL x00 x03 x10 x11 x12 x13 x2).trans h)
end Go.Proofs.Ytjndiaahgjhaeaa.Abs
