/- What the functions come to in the abstract machine. -/
import Derived.Test.YtmjjaoffeajcbaaL1Ann
import Derived.KernelRfl
set_option linter.unusedVariables false
set_option maxRecDepth 100000
namespace Go.Proofs.Ytmjjaoffeajcbaa.Abs
open Go Go.Proofs
noncomputable def nf_l_FnExactLive (C : CallT) (L : LoopT) (a0 : Int) (a1 : Int) (a2 : Int) (a3 : List CVal) : Option Ret :=
 (C f_l_szPiece
 [AVal.v (CVal.agg [CVal.int IntKind.i64 a0, CVal.int IntKind.i64 a1, CVal.int IntKind.i64 a2, CVal.sl a3]),
 AVal.v (CVal.int IntKind.i64 (1048576 : Int))]
 []).bind
 fun r =>
 (CVal.asInt IntKind.i64 r.1).bind fun n =>
 br (decide (n < (0 : Int))) (some (CVal.bool true, []))
 ((C f_l_toPiece
 [AVal.v (CVal.agg [CVal.int IntKind.i64 a0, CVal.int IntKind.i64 a1, CVal.int IntKind.i64 a2, CVal.sl a3])]
 []).bind
 fun r =>
 (C f_s_Live [AVal.v r.1] []).bind fun r =>
 (C f_l_toPiece
 [AVal.v
 (CVal.agg [CVal.int IntKind.i64 a0, CVal.int IntKind.i64 a1, CVal.int IntKind.i64 a2, CVal.sl a3])]
 []).bind
 fun r_1 =>
 br (CVal.isAggN (4 : Nat) r_1.1)
 ((r_1.1.cell (0 : Nat)).bind fun c =>
 (r_1.1.cell (1 : Nat)).bind fun c_1 =>
 (r_1.1.cell (2 : Nat)).bind fun c_2 =>
 (r_1.1.cell (3 : Nat)).bind fun c_3 =>
 c_3.asSl.bind fun xs =>
 (C f_i_Live [AVal.v (CVal.agg [c, c_1, c_2, CVal.sl xs])] []).bind fun r_2 =>
 br (!r_2.1.plain) none
 (br r_2.1.isFlat
 (r_2.1.asSl.bind fun xs_1 =>
 (C f_l_eqIntSS [AVal.v (CVal.sl xs_1), AVal.v r.1] []).bind fun r_3 =>
 br (!scalar r_3.1) none
 (r_3.1.asBool.bind fun b =>
 br (!b) (some (CVal.bool false, []))
 ((C f_l_toPiece
 [AVal.v
 (CVal.agg
 [CVal.int IntKind.i64 a0, CVal.int IntKind.i64 a1,
 CVal.int IntKind.i64 a2, CVal.sl a3])]
 []).bind
 fun r_4 =>
 (C f_l_eqPiece [AVal.v (CVal.agg [c, c_1, c_2, CVal.sl xs]), AVal.v r_4.1]
 []).bind
 fun r_5 =>
 br (!scalar r_5.1) none
 (r_5.1.asBool.bind fun b =>
 br (!b) (some (CVal.bool false, []))
 ((C f_l_markPiece
 [AVal.agg
 [AVal.v c, AVal.v c_1, AVal.v c_2,
 AVal.lref (0 : Nat) (0 : Nat)],
 AVal.v (CVal.int IntKind.i64 (1 : Int))]
 [PB.arr (Md.mk true true (0 : Nat)) false (7 : Nat) xs]).bind
 fun r_6 =>
 r_6.2[(0 : Nat)]?.bind fun y =>
 ((CVal.asInt IntKind.i64 r_6.1).bind fun n =>
 br (decide (n < (0 : Int))) (some (true, PUnit.unit))
 ((C f_l_eqIntSS [AVal.v (CVal.sl xs_1), AVal.v r.1]
 []).bind
 fun r =>
 br (!scalar r.1) none
 (r.1.asBool.bind fun b =>
 some (!b, PUnit.unit)))).bind
 fun y =>
 br y.1 (some (CVal.bool false, []))
 ((C f_l_markIntSS
 [AVal.lref (0 : Nat) (0 : Nat),
 AVal.v (CVal.int IntKind.i64 (1 : Int))]
 [PB.arr (Md.mk true true (0 : Nat)) false (1 : Nat)
 xs_1]).bind
 fun r_7 =>
 r_7.2[(0 : Nat)]?.bind fun y =>
 (C f_l_heldIntSS
 [AVal.v (CVal.sl y),
 AVal.v (CVal.int IntKind.i64 (1 : Int))]
 []).bind
 fun r_8 =>
 br (!scalar r_8.1) none
 ((CVal.asInt IntKind.i64 r_8.1).bind fun n =>
 br (decide (n < (0 : Int)))
 (some (CVal.bool false, []))
 ((CVal.asInt IntKind.i64 r_8.1).bind fun n =>
 (CVal.asInt IntKind.i64 r_7.1).bind fun n_1 =>
 br (!decide (n = n_1))
 (some (CVal.bool false, []))
 ((C f_l_toPiece
 [AVal.v
 (CVal.agg
 [CVal.int IntKind.i64 a0,
 CVal.int IntKind.i64 a1,
 CVal.int IntKind.i64 a2,
 CVal.sl a3])]
 []).bind
 fun r_9 =>
 (C f_i_Live [AVal.v r_9.1] []).bind
 fun r_10 =>
 br r_10.1.isFlat
 (r_10.1.asSl.bind fun xs =>
 (C f_l_eqIntSS
 [AVal.v (CVal.sl xs),
 AVal.v r.1]
 []).bind
 fun r =>
 br (!scalar r.1) none
 (r.1.asBool.bind fun b =>
 br (!b)
 (some (CVal.bool false, []))
 ((C f_l_heldIntSS
 [AVal.v (CVal.sl y),
 AVal.v
 (CVal.int
 IntKind.i64
 (1 : Int))]
 []).bind
 fun r =>
 br (!scalar r.1) none
 ((CVal.asInt IntKind.i64
 r.1).bind
 fun n =>
 br
 (decide
 (n < (0 : Int)))
 (some
 (CVal.bool false,
 []))
 ((CVal.asInt
 IntKind.i64
 r.1).bind
 fun n =>
 (CVal.asInt
 IntKind.i64
 r_7.1).bind
 fun n_2 =>
 br
 (!decide
 (n = n_2))
 (some
 (CVal.bool
 false,
 []))
 (some
 (CVal.bool
 true,
 [])))))))
 none)))))))))
 none))
 none)
theorem eq_l_FnExactLive (C : CallT) (L : LoopT) (a0 : Int) (a1 : Int) (a2 : Int) (a3 : List CVal) : evF E N C L f_l_FnExactLive [AVal.v (CVal.agg [CVal.int IntKind.i64 a0, CVal.int IntKind.i64 a1, CVal.int IntKind.i64 a2, CVal.sl a3])] [] = nf_l_FnExactLive C L a0 a1 a2 a3 := by kernel_rfl
theorem go_l_FnExactLive (a0 : Int) (a1 : Int) (a2 : Int) (a3 : List CVal) (R : Ret) (h : nf_l_FnExactLive CC LL a0 a1 a2 a3 = some R) : CC f_l_FnExactLive [AVal.v (CVal.agg [CVal.int IntKind.i64 a0, CVal.int IntKind.i64 a1, CVal.int IntKind.i64 a2, CVal.sl a3])] [] = some R := fnW (by decide) rfl ((eq_l_FnExactLive CC LL a0 a1 a2 a3).trans h)
noncomputable def nf_l_toIntSS (C : CallT) (L : LoopT) (a : List CVal) : Option Ret :=
 br (decide ((↑a.length : Int) = (↑a.length : Int)) && decide ((↑a.length : Int) ≤ (1048576 : Int)))
 ((L f_l_toIntSS (0 : Nat) lc_l_toIntSS_0 [] k_l_toIntSS_0
 ((a, PUnit.unit, (0 : Int), PUnit.unit), List.replicate (↑a.length : Int).toNat (CVal.sl []), PUnit.unit)).bind
 fun r => loK r (fun r => some r) fun j p => br (j == (0 : Nat)) (some (CVal.sl p.snd.1, [])) none)
 none
theorem eq_l_toIntSS (C : CallT) (L : LoopT) (a : List CVal) : evF E N C L f_l_toIntSS [AVal.v (CVal.sl a)] [] = nf_l_toIntSS C L a := by kernel_rfl
theorem go_l_toIntSS (a : List CVal) (R : Ret) (h : nf_l_toIntSS CC LL a = some R) : CC f_l_toIntSS [AVal.v (CVal.sl a)] [] = some R := fnW (by decide) rfl ((eq_l_toIntSS CC LL a).trans h)
noncomputable def nf_l_eqIntSS (C : CallT) (L : LoopT) (a : List CVal) (b : List CVal) : Option Ret :=
 br (!decide ((↑a.length : Int) = (↑b.length : Int))) (some (CVal.bool false, []))
 ((L f_l_eqIntSS (0 : Nat) lc_l_eqIntSS_0 [] k_l_eqIntSS_0 ((a, b, (0 : Int), PUnit.unit), PUnit.unit)).bind fun r =>
 loK r (fun r => some r) fun j p => br (j == (0 : Nat)) (some (CVal.bool true, [])) none)
theorem eq_l_eqIntSS (C : CallT) (L : LoopT) (a : List CVal) (b : List CVal) : evF E N C L f_l_eqIntSS [AVal.v (CVal.sl a), AVal.v (CVal.sl b)] [] = nf_l_eqIntSS C L a b := by kernel_rfl
theorem go_l_eqIntSS (a : List CVal) (b : List CVal) (R : Ret) (h : nf_l_eqIntSS CC LL a b = some R) : CC f_l_eqIntSS [AVal.v (CVal.sl a), AVal.v (CVal.sl b)] [] = some R := fnW (by decide) rfl ((eq_l_eqIntSS CC LL a b).trans h)
noncomputable def nf_l_markIntSS (C : CallT) (L : LoopT) (a : List CVal) (b : Int) : Option Ret :=
 (L f_l_markIntSS (0 : Nat) lc_l_markIntSS_0 [PSh.arr (Md.mk true true (0 : Nat)) false (1 : Nat)] k_l_markIntSS_0
 ((PUnit.unit, b, (0 : Int), PUnit.unit), a, PUnit.unit)).bind
 fun r =>
 loK r (fun r => some r) fun j p => br (j == (0 : Nat)) (some (CVal.int IntKind.i64 p.fst.snd.1, [p.snd.1])) none
theorem eq_l_markIntSS (C : CallT) (L : LoopT) (a : List CVal) (b : Int) : evF E N C L f_l_markIntSS [AVal.lref (0 : Nat) (0 : Nat), AVal.v (CVal.int IntKind.i64 b)] [PB.arr (Md.mk true true (0 : Nat)) false (1 : Nat) a] = nf_l_markIntSS C L a b := by kernel_rfl
theorem go_l_markIntSS (a : List CVal) (b : Int) (R : Ret) (h : nf_l_markIntSS CC LL a b = some R) : CC f_l_markIntSS [AVal.lref (0 : Nat) (0 : Nat), AVal.v (CVal.int IntKind.i64 b)] [PB.arr (Md.mk true true (0 : Nat)) false (1 : Nat) a] = some R := fnW (by decide) rfl ((eq_l_markIntSS CC LL a b).trans h)
noncomputable def nf_l_toInsS (C : CallT) (L : LoopT) (a : List CVal) : Option Ret :=
 br (decide ((↑a.length : Int) = (↑a.length : Int)) && decide ((↑a.length : Int) ≤ (1048576 : Int)))
 ((L f_l_toInsS (0 : Nat) lc_l_toInsS_0 [] k_l_toInsS_0
 ((a, PUnit.unit, (0 : Int), PUnit.unit),
 List.replicate (↑a.length : Int).toNat
 (CVal.agg
 [CVal.int IntKind.i64 (0 : Int), CVal.int IntKind.i64 (0 : Int), CVal.int IntKind.i64 (0 : Int),
 CVal.int IntKind.i64 (0 : Int), CVal.int IntKind.i64 (0 : Int), CVal.sl [],
 CVal.int IntKind.i64 (0 : Int)]),
 PUnit.unit)).bind
 fun r => loK r (fun r => some r) fun j p => br (j == (0 : Nat)) (some (CVal.sl p.snd.1, [])) none)
 none
theorem eq_l_toInsS (C : CallT) (L : LoopT) (a : List CVal) : evF E N C L f_l_toInsS [AVal.v (CVal.sl a)] [] = nf_l_toInsS C L a := by kernel_rfl
theorem go_l_toInsS (a : List CVal) (R : Ret) (h : nf_l_toInsS CC LL a = some R) : CC f_l_toInsS [AVal.v (CVal.sl a)] [] = some R := fnW (by decide) rfl ((eq_l_toInsS CC LL a).trans h)
noncomputable def nf_s_l1In (C : CallT) (L : LoopT) (a : Int) (b : Int) (c : Int) : Option Ret :=
 (br (decide (b ≤ a)) (some (decide (a ≤ c), PUnit.unit)) (some (false, PUnit.unit))).bind fun y =>
 some (CVal.bool y.1, [])
theorem eq_s_l1In (C : CallT) (L : LoopT) (a : Int) (b : Int) (c : Int) : evF E N C L f_s_l1In [AVal.v (CVal.int IntKind.i64 a), AVal.v (CVal.int IntKind.i64 b), AVal.v (CVal.int IntKind.i64 c)] [] = nf_s_l1In C L a b c := by kernel_rfl
theorem go_s_l1In (a : Int) (b : Int) (c : Int) (R : Ret) (h : nf_s_l1In CC LL a b c = some R) : CC f_s_l1In [AVal.v (CVal.int IntKind.i64 a), AVal.v (CVal.int IntKind.i64 b), AVal.v (CVal.int IntKind.i64 c)] [] = some R := fnW (by decide) rfl ((eq_s_l1In CC LL a b c).trans h)
noncomputable def nf_i_wanted (C : CallT) (L : LoopT) (a0 : Int) (a1 : Int) (a2 : Int) (a3 : List CVal) (b : Int) (c : List CVal) : Option Ret :=
 br (decide ((0 : Int) ≤ a2) && decide (a2 = a2) && decide (a2 ≤ (1048576 : Int)))
 (br (decide ((0 : Int) ≤ b) && true)
 (a3[b.toNat]?.bind fun y =>
 br (CVal.fits true (7 : Nat) y)
 ((y.sub (0 : Nat) (7 : Nat)).bind fun y =>
 br (CVal.isAggN (7 : Nat) y)
 ((y.cell (0 : Nat)).bind fun c_1 =>
 (y.cell (1 : Nat)).bind fun c_2 =>
 (y.cell (2 : Nat)).bind fun c_3 =>
 (y.cell (3 : Nat)).bind fun c_4 =>
 (y.cell (4 : Nat)).bind fun c_5 =>
 (y.cell (5 : Nat)).bind fun c_6 =>
 (y.cell (6 : Nat)).bind fun c_7 =>
 (C f_i_ways
 [AVal.v
 (CVal.agg
 [CVal.int IntKind.i64 a0, CVal.int IntKind.i64 a1, CVal.int IntKind.i64 a2,
 CVal.sl a3]),
 AVal.v (CVal.int IntKind.i64 b)]
 []).bind
 fun r =>
 r.1.asSl.bind fun xs =>
 r.1.asSl.bind fun xs_1 =>
 (CVal.asInt IntKind.i64 c_1).bind fun n =>
 (CVal.asInt IntKind.i64 c_2).bind fun n_1 =>
 (CVal.asInt IntKind.i64 c_3).bind fun n_2 =>
 (CVal.asInt IntKind.i64 c_4).bind fun n_3 =>
 (CVal.asInt IntKind.i64 c_5).bind fun n_4 =>
 c_6.asSl.bind fun xs_2 =>
 (CVal.asInt IntKind.i64 c_7).bind fun n_5 =>
 (L f_i_wanted (0 : Nat) lc_i_wanted_0 [] k_i_wanted_0
 ((b, PUnit.unit, PUnit.unit, PUnit.unit,
 ((CVal.sl c).fp (0 : Nat), PUnit.unit), xs_1,
 (↑xs.length : Int), (0 : Int), PUnit.unit),
 (a0, a1, a2, a3, PUnit.unit), (PUnit.unit, PUnit.unit),
 List.replicate a2.toNat (CVal.bool false),
 (n, n_1, n_2, n_3, n_4, xs_2, n_5, PUnit.unit), PUnit.unit)).bind
 fun r =>
 loK r (fun r => some r) fun j p =>
 br (j == (0 : Nat))
 ((C f_i_guardOf
 [AVal.v
 (CVal.agg
 [CVal.int IntKind.i64 p.snd.fst.1,
 CVal.int IntKind.i64 p.snd.fst.snd.1,
 CVal.int IntKind.i64 p.snd.fst.snd.snd.1,
 CVal.sl p.snd.fst.snd.snd.snd.1]),
 AVal.v (CVal.int IntKind.i64 p.fst.1)]
 []).bind
 fun r =>
 ((CVal.asInt IntKind.i64 r.1).bind fun n =>
 br (decide ((0 : Int) ≤ n))
 ((C f_i_raises
 [AVal.v
 (CVal.int IntKind.i64 p.snd.snd.snd.snd.fst.1)]
 []).bind
 fun r =>
 (bif true then r.1 else CVal.bool false).asBool.bind
 fun b => some (b, PUnit.unit))
 (some (false, PUnit.unit))).bind
 fun y =>
 br y.1
 (r.1.asIdx.bind fun y =>
 br (decide ((0 : Int) ≤ y) && true)
 (p.snd.fst.snd.snd.snd.1[y.toNat]?.bind fun y =>
 br (CVal.fits true (7 : Nat) y)
 ((y.cell (6 : Nat)).bind fun c =>
 r.1.asIdx.bind fun y =>
 br (decide ((0 : Int) ≤ y) && true)
 (p.snd.fst.snd.snd.snd.1[y.toNat]?.bind fun y =>
 br (CVal.fits true (7 : Nat) y)
 ((y.cell (1 : Nat)).bind fun c_8 =>
 (C f_i_wanted_1
 [AVal.v c, AVal.v c_8,
 AVal.v
 p.fst.snd.snd.snd.snd.fst.1,
 AVal.lptr (0 : Nat) (0 : Nat)]
 [PB.box
 [AVal.lref (1 : Nat) (0 : Nat)],
 PB.arr
 (Md.mk true false (0 : Nat))
 true (1 : Nat)
 p.snd.snd.snd.1]).bind
 fun r =>
 r.2[(0 : Nat)]?.bind fun y =>
 r.2[(1 : Nat)]?.bind fun y_1 =>
 y[(0 : Nat)]?.bind fun y =>
 y.asSl.bind fun xs =>
 (C f_i_Reads
 [AVal.v
 (CVal.agg
 [CVal.int
 IntKind.i64
 p.snd.snd.snd.snd.fst.1,
 CVal.int
 IntKind.i64
 p.snd.snd.snd.snd.fst.snd.1,
 CVal.int
 IntKind.i64
 p.snd.snd.snd.snd.fst.snd.snd.1,
 CVal.int
 IntKind.i64
 p.snd.snd.snd.snd.fst.snd.snd.snd.1,
 CVal.int
 IntKind.i64
 p.snd.snd.snd.snd.fst.snd.snd.snd.snd.1,
 CVal.sl
 p.snd.snd.snd.snd.fst.snd.snd.snd.snd.snd.1,
 CVal.int
 IntKind.i64
 p.snd.snd.snd.snd.fst.snd.snd.snd.snd.snd.snd.1])]
 []).bind
 fun r =>
 r.1.asSl.bind fun xs_3 =>
 r.1.asSl.bind fun xs_4 =>
 (L f_i_wanted (2 : Nat)
 lc_i_wanted_2 []
 k_i_wanted_2
 ((PUnit.unit, xs_4,
 (↑xs_3.length :
 Int),
 (0 : Int),
 PUnit.unit),
 (PUnit.unit,
 PUnit.unit),
 xs,
 PUnit.unit)).bind
 fun r =>
 loK r (fun r => some r)
 fun j p =>
 br (j == (2 : Nat))
 (some
 (CVal.sl
 p.snd.snd.1,
 []))
 none)
 none)
 none)
 none)
 none)
 ((C f_i_Reads
 [AVal.v
 (CVal.agg
 [CVal.int IntKind.i64 p.snd.snd.snd.snd.fst.1,
 CVal.int IntKind.i64
 p.snd.snd.snd.snd.fst.snd.1,
 CVal.int IntKind.i64
 p.snd.snd.snd.snd.fst.snd.snd.1,
 CVal.int IntKind.i64
 p.snd.snd.snd.snd.fst.snd.snd.snd.1,
 CVal.int IntKind.i64
 p.snd.snd.snd.snd.fst.snd.snd.snd.snd.1,
 CVal.sl
 p.snd.snd.snd.snd.fst.snd.snd.snd.snd.snd.1,
 CVal.int IntKind.i64
 p.snd.snd.snd.snd.fst.snd.snd.snd.snd.snd.snd.1])]
 []).bind
 fun r =>
 r.1.asSl.bind fun xs =>
 r.1.asSl.bind fun xs_3 =>
 (L f_i_wanted (2 : Nat) lc_i_wanted_2 [] k_i_wanted_2
 ((PUnit.unit, xs_3, (↑xs.length : Int), (0 : Int),
 PUnit.unit),
 (PUnit.unit, PUnit.unit), p.snd.snd.snd.1,
 PUnit.unit)).bind
 fun r =>
 loK r (fun r => some r) fun j p =>
 br (j == (2 : Nat)) (some (CVal.sl p.snd.snd.1, []))
 none))
 none)
 none)
 none)
 none)
 none
theorem eq_i_wanted (C : CallT) (L : LoopT) (a0 : Int) (a1 : Int) (a2 : Int) (a3 : List CVal) (b : Int) (c : List CVal) : evF E N C L f_i_wanted [AVal.v (CVal.agg [CVal.int IntKind.i64 a0, CVal.int IntKind.i64 a1, CVal.int IntKind.i64 a2, CVal.sl a3]),
 AVal.v (CVal.int IntKind.i64 b), AVal.v (CVal.sl c)] [] = nf_i_wanted C L a0 a1 a2 a3 b c := by kernel_rfl
theorem go_i_wanted (a0 : Int) (a1 : Int) (a2 : Int) (a3 : List CVal) (b : Int) (c : List CVal) (R : Ret) (h : nf_i_wanted CC LL a0 a1 a2 a3 b c = some R) : CC f_i_wanted [AVal.v (CVal.agg [CVal.int IntKind.i64 a0, CVal.int IntKind.i64 a1, CVal.int IntKind.i64 a2, CVal.sl a3]),
 AVal.v (CVal.int IntKind.i64 b), AVal.v (CVal.sl c)] [] = some R := fnW (by decide) rfl ((eq_i_wanted CC LL a0 a1 a2 a3 b c).trans h)
noncomputable def nf_s_l10Lists (C : CallT) (L : LoopT) (a : List CVal) : Option Ret :=
 (L f_s_l10Lists (0 : Nat) lc_s_l10Lists_0 [] k_s_l10Lists_0
 ((a, PUnit.unit, (0 : Int), PUnit.unit), [], PUnit.unit)).bind
 fun r => loK r (fun r => some r) fun j p => br (j == (0 : Nat)) (some (CVal.sl p.snd.1, [])) none
theorem eq_s_l10Lists (C : CallT) (L : LoopT) (a : List CVal) : evF E N C L f_s_l10Lists [AVal.v (CVal.sl a)] [] = nf_s_l10Lists C L a := by kernel_rfl
theorem go_s_l10Lists (a : List CVal) (R : Ret) (h : nf_s_l10Lists CC LL a = some R) : CC f_s_l10Lists [AVal.v (CVal.sl a)] [] = some R := fnW (by decide) rfl ((eq_s_l10Lists CC LL a).trans h)
noncomputable def nf_l_markIntS (C : CallT) (L : LoopT) (a : List CVal) (b : Int) : Option Ret :=
 (L f_l_markIntS (0 : Nat) lc_l_markIntS_0 [PSh.arr (Md.mk true true (0 : Nat)) false (1 : Nat)] k_l_markIntS_0
 ((PUnit.unit, b, (0 : Int), PUnit.unit), a, PUnit.unit)).bind
 fun r =>
 loK r (fun r => some r) fun j p => br (j == (0 : Nat)) (some (CVal.int IntKind.i64 p.fst.snd.1, [p.snd.1])) none
theorem eq_l_markIntS (C : CallT) (L : LoopT) (a : List CVal) (b : Int) : evF E N C L f_l_markIntS [AVal.lref (0 : Nat) (0 : Nat), AVal.v (CVal.int IntKind.i64 b)] [PB.arr (Md.mk true true (0 : Nat)) false (1 : Nat) a] = nf_l_markIntS C L a b := by kernel_rfl
theorem go_l_markIntS (a : List CVal) (b : Int) (R : Ret) (h : nf_l_markIntS CC LL a b = some R) : CC f_l_markIntS [AVal.lref (0 : Nat) (0 : Nat), AVal.v (CVal.int IntKind.i64 b)] [PB.arr (Md.mk true true (0 : Nat)) false (1 : Nat) a] = some R := fnW (by decide) rfl ((eq_l_markIntS CC LL a b).trans h)
noncomputable def nf_s_l9Ins (C : CallT) (L : LoopT) (a0 : Int) (a1 : Int) (a2 : Int) (a3 : List CVal) (b0 : Int) (b1 : Int) (b2 : Int) (b3 : Int) (b4 : Int) (b5 : List CVal) (b6 : Int) : Option Ret :=
 (C f_s_l9Uses [AVal.v (CVal.int IntKind.i64 b0)] []).bind fun r =>
 br (CVal.isAggN (4 : Nat) r.1)
 ((r.1.cell (0 : Nat)).bind fun c =>
 (r.1.cell (1 : Nat)).bind fun c_1 =>
 (r.1.cell (2 : Nat)).bind fun c_2 =>
 (r.1.cell (3 : Nat)).bind fun c_3 =>
 ((C f_s_l1In
 [AVal.v (CVal.int IntKind.i64 b0), AVal.v (CVal.int IntKind.i64 (1 : Int)),
 AVal.v (CVal.int IntKind.i64 (18 : Int))]
 []).bind
 fun r =>
 r.1.asBool.bind fun b =>
 br (!b) (some (true, PUnit.unit))
 ((C f_s_l9Reg [AVal.v c, AVal.v (CVal.int IntKind.i64 b1), AVal.v (CVal.int IntKind.i64 a2)]
 []).bind
 fun r =>
 r.1.asBool.bind fun b =>
 br (!b) (some (true, PUnit.unit))
 ((C f_s_l9Reg
 [AVal.v c_1, AVal.v (CVal.int IntKind.i64 b2), AVal.v (CVal.int IntKind.i64 a2)]
 []).bind
 fun r =>
 r.1.asBool.bind fun b =>
 br (!b) (some (true, PUnit.unit))
 ((C f_s_l9Reg
 [AVal.v c_2, AVal.v (CVal.int IntKind.i64 b3), AVal.v (CVal.int IntKind.i64 a2)]
 []).bind
 fun r =>
 r.1.asBool.bind fun b =>
 br (!b) (some (true, PUnit.unit))
 (c_3.asBool.bind fun b =>
 br b
 ((C f_s_l1In
 [AVal.v (CVal.int IntKind.i64 b6),
 AVal.v (CVal.int IntKind.i64 (0 : Int)),
 AVal.v
 (CVal.int IntKind.i64
 (IntKind.i64.wrap ((↑a3.length : Int) - (1 : Int))))]
 []).bind
 fun r =>
 r.1.asBool.bind fun b =>
 br (!b) (some (true, PUnit.unit))
 (c_3.asBool.bind fun b =>
 br (!b) (some (!decide (b6 = (0 : Int)), PUnit.unit))
 (some (false, PUnit.unit))))
 (c_3.asBool.bind fun b =>
 br (!b) (some (!decide (b6 = (0 : Int)), PUnit.unit))
 (some (false, PUnit.unit)))))))).bind
 fun y =>
 br y.1 (some (CVal.bool false, []))
 ((br (!decide (b0 = (8 : Int)))
 (br (!decide (b0 = (14 : Int))) (some (decide ((0 : Int) < (↑b5.length : Int)), PUnit.unit))
 (some (false, PUnit.unit)))
 (some (false, PUnit.unit))).bind
 fun y =>
 br y.1 (some (CVal.bool false, []))
 (br (decide (b0 = (1 : Int)))
 ((C f_s_l1In
 [AVal.v (CVal.int IntKind.i64 b4), AVal.v (CVal.int IntKind.i64 (-1000000 : Int)),
 AVal.v (CVal.int IntKind.i64 (1000000 : Int))]
 []).bind
 fun r => some (r.1, []))
 (br (decide (b0 = (2 : Int)))
 ((C f_s_l1In
 [AVal.v (CVal.int IntKind.i64 b4), AVal.v (CVal.int IntKind.i64 (0 : Int)),
 AVal.v (CVal.int IntKind.i64 (1 : Int))]
 []).bind
 fun r => some (r.1, []))
 (br (decide (b0 = (5 : Int)))
 ((C f_s_l1In
 [AVal.v (CVal.int IntKind.i64 b4), AVal.v (CVal.int IntKind.i64 (1 : Int)),
 AVal.v (CVal.int IntKind.i64 (5 : Int))]
 []).bind
 fun r => some (r.1, []))
 (br (decide (b0 = (8 : Int)))
 ((L f_s_l9Ins (1 : Nat) lc_s_l9Ins_1 [] k_s_l9Ins_1
 ((PUnit.unit, PUnit.unit, (0 : Int), PUnit.unit), (a0, a1, a2, a3, PUnit.unit),
 (b0, b1, b2, b3, b4, b5, b6, PUnit.unit), PUnit.unit)).bind
 fun r =>
 loK r (fun r => some r) fun j p =>
 br (j == (1 : Nat))
 (((C f_s_l1In
 [AVal.v (CVal.int IntKind.i64 p.snd.snd.fst.snd.snd.snd.snd.1),
 AVal.v (CVal.int IntKind.i64 (0 : Int)),
 AVal.v (CVal.int IntKind.i64 (149 : Int))]
 []).bind
 fun r =>
 r.1.asBool.bind fun b =>
 br b
 (some
 (decide
 ((↑(List.length p.snd.snd.fst.snd.snd.snd.snd.snd.1) : Int) <
 (100 : Int)),
 PUnit.unit))
 (some (false, PUnit.unit))).bind
 fun y => some (CVal.bool y.1, []))
 (br (j == (0 : Nat))
 (some (CVal.bool (decide (p.snd.snd.fst.snd.snd.snd.snd.1 = (0 : Int))), [])) none))
 (br (decide (b0 = (14 : Int)))
 ((L f_s_l9Ins (3 : Nat) lc_s_l9Ins_3 [] k_s_l9Ins_3
 ((PUnit.unit, (1 : Int), PUnit.unit), (b0, b1, b2, b3, b4, b5, b6, PUnit.unit),
 PUnit.unit)).bind
 fun r =>
 loK r (fun r => some r) fun j p =>
 br (j == (3 : Nat))
 ((br (decide (p.snd.fst.snd.snd.snd.snd.1 = (0 : Int)))
 (some
 (decide
 ((↑(List.length p.snd.fst.snd.snd.snd.snd.snd.1) : Int) ≤ (200 : Int)),
 PUnit.unit))
 (some (false, PUnit.unit))).bind
 fun y => some (CVal.bool y.1, []))
 (br (j == (0 : Nat))
 (some (CVal.bool (decide (p.snd.fst.snd.snd.snd.snd.1 = (0 : Int))), [])) none))
 (some (CVal.bool (decide (b4 = (0 : Int))), [])))))))))
 none
theorem eq_s_l9Ins (C : CallT) (L : LoopT) (a0 : Int) (a1 : Int) (a2 : Int) (a3 : List CVal) (b0 : Int) (b1 : Int) (b2 : Int) (b3 : Int) (b4 : Int) (b5 : List CVal) (b6 : Int) : evF E N C L f_s_l9Ins [AVal.v (CVal.agg [CVal.int IntKind.i64 a0, CVal.int IntKind.i64 a1, CVal.int IntKind.i64 a2, CVal.sl a3]),
 AVal.v
 (CVal.agg
 [CVal.int IntKind.i64 b0, CVal.int IntKind.i64 b1, CVal.int IntKind.i64 b2, CVal.int IntKind.i64 b3,
 CVal.int IntKind.i64 b4, CVal.sl b5, CVal.int IntKind.i64 b6])] [] = nf_s_l9Ins C L a0 a1 a2 a3 b0 b1 b2 b3 b4 b5 b6 := by kernel_rfl
theorem go_s_l9Ins (a0 : Int) (a1 : Int) (a2 : Int) (a3 : List CVal) (b0 : Int) (b1 : Int) (b2 : Int) (b3 : Int) (b4 : Int) (b5 : List CVal) (b6 : Int) (R : Ret) (h : nf_s_l9Ins CC LL a0 a1 a2 a3 b0 b1 b2 b3 b4 b5 b6 = some R) : CC f_s_l9Ins [AVal.v (CVal.agg [CVal.int IntKind.i64 a0, CVal.int IntKind.i64 a1, CVal.int IntKind.i64 a2, CVal.sl a3]),
 AVal.v
 (CVal.agg
 [CVal.int IntKind.i64 b0, CVal.int IntKind.i64 b1, CVal.int IntKind.i64 b2, CVal.int IntKind.i64 b3,
 CVal.int IntKind.i64 b4, CVal.sl b5, CVal.int IntKind.i64 b6])] [] = some R := fnW (by decide) rfl ((eq_s_l9Ins CC LL a0 a1 a2 a3 b0 b1 b2 b3 b4 b5 b6).trans h)
noncomputable def nf_s_l10Normal (C : CallT) (L : LoopT) (a0 : Int) (a1 : Int) (a2 : Int) (a3 : List CVal) (b : Int) : Option Ret :=
 br (decide ((0 : Int) ≤ b) && true)
 (a3[b.toNat]?.bind fun y =>
 br (CVal.fits true (7 : Nat) y)
 ((y.sub (0 : Nat) (7 : Nat)).bind fun y =>
 br (CVal.isAggN (7 : Nat) y)
 ((y.cell (0 : Nat)).bind fun c =>
 (y.cell (1 : Nat)).bind fun c_1 =>
 (y.cell (2 : Nat)).bind fun c_2 =>
 (y.cell (3 : Nat)).bind fun c_3 =>
 (y.cell (4 : Nat)).bind fun c_4 =>
 (y.cell (5 : Nat)).bind fun c_5 =>
 (y.cell (6 : Nat)).bind fun c_6 =>
 (CVal.asInt IntKind.i64 c).bind fun n =>
 br (decide (n = (15 : Int))) (some (CVal.sl [], []))
 ((CVal.asInt IntKind.i64 c).bind fun n =>
 br (decide (n = (16 : Int))) (some (CVal.sl [], []))
 ((CVal.asInt IntKind.i64 c).bind fun n =>
 br (decide (n = (13 : Int)))
 (br (c_6.isFlat && true)
 ((CVal.asInt IntKind.i64 c_6).bind fun n =>
 some (CVal.sl [CVal.int IntKind.i64 n], []))
 none)
 ((CVal.asInt IntKind.i64 c).bind fun n =>
 br (decide (n = (11 : Int)))
 ((CVal.asInt IntKind.i64 c_6).bind fun n =>
 br (decide (n < IntKind.i64.wrap (b + (1 : Int))))
 (br (c_6.isFlat && true)
 ((CVal.asInt IntKind.i64 c_6).bind fun n =>
 some
 (CVal.sl
 [CVal.int IntKind.i64 n,
 CVal.int IntKind.i64 (IntKind.i64.wrap (b + (1 : Int)))],
 []))
 none)
 ((CVal.asInt IntKind.i64 c_6).bind fun n =>
 br (decide (IntKind.i64.wrap (b + (1 : Int)) < n))
 (br (c_6.isFlat && true)
 ((CVal.asInt IntKind.i64 c_6).bind fun n =>
 some
 (CVal.sl
 [CVal.int IntKind.i64 (IntKind.i64.wrap (b + (1 : Int))),
 CVal.int IntKind.i64 n],
 []))
 none)
 (some
 (CVal.sl [CVal.int IntKind.i64 (IntKind.i64.wrap (b + (1 : Int)))],
 []))))
 ((CVal.asInt IntKind.i64 c).bind fun n =>
 br (decide (n = (12 : Int)))
 ((CVal.asInt IntKind.i64 c_6).bind fun n =>
 br (decide (n < IntKind.i64.wrap (b + (1 : Int))))
 (br (c_6.isFlat && true)
 ((CVal.asInt IntKind.i64 c_6).bind fun n =>
 some
 (CVal.sl
 [CVal.int IntKind.i64 n,
 CVal.int IntKind.i64 (IntKind.i64.wrap (b + (1 : Int)))],
 []))
 none)
 ((CVal.asInt IntKind.i64 c_6).bind fun n =>
 br (decide (IntKind.i64.wrap (b + (1 : Int)) < n))
 (br (c_6.isFlat && true)
 ((CVal.asInt IntKind.i64 c_6).bind fun n =>
 some
 (CVal.sl
 [CVal.int IntKind.i64 (IntKind.i64.wrap (b + (1 : Int))),
 CVal.int IntKind.i64 n],
 []))
 none)
 (some
 (CVal.sl
 [CVal.int IntKind.i64 (IntKind.i64.wrap (b + (1 : Int)))],
 []))))
 (some
 (CVal.sl [CVal.int IntKind.i64 (IntKind.i64.wrap (b + (1 : Int)))],
 [])))))))
 none)
 none)
 none
theorem eq_s_l10Normal (C : CallT) (L : LoopT) (a0 : Int) (a1 : Int) (a2 : Int) (a3 : List CVal) (b : Int) : evF E N C L f_s_l10Normal [AVal.v (CVal.agg [CVal.int IntKind.i64 a0, CVal.int IntKind.i64 a1, CVal.int IntKind.i64 a2, CVal.sl a3]),
 AVal.v (CVal.int IntKind.i64 b)] [] = nf_s_l10Normal C L a0 a1 a2 a3 b := by kernel_rfl
theorem go_s_l10Normal (a0 : Int) (a1 : Int) (a2 : Int) (a3 : List CVal) (b : Int) (R : Ret) (h : nf_s_l10Normal CC LL a0 a1 a2 a3 b = some R) : CC f_s_l10Normal [AVal.v (CVal.agg [CVal.int IntKind.i64 a0, CVal.int IntKind.i64 a1, CVal.int IntKind.i64 a2, CVal.sl a3]),
 AVal.v (CVal.int IntKind.i64 b)] [] = some R := fnW (by decide) rfl ((eq_s_l10Normal CC LL a0 a1 a2 a3 b).trans h)
noncomputable def nf_i_lamOk (C : CallT) (L : LoopT) (a0 : Int) (a1 : Int) (a2 : Int) (a3 : List CVal) : Option Ret :=
 (br (decide (a0 = (-1 : Int)))
 (br (decide (a1 = (0 : Int))) (some (true, PUnit.unit))
 ((C f_i_in
 [AVal.v (CVal.int IntKind.i64 a0), AVal.v (CVal.int IntKind.i64 (0 : Int)),
 AVal.v (CVal.int IntKind.i64 (149 : Int))]
 []).bind
 fun r =>
 r.1.asBool.bind fun b => br b (some (decide ((1 : Int) ≤ a1), PUnit.unit)) (some (false, PUnit.unit))))
 ((C f_i_in
 [AVal.v (CVal.int IntKind.i64 a0), AVal.v (CVal.int IntKind.i64 (0 : Int)),
 AVal.v (CVal.int IntKind.i64 (149 : Int))]
 []).bind
 fun r =>
 r.1.asBool.bind fun b => br b (some (decide ((1 : Int) ≤ a1), PUnit.unit)) (some (false, PUnit.unit)))).bind
 fun y => some (CVal.bool y.1, [])
theorem eq_i_lamOk (C : CallT) (L : LoopT) (a0 : Int) (a1 : Int) (a2 : Int) (a3 : List CVal) : evF E N C L f_i_lamOk [AVal.v (CVal.agg [CVal.int IntKind.i64 a0, CVal.int IntKind.i64 a1, CVal.int IntKind.i64 a2, CVal.sl a3])] [] = nf_i_lamOk C L a0 a1 a2 a3 := by kernel_rfl
theorem go_i_lamOk (a0 : Int) (a1 : Int) (a2 : Int) (a3 : List CVal) (R : Ret) (h : nf_i_lamOk CC LL a0 a1 a2 a3 = some R) : CC f_i_lamOk [AVal.v (CVal.agg [CVal.int IntKind.i64 a0, CVal.int IntKind.i64 a1, CVal.int IntKind.i64 a2, CVal.sl a3])] [] = some R := fnW (by decide) rfl ((eq_i_lamOk CC LL a0 a1 a2 a3).trans h)
noncomputable def nf_i_Writes (C : CallT) (L : LoopT) (a0 : Int) (a1 : Int) (a2 : Int) (a3 : Int) (a4 : Int) (a5 : List CVal) (a6 : Int) : Option Ret :=
 ((C f_i_hasPart [AVal.v (CVal.int IntKind.i64 a0), AVal.v (CVal.int IntKind.u8 (68 : Int))] []).bind fun r =>
 r.1.asBool.bind fun b => br b (some (!decide (a0 = (17 : Int)), PUnit.unit)) (some (false, PUnit.unit))).bind
 fun y => br y.1 (some (CVal.int IntKind.i64 a1, [])) (some (CVal.int IntKind.i64 (-1 : Int), []))
theorem eq_i_Writes (C : CallT) (L : LoopT) (a0 : Int) (a1 : Int) (a2 : Int) (a3 : Int) (a4 : Int) (a5 : List CVal) (a6 : Int) : evF E N C L f_i_Writes [AVal.v
 (CVal.agg
 [CVal.int IntKind.i64 a0, CVal.int IntKind.i64 a1, CVal.int IntKind.i64 a2, CVal.int IntKind.i64 a3,
 CVal.int IntKind.i64 a4, CVal.sl a5, CVal.int IntKind.i64 a6])] [] = nf_i_Writes C L a0 a1 a2 a3 a4 a5 a6 := by kernel_rfl
theorem go_i_Writes (a0 : Int) (a1 : Int) (a2 : Int) (a3 : Int) (a4 : Int) (a5 : List CVal) (a6 : Int) (R : Ret) (h : nf_i_Writes CC LL a0 a1 a2 a3 a4 a5 a6 = some R) : CC f_i_Writes [AVal.v
 (CVal.agg
 [CVal.int IntKind.i64 a0, CVal.int IntKind.i64 a1, CVal.int IntKind.i64 a2, CVal.int IntKind.i64 a3,
 CVal.int IntKind.i64 a4, CVal.sl a5, CVal.int IntKind.i64 a6])] [] = some R := fnW (by decide) rfl ((eq_i_Writes CC LL a0 a1 a2 a3 a4 a5 a6).trans h)
noncomputable def nf_i_wanted_1 (C : CallT) (L : LoopT) (a : Int) (b : Int) (c : List CVal) (d : List CVal) : Option Ret :=
 br (decide ((0 : Int) ≤ a) && true)
 (c[a.toNat]?.bind fun y =>
 br (CVal.fits false (1 : Nat) y)
 ((y.cell (0 : Nat)).bind fun c =>
 c.asSl.bind fun xs =>
 c.asSl.bind fun xs_1 =>
 (L f_i_wanted_1 (0 : Nat) lc_i_wanted_1_0
 [PSh.box [some (1 : Nat)], PSh.arr (Md.mk true false (0 : Nat)) true (1 : Nat)] k_i_wanted_1_0
 ((b, PUnit.unit, xs_1, (↑xs.length : Int), (0 : Int), PUnit.unit), (PUnit.unit, PUnit.unit),
 PUnit.unit, d, PUnit.unit)).bind
 fun r =>
 loK r (fun r => some r) fun j p =>
 br (j == (0 : Nat)) (some (CVal.tup [], [[CVal.sl p.snd.snd.snd.1], []])) none)
 none)
 none
theorem eq_i_wanted_1 (C : CallT) (L : LoopT) (a : Int) (b : Int) (c : List CVal) (d : List CVal) : evF E N C L f_i_wanted_1 [AVal.v (CVal.int IntKind.i64 a), AVal.v (CVal.int IntKind.i64 b), AVal.v ((CVal.sl c).fp (0 : Nat)),
 AVal.lptr (0 : Nat) (0 : Nat)] [PB.box [AVal.lref (1 : Nat) (0 : Nat)], PB.arr (Md.mk true false (0 : Nat)) true (1 : Nat) d] = nf_i_wanted_1 C L a b c d := by kernel_rfl
theorem go_i_wanted_1 (a : Int) (b : Int) (c : List CVal) (d : List CVal) (R : Ret) (h : nf_i_wanted_1 CC LL a b c d = some R) : CC f_i_wanted_1 [AVal.v (CVal.int IntKind.i64 a), AVal.v (CVal.int IntKind.i64 b), AVal.v ((CVal.sl c).fp (0 : Nat)),
 AVal.lptr (0 : Nat) (0 : Nat)] [PB.box [AVal.lref (1 : Nat) (0 : Nat)], PB.arr (Md.mk true false (0 : Nat)) true (1 : Nat) d] = some R := fnW (by decide) rfl ((eq_i_wanted_1 CC LL a b c d).trans h)
noncomputable def nf_s_l9Reg (C : CallT) (L : LoopT) (a : Bool) (b : Int) (c : Int) : Option Ret :=
 br (!a) (some (CVal.bool (decide (b = (0 : Int))), []))
 ((C f_s_l1In
 [AVal.v (CVal.int IntKind.i64 b), AVal.v (CVal.int IntKind.i64 (0 : Int)),
 AVal.v (CVal.int IntKind.i64 (IntKind.i64.wrap (c - (1 : Int))))]
 []).bind
 fun r => some (r.1, []))
theorem eq_s_l9Reg (C : CallT) (L : LoopT) (a : Bool) (b : Int) (c : Int) : evF E N C L f_s_l9Reg [AVal.v (CVal.bool a), AVal.v (CVal.int IntKind.i64 b), AVal.v (CVal.int IntKind.i64 c)] [] = nf_s_l9Reg C L a b c := by kernel_rfl
theorem go_s_l9Reg (a : Bool) (b : Int) (c : Int) (R : Ret) (h : nf_s_l9Reg CC LL a b c = some R) : CC f_s_l9Reg [AVal.v (CVal.bool a), AVal.v (CVal.int IntKind.i64 b), AVal.v (CVal.int IntKind.i64 c)] [] = some R := fnW (by decide) rfl ((eq_s_l9Reg CC LL a b c).trans h)
noncomputable def nf_i_hasPart (C : CallT) (L : LoopT) (a : Int) (b : Int) : Option Ret :=
 (C f_i_insForm [AVal.v (CVal.int IntKind.i64 a)] []).bind fun r =>
 r.1.asTup.bind fun y =>
 y[(0 : Nat)]?.bind fun y =>
 r.1.asTup.bind fun y_1 =>
 y_1[(1 : Nat)]?.bind fun y_2 =>
 y.asStr.bind fun s =>
 br (decide (s.length ≤ (4294967296 : Nat)))
 ((C f_slices_Contains_byte [AVal.v (CVal.sl (bytesC s)), AVal.v (CVal.int IntKind.u8 b)] []).bind fun r =>
 some (r.1, []))
 none
theorem eq_i_hasPart (C : CallT) (L : LoopT) (a : Int) (b : Int) : evF E N C L f_i_hasPart [AVal.v (CVal.int IntKind.i64 a), AVal.v (CVal.int IntKind.u8 b)] [] = nf_i_hasPart C L a b := by kernel_rfl
theorem go_i_hasPart (a : Int) (b : Int) (R : Ret) (h : nf_i_hasPart CC LL a b = some R) : CC f_i_hasPart [AVal.v (CVal.int IntKind.i64 a), AVal.v (CVal.int IntKind.u8 b)] [] = some R := fnW (by decide) rfl ((eq_i_hasPart CC LL a b).trans h)
noncomputable def nf_slices_ContainsFunc_int (C : CallT) (L : LoopT) (a : List CVal) (b : CVal) : Option Ret :=
 (C f_slices_IndexFunc_int [AVal.v (CVal.sl a), AVal.v b] []).bind fun r =>
 (CVal.asInt IntKind.i64 r.1).bind fun n => some (CVal.bool (decide ((0 : Int) ≤ n)), [])
theorem eq_slices_ContainsFunc_int (C : CallT) (L : LoopT) (a : List CVal) (b : CVal) : evF E N C L f_slices_ContainsFunc_int [AVal.v (CVal.sl a), AVal.v b] [] = nf_slices_ContainsFunc_int C L a b := by kernel_rfl
theorem go_slices_ContainsFunc_int (a : List CVal) (b : CVal) (R : Ret) (h : nf_slices_ContainsFunc_int CC LL a b = some R) : CC f_slices_ContainsFunc_int [AVal.v (CVal.sl a), AVal.v b] [] = some R := fnW (by decide) rfl ((eq_slices_ContainsFunc_int CC LL a b).trans h)
noncomputable def nf_slices_Index_byte (C : CallT) (L : LoopT) (a : List CVal) (b : Int) : Option Ret :=
 (L f_slices_Index_byte (0 : Nat) lc_slices_Index_byte_0 [] k_slices_Index_byte_0
 ((a, b, (↑a.length : Int), (0 : Int), PUnit.unit), PUnit.unit)).bind
 fun r => loK r (fun r => some r) fun j p => br (j == (0 : Nat)) (some (CVal.int IntKind.i64 (-1 : Int), [])) none
theorem eq_slices_Index_byte (C : CallT) (L : LoopT) (a : List CVal) (b : Int) : evF E N C L f_slices_Index_byte [AVal.v (CVal.sl a), AVal.v (CVal.int IntKind.u8 b)] [] = nf_slices_Index_byte C L a b := by kernel_rfl
theorem go_slices_Index_byte (a : List CVal) (b : Int) (R : Ret) (h : nf_slices_Index_byte CC LL a b = some R) : CC f_slices_Index_byte [AVal.v (CVal.sl a), AVal.v (CVal.int IntKind.u8 b)] [] = some R := fnW (by decide) rfl ((eq_slices_Index_byte CC LL a b).trans h)
noncomputable def nl_s_LiveOk_2 (C : CallT) (L : LoopT) (x00 : List CVal) (x03 : Int) (x04 : Int) (x10 : Int) (x11 : Int) (x12 : Int) (x13 : List CVal) (x20 : Int) (x21 : Int) (x22 : Int) (x23 : List CVal) (x25 : Bool) (x3 : List CVal) : Option (LO k_s_LiveOk_2.T) :=
 br (decide ((0 : Int) ≤ x03) && true)
 (x00[x03.toNat]?.bind fun y =>
 br (CVal.fits false (1 : Nat) y)
 ((y.cell (0 : Nat)).bind fun c =>
 c.asSl.bind fun xs =>
 br (decide (x04 < (↑xs.length : Int)))
 ((br (decide ((0 : Int) ≤ x03) && true)
 (x00[x03.toNat]?.bind fun y =>
 br (CVal.fits false (1 : Nat) y)
 ((y.cell (0 : Nat)).bind fun c =>
 br (decide ((0 : Int) ≤ x04) && true)
 (c.asSl.bind fun xs =>
 xs[x04.toNat]?.bind fun y =>
 br (CVal.fits false (1 : Nat) y)
 ((y.cell (0 : Nat)).bind fun c =>
 (C f_s_l1In
 [AVal.v c, AVal.v (CVal.int IntKind.i64 (0 : Int)),
 AVal.v (CVal.int IntKind.i64 (IntKind.i64.wrap (x12 - (1 : Int))))]
 []).bind
 fun r =>
 r.1.asBool.bind fun b =>
 br (!b) (some (true, PUnit.unit))
 (br (decide ((0 : Int) < x04))
 (br (decide ((0 : Int) ≤ x03) && true)
 (x00[x03.toNat]?.bind fun y =>
 br (CVal.fits false (1 : Nat) y)
 ((y.cell (0 : Nat)).bind fun c =>
 br (decide ((0 : Int) ≤ IntKind.i64.wrap (x04 - (1 : Int))) && true)
 (c.asSl.bind fun xs =>
 xs[(IntKind.i64.wrap (x04 - (1 : Int))).toNat]?.bind fun y =>
 br (CVal.fits false (1 : Nat) y)
 ((y.cell (0 : Nat)).bind fun c =>
 br (decide ((0 : Int) ≤ x03) && true)
 (x00[x03.toNat]?.bind fun y =>
 br (CVal.fits false (1 : Nat) y)
 ((y.cell (0 : Nat)).bind fun c_1 =>
 br (decide ((0 : Int) ≤ x04) && true)
 (c_1.asSl.bind fun xs =>
 xs[x04.toNat]?.bind fun y =>
 br (CVal.fits false (1 : Nat) y)
 ((y.cell (0 : Nat)).bind fun c_2 =>
 (CVal.asInt IntKind.i64 c).bind fun n =>
 (CVal.asInt IntKind.i64 c_2).bind
 fun n_1 =>
 some (decide (n_1 ≤ n), PUnit.unit))
 none)
 none)
 none)
 none)
 none)
 none)
 none)
 none)
 (some (false, PUnit.unit))))
 none)
 none)
 none)
 none).bind
 fun y =>
 br y.1 (some (LO.ret (CVal.bool false, [])))
 (br (decide ((0 : Int) ≤ x03) && true)
 (br (decide (x03.toNat < x3.length) && true)
 (x3[x03.toNat]?.bind fun y =>
 (y.cell (0 : Nat)).bind fun c =>
 c.asSl.bind fun xs =>
 br (decide ((0 : Int) ≤ x03) && true)
 (x00[x03.toNat]?.bind fun y =>
 br (CVal.fits false (1 : Nat) y)
 ((y.cell (0 : Nat)).bind fun c =>
 br (decide ((0 : Int) ≤ x04) && true)
 (c.asSl.bind fun xs =>
 xs[x04.toNat]?.bind fun y =>
 br (CVal.fits false (1 : Nat) y)
 ((y.cell (0 : Nat)).bind fun c =>
 c.asIdx.bind fun y =>
 br (decide ((0 : Int) ≤ y) && true)
 ((x3[x03.toNat]?.bind fun y =>
 (y.cell (0 : Nat)).bind fun c => c.asSl).bind
 fun y_1 =>
 br (decide (y.toNat < y_1.length))
 (x3[x03.toNat]?.bind fun y_2 =>
 (y_2.cell (0 : Nat)).bind fun c =>
 c.asSl.bind fun xs =>
 xs[y.toNat]?.bind fun y_3 =>
 br (CVal.fitsF false [CK.bool] y_3)
 (L f_s_LiveOk (2 : Nat) lc_s_LiveOk_2 [] k_s_LiveOk_2
 ((x00, PUnit.unit, PUnit.unit, x03,
 IntKind.i64.wrap (x04 + (1 : Int)), PUnit.unit),
 (x10, x11, x12, x13, PUnit.unit),
 (x20, x21, x22, x23, PUnit.unit, x25, PUnit.unit),
 x3.set x03.toNat
 (y_2.putCell (0 : Nat)
 (CVal.sl (xs.set y.toNat (CVal.bool true)))),
 PUnit.unit))
 none)
 none)
 none)
 none)
 none)
 none)
 none)
 none)
 none))
 (some
 (LO.out (2 : Nat)
 ((x00, PUnit.unit, PUnit.unit, x03, x04, PUnit.unit), (x10, x11, x12, x13, PUnit.unit),
 (x20, x21, x22, x23, PUnit.unit, x25, PUnit.unit), x3, PUnit.unit))))
 none)
 none
theorem el_s_LiveOk_2 (C : CallT) (L : LoopT) (x00 : List CVal) (x03 : Int) (x04 : Int) (x10 : Int) (x11 : Int) (x12 : Int) (x13 : List CVal) (x20 : Int) (x21 : Int) (x22 : Int) (x23 : List CVal) (x25 : Bool) (x3 : List CVal) : evL E N C L f_s_LiveOk 2 lc_s_LiveOk_2 [] k_s_LiveOk_2 ((x00, (), (), x03, x04, ()), (x10, x11, x12, x13, ()), (x20, x21, x22, x23, (), x25, ()), x3, ()) = nl_s_LiveOk_2 C L x00 x03 x04 x10 x11 x12 x13 x20 x21 x22 x23 x25 x3 := by kernel_rfl
theorem gl_s_LiveOk_2 (x00 : List CVal) (x03 : Int) (x04 : Int) (x10 : Int) (x11 : Int) (x12 : Int) (x13 : List CVal) (x20 : Int) (x21 : Int) (x22 : Int) (x23 : List CVal) (x25 : Bool) (x3 : List CVal) (R : LO k_s_LiveOk_2.T) (h : nl_s_LiveOk_2 CC LL x00 x03 x04 x10 x11 x12 x13 x20 x21 x22 x23 x25 x3 = some R) : LL f_s_LiveOk 2 lc_s_LiveOk_2 [] k_s_LiveOk_2 ((x00, (), (), x03, x04, ()), (x10, x11, x12, x13, ()), (x20, x21, x22, x23, (), x25, ()), x3, ()) = some R := loopW ((el_s_LiveOk_2 CC LL x00 x03 x04 x10 x11 x12 x13 x20 x21 x22 x23 x25 x3).trans h)
noncomputable def nl_i_LiveOk_2 (C : CallT) (L : LoopT) (x02 : List CVal) (x04 : List CVal) (x05 : Int) (x06 : Int) (x07 : List CVal) (x08 : Int) (x09 : Int) (x10 : Int) (x11 : Int) (x12 : Int) (x13 : List CVal) (x2 : List CVal) (x3 : List CVal) : Option (LO k_i_LiveOk_2.T) :=
 br (decide (x09 < x08))
 (br (decide ((0 : Int) ≤ x09) && true)
 (x07[x09.toNat]?.bind fun y =>
 br (CVal.fits false (1 : Nat) y)
 ((y.cell (0 : Nat)).bind fun c =>
 ((C f_i_in
 [AVal.v c, AVal.v (CVal.int IntKind.i64 (0 : Int)),
 AVal.v (CVal.int IntKind.i64 (IntKind.i64.wrap (x12 - (1 : Int))))]
 []).bind
 fun r =>
 r.1.asBool.bind fun b =>
 br (!b) (some (true, PUnit.unit))
 (br (decide ((0 : Int) < x09))
 (br (decide ((0 : Int) ≤ IntKind.i64.wrap (x09 - (1 : Int))) && true)
 (x02[(IntKind.i64.wrap (x09 - (1 : Int))).toNat]?.bind fun y =>
 br (CVal.fits false (1 : Nat) y)
 ((y.cell (0 : Nat)).bind fun c_1 =>
 (CVal.asInt IntKind.i64 c_1).bind fun n =>
 (CVal.asInt IntKind.i64 c).bind fun n_1 => some (decide (n_1 ≤ n), PUnit.unit))
 none)
 none)
 (some (false, PUnit.unit)))).bind
 fun y =>
 br y.1 (some (LO.ret (CVal.bool false, [])))
 (c.asIdx.bind fun y =>
 br (decide ((0 : Int) ≤ y) && true)
 (br (decide (y.toNat < x3.length) && true)
 (x3[y.toNat]?.bind fun y_1 =>
 br (CVal.fits false (1 : Nat) y_1)
 (L f_i_LiveOk (2 : Nat) lc_i_LiveOk_2 [] k_i_LiveOk_2
 ((PUnit.unit, PUnit.unit, x02, PUnit.unit, x04, x05, x06, x07, x08,
 IntKind.i64.wrap (x09 + (1 : Int)), PUnit.unit),
 (x10, x11, x12, x13, PUnit.unit), x2, x3.set y.toNat (CVal.bool true), PUnit.unit))
 (br (y_1.isAgg && decide ((1 : Nat) ≤ y_1.cells.length))
 (L f_i_LiveOk (2 : Nat) lc_i_LiveOk_2 [] k_i_LiveOk_2
 ((PUnit.unit, PUnit.unit, x02, PUnit.unit, x04, x05, x06, x07, x08,
 IntKind.i64.wrap (x09 + (1 : Int)), PUnit.unit),
 (x10, x11, x12, x13, PUnit.unit), x2,
 x3.set y.toNat (CVal.agg (CVal.bool true :: List.drop (1 : Nat) y_1.cells)), PUnit.unit))
 none))
 none)
 none))
 none)
 none)
 (some
 (LO.out (2 : Nat)
 ((PUnit.unit, PUnit.unit, x02, PUnit.unit, x04, x05, x06, x07, x08, x09, PUnit.unit),
 (x10, x11, x12, x13, PUnit.unit), x2, x3, PUnit.unit)))
theorem el_i_LiveOk_2 (C : CallT) (L : LoopT) (x02 : List CVal) (x04 : List CVal) (x05 : Int) (x06 : Int) (x07 : List CVal) (x08 : Int) (x09 : Int) (x10 : Int) (x11 : Int) (x12 : Int) (x13 : List CVal) (x2 : List CVal) (x3 : List CVal) : evL E N C L f_i_LiveOk 2 lc_i_LiveOk_2 [] k_i_LiveOk_2 (((), (), x02, (), x04, x05, x06, x07, x08, x09, ()), (x10, x11, x12, x13, ()), x2, x3, ()) = nl_i_LiveOk_2 C L x02 x04 x05 x06 x07 x08 x09 x10 x11 x12 x13 x2 x3 := by kernel_rfl
theorem gl_i_LiveOk_2 (x02 : List CVal) (x04 : List CVal) (x05 : Int) (x06 : Int) (x07 : List CVal) (x08 : Int) (x09 : Int) (x10 : Int) (x11 : Int) (x12 : Int) (x13 : List CVal) (x2 : List CVal) (x3 : List CVal) (R : LO k_i_LiveOk_2.T) (h : nl_i_LiveOk_2 CC LL x02 x04 x05 x06 x07 x08 x09 x10 x11 x12 x13 x2 x3 = some R) : LL f_i_LiveOk 2 lc_i_LiveOk_2 [] k_i_LiveOk_2 (((), (), x02, (), x04, x05, x06, x07, x08, x09, ()), (x10, x11, x12, x13, ()), x2, x3, ()) = some R := loopW ((el_i_LiveOk_2 CC LL x02 x04 x05 x06 x07 x08 x09 x10 x11 x12 x13 x2 x3).trans h)
noncomputable def nl_l_markIntSS_0 (C : CallT) (L : LoopT) (x01 : Int) (x02 : Int) (x1 : List CVal) : Option (LO k_l_markIntSS_0.T) :=
 br (decide (x02 < (↑x1.length : Int)))
 (br (decide ((0 : Int) ≤ x02) && true)
 (br (decide (x02.toNat < x1.length) && true)
 (x1[x02.toNat]?.bind fun y =>
 (y.cell (0 : Nat)).bind fun c =>
 c.asSl.bind fun xs =>
 x1[x02.toNat]?.bind fun y =>
 (y.cell (0 : Nat)).bind fun c =>
 c.asSl.bind fun xs =>
 br (xs.all (CVal.fits false (1 : Nat)))
 ((C f_l_markIntS [AVal.lref (0 : Nat) (0 : Nat), AVal.v (CVal.int IntKind.i64 x01)]
 [PB.arr (Md.mk true true (0 : Nat)) false (1 : Nat) xs]).bind
 fun r =>
 r.2[(0 : Nat)]?.bind fun y_1 =>
 (CVal.asInt IntKind.i64 r.1).bind fun n =>
 L f_l_markIntSS (0 : Nat) lc_l_markIntSS_0
 [PSh.arr (Md.mk true true (0 : Nat)) false (1 : Nat)] k_l_markIntSS_0
 ((PUnit.unit, n, IntKind.i64.wrap (x02 + (1 : Int)), PUnit.unit),
 x1.set x02.toNat (y.putCell (0 : Nat) (CVal.sl y_1)), PUnit.unit))
 none)
 none)
 none)
 (some (LO.out (0 : Nat) ((PUnit.unit, x01, x02, PUnit.unit), x1, PUnit.unit)))
theorem el_l_markIntSS_0 (C : CallT) (L : LoopT) (x01 : Int) (x02 : Int) (x1 : List CVal) : evL E N C L f_l_markIntSS 0 lc_l_markIntSS_0 [PSh.arr (Md.mk true true (0 : Nat)) false (1 : Nat)] k_l_markIntSS_0 (((), x01, x02, ()), x1, ()) = nl_l_markIntSS_0 C L x01 x02 x1 := by kernel_rfl
theorem gl_l_markIntSS_0 (x01 : Int) (x02 : Int) (x1 : List CVal) (R : LO k_l_markIntSS_0.T) (h : nl_l_markIntSS_0 CC LL x01 x02 x1 = some R) : LL f_l_markIntSS 0 lc_l_markIntSS_0 [PSh.arr (Md.mk true true (0 : Nat)) false (1 : Nat)] k_l_markIntSS_0 (((), x01, x02, ()), x1, ()) = some R := loopW ((el_l_markIntSS_0 CC LL x01 x02 x1).trans h)
noncomputable def nl_l_toIntS_0 (C : CallT) (L : LoopT) (x00 : List CVal) (x02 : Int) (x1 : List CVal) : Option (LO k_l_toIntS_0.T) :=
 br (decide (x02 < (↑x00.length : Int)))
 (br (decide ((0 : Int) ≤ x02) && true)
 (x00[x02.toNat]?.bind fun y =>
 br (CVal.fits false (1 : Nat) y)
 ((y.cell (0 : Nat)).bind fun c =>
 br (decide ((0 : Int) ≤ x02) && true)
 (br (decide (x02.toNat < x1.length) && true)
 (br (c.isFlat && true)
 ((CVal.asInt IntKind.i64 c).bind fun n =>
 x1[x02.toNat]?.bind fun y =>
 br (CVal.fits false (1 : Nat) y)
 (L f_l_toIntS (0 : Nat) lc_l_toIntS_0 [] k_l_toIntS_0
 ((x00, PUnit.unit, IntKind.i64.wrap (x02 + (1 : Int)), PUnit.unit),
 x1.set x02.toNat (CVal.int IntKind.i64 n), PUnit.unit))
 (br (y.isAgg && decide ((1 : Nat) ≤ y.cells.length))
 (L f_l_toIntS (0 : Nat) lc_l_toIntS_0 [] k_l_toIntS_0
 ((x00, PUnit.unit, IntKind.i64.wrap (x02 + (1 : Int)), PUnit.unit),
 x1.set x02.toNat (CVal.agg (CVal.int IntKind.i64 n :: List.drop (1 : Nat) y.cells)),
 PUnit.unit))
 none))
 none)
 none)
 none)
 none)
 none)
 (some (LO.out (0 : Nat) ((x00, PUnit.unit, x02, PUnit.unit), x1, PUnit.unit)))
theorem el_l_toIntS_0 (C : CallT) (L : LoopT) (x00 : List CVal) (x02 : Int) (x1 : List CVal) : evL E N C L f_l_toIntS 0 lc_l_toIntS_0 [] k_l_toIntS_0 ((x00, (), x02, ()), x1, ()) = nl_l_toIntS_0 C L x00 x02 x1 := by kernel_rfl
theorem gl_l_toIntS_0 (x00 : List CVal) (x02 : Int) (x1 : List CVal) (R : LO k_l_toIntS_0.T) (h : nl_l_toIntS_0 CC LL x00 x02 x1 = some R) : LL f_l_toIntS 0 lc_l_toIntS_0 [] k_l_toIntS_0 ((x00, (), x02, ()), x1, ()) = some R := loopW ((el_l_toIntS_0 CC LL x00 x02 x1).trans h)
noncomputable def nl_s_l10Node_0 (C : CallT) (L : LoopT) (x01 : Int) (x02 : List CVal) (x03 : Int) (x10 : Int) (x11 : Int) (x12 : Int) (x13 : List CVal) (x15 : Bool) (x3 : List CVal) : Option (LO k_s_l10Node_0.T) :=
 br (decide (x03 < (↑x02.length : Int)))
 (br (decide ((0 : Int) ≤ x03) && true)
 (x02[x03.toNat]?.bind fun y =>
 br (CVal.fits false (1 : Nat) y)
 ((y.cell (0 : Nat)).bind fun c =>
 (C f_s_l10Set [AVal.lptr (0 : Nat) (0 : Nat), AVal.v (CVal.int IntKind.i64 x01), AVal.v c]
 [PB.box
 [AVal.v (CVal.int IntKind.i64 x10), AVal.v (CVal.int IntKind.i64 x11),
 AVal.v (CVal.int IntKind.i64 x12), AVal.v (CVal.sl x13), AVal.lref (1 : Nat) (0 : Nat),
 AVal.v (CVal.bool x15)],
 PB.arr (Md.mk true false (0 : Nat)) true (1 : Nat) x3]).bind
 fun r =>
 r.2[(0 : Nat)]?.bind fun y =>
 r.2[(1 : Nat)]?.bind fun y_1 =>
 y[(0 : Nat)]?.bind fun y_2 =>
 y[(1 : Nat)]?.bind fun y_3 =>
 y[(2 : Nat)]?.bind fun y_4 =>
 y[(3 : Nat)]?.bind fun y_5 =>
 y[(4 : Nat)]?.bind fun y_6 =>
 y[(5 : Nat)]?.bind fun y =>
 y_6.asSl.bind fun xs =>
 (CVal.asInt IntKind.i64 y_2).bind fun n =>
 (CVal.asInt IntKind.i64 y_3).bind fun n_1 =>
 (CVal.asInt IntKind.i64 y_4).bind fun n_2 =>
 y_5.asSl.bind fun xs_1 =>
 y.asBool.bind fun b =>
 L f_s_l10Node (0 : Nat) lc_s_l10Node_0
 [PSh.box [none, none, none, none, some (1 : Nat), none],
 PSh.arr (Md.mk true false (0 : Nat)) true (1 : Nat)]
 k_s_l10Node_0
 ((PUnit.unit, x01, x02, IntKind.i64.wrap (x03 + (1 : Int)), PUnit.unit),
 (n, n_1, n_2, xs_1, PUnit.unit, b, PUnit.unit), PUnit.unit, xs, PUnit.unit))
 none)
 none)
 (some
 (LO.out (0 : Nat)
 ((PUnit.unit, x01, x02, x03, PUnit.unit), (x10, x11, x12, x13, PUnit.unit, x15, PUnit.unit), PUnit.unit, x3,
 PUnit.unit)))
theorem el_s_l10Node_0 (C : CallT) (L : LoopT) (x01 : Int) (x02 : List CVal) (x03 : Int) (x10 : Int) (x11 : Int) (x12 : Int) (x13 : List CVal) (x15 : Bool) (x3 : List CVal) : evL E N C L f_s_l10Node 0 lc_s_l10Node_0 [PSh.box [none, none, none, none, some (1 : Nat), none], PSh.arr (Md.mk true false (0 : Nat)) true (1 : Nat)] k_s_l10Node_0 (((), x01, x02, x03, ()), (x10, x11, x12, x13, (), x15, ()), (), x3, ()) = nl_s_l10Node_0 C L x01 x02 x03 x10 x11 x12 x13 x15 x3 := by kernel_rfl
theorem gl_s_l10Node_0 (x01 : Int) (x02 : List CVal) (x03 : Int) (x10 : Int) (x11 : Int) (x12 : Int) (x13 : List CVal) (x15 : Bool) (x3 : List CVal) (R : LO k_s_l10Node_0.T) (h : nl_s_l10Node_0 CC LL x01 x02 x03 x10 x11 x12 x13 x15 x3 = some R) : LL f_s_l10Node 0 lc_s_l10Node_0 [PSh.box [none, none, none, none, some (1 : Nat), none], PSh.arr (Md.mk true false (0 : Nat)) true (1 : Nat)] k_s_l10Node_0 (((), x01, x02, x03, ()), (x10, x11, x12, x13, (), x15, ()), (), x3, ()) = some R := loopW ((el_s_l10Node_0 CC LL x01 x02 x03 x10 x11 x12 x13 x15 x3).trans h)
noncomputable def nl_l_eqIntS_0 (C : CallT) (L : LoopT) (x00 : List CVal) (x01 : List CVal) (x02 : Int) : Option (LO k_l_eqIntS_0.T) :=
 br (decide (x02 < (↑x00.length : Int)))
 (br (decide ((0 : Int) ≤ x02) && true)
 (x00[x02.toNat]?.bind fun y =>
 br (CVal.fits false (1 : Nat) y)
 ((y.cell (0 : Nat)).bind fun c =>
 br (decide ((0 : Int) ≤ x02) && true)
 (x01[x02.toNat]?.bind fun y =>
 br (CVal.fits false (1 : Nat) y)
 ((y.cell (0 : Nat)).bind fun c_1 =>
 (CVal.asInt IntKind.i64 c).bind fun n =>
 (CVal.asInt IntKind.i64 c_1).bind fun n_1 =>
 br (!decide (n = n_1)) (some (LO.ret (CVal.bool false, [])))
 (L f_l_eqIntS (0 : Nat) lc_l_eqIntS_0 [] k_l_eqIntS_0
 ((x00, x01, IntKind.i64.wrap (x02 + (1 : Int)), PUnit.unit), PUnit.unit)))
 none)
 none)
 none)
 none)
 (some (LO.out (0 : Nat) ((x00, x01, x02, PUnit.unit), PUnit.unit)))
theorem el_l_eqIntS_0 (C : CallT) (L : LoopT) (x00 : List CVal) (x01 : List CVal) (x02 : Int) : evL E N C L f_l_eqIntS 0 lc_l_eqIntS_0 [] k_l_eqIntS_0 ((x00, x01, x02, ()), ()) = nl_l_eqIntS_0 C L x00 x01 x02 := by kernel_rfl
theorem gl_l_eqIntS_0 (x00 : List CVal) (x01 : List CVal) (x02 : Int) (R : LO k_l_eqIntS_0.T) (h : nl_l_eqIntS_0 CC LL x00 x01 x02 = some R) : LL f_l_eqIntS 0 lc_l_eqIntS_0 [] k_l_eqIntS_0 ((x00, x01, x02, ()), ()) = some R := loopW ((el_l_eqIntS_0 CC LL x00 x01 x02).trans h)
noncomputable def nl_s_l10Lists_0 (C : CallT) (L : LoopT) (x00 : List CVal) (x02 : Int) (x1 : List CVal) : Option (LO k_s_l10Lists_0.T) :=
 br (decide (x02 < (↑x00.length : Int)))
 ((L f_s_l10Lists (2 : Nat) lc_s_l10Lists_2 [] k_s_l10Lists_2
 ((x00, PUnit.unit, x02, PUnit.unit, (0 : Int), PUnit.unit), x1, [], PUnit.unit)).bind
 fun r =>
 loK r (fun r => some (LO.ret r)) fun j p =>
 br (j == (2 : Nat))
 (br (decide (List.length p.snd.1 + (1 : Nat) ≤ (4294967296 : Nat)) && true && true)
 (L f_s_l10Lists (0 : Nat) lc_s_l10Lists_0 [] k_s_l10Lists_0
 ((p.fst.1, PUnit.unit, IntKind.i64.wrap (p.fst.snd.snd.1 + (1 : Int)), PUnit.unit),
 p.snd.1 ++ [CVal.sl p.snd.snd.1], PUnit.unit))
 none)
 (br (j == (1 : Nat))
 (L f_s_l10Lists (0 : Nat) lc_s_l10Lists_0 [] k_s_l10Lists_0
 ((p.fst.1, PUnit.unit, IntKind.i64.wrap (p.fst.snd.snd.1 + (1 : Int)), PUnit.unit), p.snd.1, PUnit.unit))
 (some (LO.out j ((p.fst.1, PUnit.unit, p.fst.snd.snd.1, PUnit.unit), p.snd.1, PUnit.unit)))))
 (some (LO.out (0 : Nat) ((x00, PUnit.unit, x02, PUnit.unit), x1, PUnit.unit)))
theorem el_s_l10Lists_0 (C : CallT) (L : LoopT) (x00 : List CVal) (x02 : Int) (x1 : List CVal) : evL E N C L f_s_l10Lists 0 lc_s_l10Lists_0 [] k_s_l10Lists_0 ((x00, (), x02, ()), x1, ()) = nl_s_l10Lists_0 C L x00 x02 x1 := by kernel_rfl
theorem gl_s_l10Lists_0 (x00 : List CVal) (x02 : Int) (x1 : List CVal) (R : LO k_s_l10Lists_0.T) (h : nl_s_l10Lists_0 CC LL x00 x02 x1 = some R) : LL f_s_l10Lists 0 lc_s_l10Lists_0 [] k_s_l10Lists_0 ((x00, (), x02, ()), x1, ()) = some R := loopW ((el_s_l10Lists_0 CC LL x00 x02 x1).trans h)
noncomputable def nl_i_things_0 (C : CallT) (L : LoopT) (x01 : List CVal) (x02 : Int) (x03 : Int) (x1 : List CVal) : Option (LO k_i_things_0.T) :=
 br (decide (x03 < x02))
 (br (decide ((0 : Int) ≤ x03) && true)
 (x01[x03.toNat]?.bind fun y =>
 br (CVal.fits false (1 : Nat) y)
 ((y.cell (0 : Nat)).bind fun c =>
 c.asBool.bind fun b =>
 br b
 (br (decide (x1.length + (1 : Nat) ≤ (4294967296 : Nat)) && true && true)
 (L f_i_things (0 : Nat) lc_i_things_0 [] k_i_things_0
 ((PUnit.unit, x01, x02, IntKind.i64.wrap (x03 + (1 : Int)), PUnit.unit),
 x1 ++ [CVal.int IntKind.i64 x03], PUnit.unit))
 none)
 (L f_i_things (0 : Nat) lc_i_things_0 [] k_i_things_0
 ((PUnit.unit, x01, x02, IntKind.i64.wrap (x03 + (1 : Int)), PUnit.unit), x1, PUnit.unit)))
 none)
 none)
 (some (LO.out (0 : Nat) ((PUnit.unit, x01, x02, x03, PUnit.unit), x1, PUnit.unit)))
theorem el_i_things_0 (C : CallT) (L : LoopT) (x01 : List CVal) (x02 : Int) (x03 : Int) (x1 : List CVal) : evL E N C L f_i_things 0 lc_i_things_0 [] k_i_things_0 (((), x01, x02, x03, ()), x1, ()) = nl_i_things_0 C L x01 x02 x03 x1 := by kernel_rfl
theorem gl_i_things_0 (x01 : List CVal) (x02 : Int) (x03 : Int) (x1 : List CVal) (R : LO k_i_things_0.T) (h : nl_i_things_0 CC LL x01 x02 x03 x1 = some R) : LL f_i_things 0 lc_i_things_0 [] k_i_things_0 (((), x01, x02, x03, ()), x1, ()) = some R := loopW ((el_i_things_0 CC LL x01 x02 x03 x1).trans h)
noncomputable def nl_s_l9Ins_1 (C : CallT) (L : LoopT) (x02 : Int) (x10 : Int) (x11 : Int) (x12 : Int) (x13 : List CVal) (x20 : Int) (x21 : Int) (x22 : Int) (x23 : Int) (x24 : Int) (x25 : List CVal) (x26 : Int) : Option (LO k_s_l9Ins_1.T) :=
 br (decide (x02 < (↑x25.length : Int)))
 (br (decide ((0 : Int) ≤ x02) && true)
 (x25[x02.toNat]?.bind fun y =>
 br (CVal.fits false (1 : Nat) y)
 ((y.cell (0 : Nat)).bind fun c =>
 (C f_s_l1In
 [AVal.v c, AVal.v (CVal.int IntKind.i64 (0 : Int)),
 AVal.v (CVal.int IntKind.i64 (IntKind.i64.wrap (x12 - (1 : Int))))]
 []).bind
 fun r =>
 r.1.asBool.bind fun b =>
 br (!b) (some (LO.ret (CVal.bool false, [])))
 (L f_s_l9Ins (1 : Nat) lc_s_l9Ins_1 [] k_s_l9Ins_1
 ((PUnit.unit, PUnit.unit, IntKind.i64.wrap (x02 + (1 : Int)), PUnit.unit),
 (x10, x11, x12, x13, PUnit.unit), (x20, x21, x22, x23, x24, x25, x26, PUnit.unit), PUnit.unit)))
 none)
 none)
 (some
 (LO.out (1 : Nat)
 ((PUnit.unit, PUnit.unit, x02, PUnit.unit), (x10, x11, x12, x13, PUnit.unit),
 (x20, x21, x22, x23, x24, x25, x26, PUnit.unit), PUnit.unit)))
theorem el_s_l9Ins_1 (C : CallT) (L : LoopT) (x02 : Int) (x10 : Int) (x11 : Int) (x12 : Int) (x13 : List CVal) (x20 : Int) (x21 : Int) (x22 : Int) (x23 : Int) (x24 : Int) (x25 : List CVal) (x26 : Int) : evL E N C L f_s_l9Ins 1 lc_s_l9Ins_1 [] k_s_l9Ins_1 (((), (), x02, ()), (x10, x11, x12, x13, ()), (x20, x21, x22, x23, x24, x25, x26, ()), ()) = nl_s_l9Ins_1 C L x02 x10 x11 x12 x13 x20 x21 x22 x23 x24 x25 x26 := by kernel_rfl
theorem gl_s_l9Ins_1 (x02 : Int) (x10 : Int) (x11 : Int) (x12 : Int) (x13 : List CVal) (x20 : Int) (x21 : Int) (x22 : Int) (x23 : Int) (x24 : Int) (x25 : List CVal) (x26 : Int) (R : LO k_s_l9Ins_1.T) (h : nl_s_l9Ins_1 CC LL x02 x10 x11 x12 x13 x20 x21 x22 x23 x24 x25 x26 = some R) : LL f_s_l9Ins 1 lc_s_l9Ins_1 [] k_s_l9Ins_1 (((), (), x02, ()), (x10, x11, x12, x13, ()), (x20, x21, x22, x23, x24, x25, x26, ()), ()) = some R := loopW ((el_s_l9Ins_1 CC LL x02 x10 x11 x12 x13 x20 x21 x22 x23 x24 x25 x26).trans h)
noncomputable def nl_s_l10Guard_0 (C : CallT) (L : LoopT) (x00 : Int) (x03 : Int) (x10 : Int) (x11 : Int) (x12 : Int) (x13 : List CVal) (x2 : List CVal) : Option (LO k_s_l10Guard_0.T) :=
 (br (decide (x03 < x00)) (some (decide (x03 < (↑x13.length : Int)), PUnit.unit)) (some (false, PUnit.unit))).bind
 fun y =>
 br y.1
 (br (decide ((0 : Int) ≤ x03) && true)
 (x13[x03.toNat]?.bind fun y =>
 br (CVal.fits true (7 : Nat) y)
 ((y.cell (0 : Nat)).bind fun c =>
 (CVal.asInt IntKind.i64 c).bind fun n =>
 br (decide (n = (17 : Int)))
 (br (decide (x2.length + (1 : Nat) ≤ (4294967296 : Nat)) && true && true)
 (L f_s_l10Guard (0 : Nat) lc_s_l10Guard_0 [] k_s_l10Guard_0
 ((x00, PUnit.unit, PUnit.unit, IntKind.i64.wrap (x03 + (1 : Int)), PUnit.unit),
 (x10, x11, x12, x13, PUnit.unit), x2 ++ [CVal.int IntKind.i64 x03], PUnit.unit))
 none)
 ((CVal.asInt IntKind.i64 c).bind fun n =>
 br (decide (n = (18 : Int)))
 (br (decide ((0 : Int) < (↑x2.length : Int)))
 (br
 (decide ((0 : Int) ≤ IntKind.i64.wrap ((↑x2.length : Int) - (1 : Int))) &&
 decide (IntKind.i64.wrap ((↑x2.length : Int) - (1 : Int)) ≤ (↑x2.length : Int)) &&
 true)
 (L f_s_l10Guard (0 : Nat) lc_s_l10Guard_0 [] k_s_l10Guard_0
 ((x00, PUnit.unit, PUnit.unit, IntKind.i64.wrap (x03 + (1 : Int)), PUnit.unit),
 (x10, x11, x12, x13, PUnit.unit),
 List.take (IntKind.i64.wrap ((↑x2.length : Int) - (1 : Int))).toNat x2, PUnit.unit))
 none)
 (L f_s_l10Guard (0 : Nat) lc_s_l10Guard_0 [] k_s_l10Guard_0
 ((x00, PUnit.unit, PUnit.unit, IntKind.i64.wrap (x03 + (1 : Int)), PUnit.unit),
 (x10, x11, x12, x13, PUnit.unit), x2, PUnit.unit)))
 (L f_s_l10Guard (0 : Nat) lc_s_l10Guard_0 [] k_s_l10Guard_0
 ((x00, PUnit.unit, PUnit.unit, IntKind.i64.wrap (x03 + (1 : Int)), PUnit.unit),
 (x10, x11, x12, x13, PUnit.unit), x2, PUnit.unit))))
 none)
 none)
 (some
 (LO.out (0 : Nat)
 ((x00, PUnit.unit, PUnit.unit, x03, PUnit.unit), (x10, x11, x12, x13, PUnit.unit), x2, PUnit.unit)))
theorem el_s_l10Guard_0 (C : CallT) (L : LoopT) (x00 : Int) (x03 : Int) (x10 : Int) (x11 : Int) (x12 : Int) (x13 : List CVal) (x2 : List CVal) : evL E N C L f_s_l10Guard 0 lc_s_l10Guard_0 [] k_s_l10Guard_0 ((x00, (), (), x03, ()), (x10, x11, x12, x13, ()), x2, ()) = nl_s_l10Guard_0 C L x00 x03 x10 x11 x12 x13 x2 := by kernel_rfl
theorem gl_s_l10Guard_0 (x00 : Int) (x03 : Int) (x10 : Int) (x11 : Int) (x12 : Int) (x13 : List CVal) (x2 : List CVal) (R : LO k_s_l10Guard_0.T) (h : nl_s_l10Guard_0 CC LL x00 x03 x10 x11 x12 x13 x2 = some R) : LL f_s_l10Guard 0 lc_s_l10Guard_0 [] k_s_l10Guard_0 ((x00, (), (), x03, ()), (x10, x11, x12, x13, ()), x2, ()) = some R := loopW ((el_s_l10Guard_0 CC LL x00 x03 x10 x11 x12 x13 x2).trans h)
noncomputable def nl_s_l10Add_0 (C : CallT) (L : LoopT) (x00 : List CVal) (x01 : Int) (x03 : Bool) (x04 : Int) (x1 : List CVal) : Option (LO k_s_l10Add_0.T) :=
 br (decide (x04 < (↑x00.length : Int)))
 ((br (!x03)
 (br (decide ((0 : Int) ≤ x04) && true)
 (x00[x04.toNat]?.bind fun y =>
 br (CVal.fits false (1 : Nat) y)
 ((y.cell (0 : Nat)).bind fun c =>
 (CVal.asInt IntKind.i64 c).bind fun n => some (decide (x01 ≤ n), PUnit.unit))
 none)
 none)
 (some (false, PUnit.unit))).bind
 fun y =>
 br y.1
 (br (decide (x1.length + (1 : Nat) ≤ (4294967296 : Nat)) && true && true)
 (br (decide ((0 : Int) ≤ x04) && true)
 (x00[x04.toNat]?.bind fun y =>
 br (CVal.fits false (1 : Nat) y)
 ((y.cell (0 : Nat)).bind fun c =>
 (CVal.asInt IntKind.i64 c).bind fun n =>
 br (!decide (n = x01))
 (br (decide ((0 : Int) ≤ x04) && true)
 (x00[x04.toNat]?.bind fun y =>
 br (CVal.fits false (1 : Nat) y)
 ((y.cell (0 : Nat)).bind fun c =>
 br (c.isFlat && true)
 ((CVal.asInt IntKind.i64 c).bind fun n =>
 br
 (decide
 ((x1 ++ [CVal.int IntKind.i64 x01]).length + (1 : Nat) ≤ (4294967296 : Nat)) &&
 true &&
 true)
 (L f_s_l10Add (0 : Nat) lc_s_l10Add_0 [] k_s_l10Add_0
 ((x00, x01, PUnit.unit, true, IntKind.i64.wrap (x04 + (1 : Int)), PUnit.unit),
 x1 ++ [CVal.int IntKind.i64 x01] ++ [CVal.int IntKind.i64 n], PUnit.unit))
 none)
 none)
 none)
 none)
 (L f_s_l10Add (0 : Nat) lc_s_l10Add_0 [] k_s_l10Add_0
 ((x00, x01, PUnit.unit, true, IntKind.i64.wrap (x04 + (1 : Int)), PUnit.unit),
 x1 ++ [CVal.int IntKind.i64 x01], PUnit.unit)))
 none)
 none)
 none)
 (br (decide ((0 : Int) ≤ x04) && true)
 (x00[x04.toNat]?.bind fun y =>
 br (CVal.fits false (1 : Nat) y)
 ((y.cell (0 : Nat)).bind fun c =>
 (CVal.asInt IntKind.i64 c).bind fun n =>
 br (!decide (n = x01))
 (br (decide ((0 : Int) ≤ x04) && true)
 (x00[x04.toNat]?.bind fun y =>
 br (CVal.fits false (1 : Nat) y)
 ((y.cell (0 : Nat)).bind fun c =>
 br (c.isFlat && true)
 ((CVal.asInt IntKind.i64 c).bind fun n =>
 br (decide (x1.length + (1 : Nat) ≤ (4294967296 : Nat)) && true && true)
 (L f_s_l10Add (0 : Nat) lc_s_l10Add_0 [] k_s_l10Add_0
 ((x00, x01, PUnit.unit, x03, IntKind.i64.wrap (x04 + (1 : Int)), PUnit.unit),
 x1 ++ [CVal.int IntKind.i64 n], PUnit.unit))
 none)
 none)
 none)
 none)
 (L f_s_l10Add (0 : Nat) lc_s_l10Add_0 [] k_s_l10Add_0
 ((x00, x01, PUnit.unit, x03, IntKind.i64.wrap (x04 + (1 : Int)), PUnit.unit), x1, PUnit.unit)))
 none)
 none))
 (some (LO.out (0 : Nat) ((x00, x01, PUnit.unit, x03, x04, PUnit.unit), x1, PUnit.unit)))
theorem el_s_l10Add_0 (C : CallT) (L : LoopT) (x00 : List CVal) (x01 : Int) (x03 : Bool) (x04 : Int) (x1 : List CVal) : evL E N C L f_s_l10Add 0 lc_s_l10Add_0 [] k_s_l10Add_0 ((x00, x01, (), x03, x04, ()), x1, ()) = nl_s_l10Add_0 C L x00 x01 x03 x04 x1 := by kernel_rfl
theorem gl_s_l10Add_0 (x00 : List CVal) (x01 : Int) (x03 : Bool) (x04 : Int) (x1 : List CVal) (R : LO k_s_l10Add_0.T) (h : nl_s_l10Add_0 CC LL x00 x01 x03 x04 x1 = some R) : LL f_s_l10Add 0 lc_s_l10Add_0 [] k_s_l10Add_0 ((x00, x01, (), x03, x04, ()), x1, ()) = some R := loopW ((el_s_l10Add_0 CC LL x00 x01 x03 x04 x1).trans h)
noncomputable def nl_slices_Index_byte_0 (C : CallT) (L : LoopT) (x00 : List CVal) (x01 : Int) (x02 : Int) (x03 : Int) : Option (LO k_slices_Index_byte_0.T) :=
 br (decide (x03 < x02))
 (br (decide ((0 : Int) ≤ x03) && true)
 (x00[x03.toNat]?.bind fun y =>
 br (CVal.fits false (1 : Nat) y)
 ((y.cell (0 : Nat)).bind fun c =>
 (CVal.asInt IntKind.u8 c).bind fun n =>
 br (decide (x01 = n)) (some (LO.ret (CVal.int IntKind.i64 x03, [])))
 (L f_slices_Index_byte (0 : Nat) lc_slices_Index_byte_0 [] k_slices_Index_byte_0
 ((x00, x01, x02, IntKind.i64.wrap (x03 + (1 : Int)), PUnit.unit), PUnit.unit)))
 none)
 none)
 (some (LO.out (0 : Nat) ((x00, x01, x02, x03, PUnit.unit), PUnit.unit)))
theorem el_slices_Index_byte_0 (C : CallT) (L : LoopT) (x00 : List CVal) (x01 : Int) (x02 : Int) (x03 : Int) : evL E N C L f_slices_Index_byte 0 lc_slices_Index_byte_0 [] k_slices_Index_byte_0 ((x00, x01, x02, x03, ()), ()) = nl_slices_Index_byte_0 C L x00 x01 x02 x03 := by kernel_rfl
theorem gl_slices_Index_byte_0 (x00 : List CVal) (x01 : Int) (x02 : Int) (x03 : Int) (R : LO k_slices_Index_byte_0.T) (h : nl_slices_Index_byte_0 CC LL x00 x01 x02 x03 = some R) : LL f_slices_Index_byte 0 lc_slices_Index_byte_0 [] k_slices_Index_byte_0 ((x00, x01, x02, x03, ()), ()) = some R := loopW ((el_slices_Index_byte_0 CC LL x00 x01 x02 x03).trans h)
end Go.Proofs.Ytmjjaoffeajcbaa.Abs
