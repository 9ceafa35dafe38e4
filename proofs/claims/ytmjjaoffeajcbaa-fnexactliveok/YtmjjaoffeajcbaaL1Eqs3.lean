/- What the functions come to in the abstract machine. -/
import Derived.Test.YtmjjaoffeajcbaaL1Ann
import Derived.KernelRfl
set_option linter.unusedVariables false
set_option maxRecDepth 100000
namespace Go.Proofs.Ytmjjaoffeajcbaa.Abs
open Go Go.Proofs
noncomputable def nf_l_szIntSS (C : CallT) (L : LoopT) (a : List CVal) (b : Int) : Option Ret :=
 br (decide (IntKind.i64.wrap (b - (↑a.length : Int)) < (0 : Int))) (some (CVal.int IntKind.i64 (-1 : Int), []))
 ((L f_l_szIntSS (0 : Nat) lc_l_szIntSS_0 [] k_l_szIntSS_0
 ((a, IntKind.i64.wrap (b - (↑a.length : Int)), (0 : Int), PUnit.unit), PUnit.unit)).bind
 fun r => loK r (fun r => some r) fun j p => br (j == (0 : Nat)) (some (CVal.int IntKind.i64 p.fst.snd.1, [])) none)
theorem eq_l_szIntSS (C : CallT) (L : LoopT) (a : List CVal) (b : Int) : evF E N C L f_l_szIntSS [AVal.v (CVal.sl a), AVal.v (CVal.int IntKind.i64 b)] [] = nf_l_szIntSS C L a b := by kernel_rfl
theorem go_l_szIntSS (a : List CVal) (b : Int) (R : Ret) (h : nf_l_szIntSS CC LL a b = some R) : CC f_l_szIntSS [AVal.v (CVal.sl a), AVal.v (CVal.int IntKind.i64 b)] [] = some R := fnW (by decide) rfl ((eq_l_szIntSS CC LL a b).trans h)
noncomputable def nf_i_LiveOk (C : CallT) (L : LoopT) (a0 : Int) (a1 : Int) (a2 : Int) (a3 : List CVal) (b : List CVal) : Option Ret :=
 ((C f_i_pieceOk
 [AVal.v (CVal.agg [CVal.int IntKind.i64 a0, CVal.int IntKind.i64 a1, CVal.int IntKind.i64 a2, CVal.sl a3])]
 []).bind
 fun r =>
 r.1.asBool.bind fun b_1 =>
 br (!b_1) (some (true, PUnit.unit)) (some (!decide ((↑b.length : Int) = (↑a3.length : Int)), PUnit.unit))).bind
 fun y =>
 br y.1 (some (CVal.bool false, []))
 ((L f_i_LiveOk (0 : Nat) lc_i_LiveOk_0 [] k_i_LiveOk_0
 ((PUnit.unit, PUnit.unit, b, (↑b.length : Int), (0 : Int), PUnit.unit), (a0, a1, a2, a3, PUnit.unit), [],
 PUnit.unit)).bind
 fun r =>
 loK r (fun r => some r) fun j p =>
 br (j == (0 : Nat))
 ((L f_i_LiveOk (4 : Nat) lc_i_LiveOk_4 [] k_i_LiveOk_4
 ((PUnit.unit, PUnit.unit, (↑(List.length p.snd.fst.snd.snd.snd.1) : Int), (0 : Int), PUnit.unit),
 (p.snd.fst.1, p.snd.fst.snd.1, p.snd.fst.snd.snd.1, p.snd.fst.snd.snd.snd.1, PUnit.unit), p.snd.snd.1,
 PUnit.unit)).bind
 fun r => loK r (fun r => some r) fun j p => br (j == (4 : Nat)) (some (CVal.bool true, [])) none)
 none)
theorem eq_i_LiveOk (C : CallT) (L : LoopT) (a0 : Int) (a1 : Int) (a2 : Int) (a3 : List CVal) (b : List CVal) : evF E N C L f_i_LiveOk [AVal.v (CVal.agg [CVal.int IntKind.i64 a0, CVal.int IntKind.i64 a1, CVal.int IntKind.i64 a2, CVal.sl a3]),
 AVal.v (CVal.sl b)] [] = nf_i_LiveOk C L a0 a1 a2 a3 b := by kernel_rfl
theorem go_i_LiveOk (a0 : Int) (a1 : Int) (a2 : Int) (a3 : List CVal) (b : List CVal) (R : Ret) (h : nf_i_LiveOk CC LL a0 a1 a2 a3 b = some R) : CC f_i_LiveOk [AVal.v (CVal.agg [CVal.int IntKind.i64 a0, CVal.int IntKind.i64 a1, CVal.int IntKind.i64 a2, CVal.sl a3]),
 AVal.v (CVal.sl b)] [] = some R := fnW (by decide) rfl ((eq_i_LiveOk CC LL a0 a1 a2 a3 b).trans h)
noncomputable def nf_i_Live (C : CallT) (L : LoopT) (a0 : Int) (a1 : Int) (a2 : Int) (a3 : List CVal) : Option Ret :=
 (C f_i_pieceOk
 [AVal.v (CVal.agg [CVal.int IntKind.i64 a0, CVal.int IntKind.i64 a1, CVal.int IntKind.i64 a2, CVal.sl a3])]
 []).bind
 fun r =>
 r.1.asBool.bind fun b =>
 br (!b) (some (CVal.sl [], []))
 ((C f_i_liveSets
 [AVal.v (CVal.agg [CVal.int IntKind.i64 a0, CVal.int IntKind.i64 a1, CVal.int IntKind.i64 a2, CVal.sl a3])]
 []).bind
 fun r =>
 r.1.asSl.bind fun xs =>
 r.1.asSl.bind fun xs_1 =>
 (L f_i_Live (0 : Nat) lc_i_Live_0 [] k_i_Live_0
 ((PUnit.unit, xs_1, (↑xs.length : Int), (0 : Int), PUnit.unit), [], PUnit.unit)).bind
 fun r => loK r (fun r => some r) fun j p => br (j == (0 : Nat)) (some (CVal.sl p.snd.1, [])) none)
theorem eq_i_Live (C : CallT) (L : LoopT) (a0 : Int) (a1 : Int) (a2 : Int) (a3 : List CVal) : evF E N C L f_i_Live [AVal.v (CVal.agg [CVal.int IntKind.i64 a0, CVal.int IntKind.i64 a1, CVal.int IntKind.i64 a2, CVal.sl a3])] [] = nf_i_Live C L a0 a1 a2 a3 := by kernel_rfl
theorem go_i_Live (a0 : Int) (a1 : Int) (a2 : Int) (a3 : List CVal) (R : Ret) (h : nf_i_Live CC LL a0 a1 a2 a3 = some R) : CC f_i_Live [AVal.v (CVal.agg [CVal.int IntKind.i64 a0, CVal.int IntKind.i64 a1, CVal.int IntKind.i64 a2, CVal.sl a3])] [] = some R := fnW (by decide) rfl ((eq_i_Live CC LL a0 a1 a2 a3).trans h)
noncomputable def nf_l_szInsS (C : CallT) (L : LoopT) (a : List CVal) (b : Int) : Option Ret :=
 br (decide (IntKind.i64.wrap (b - (↑a.length : Int)) < (0 : Int))) (some (CVal.int IntKind.i64 (-1 : Int), []))
 ((L f_l_szInsS (0 : Nat) lc_l_szInsS_0 [] k_l_szInsS_0
 ((a, IntKind.i64.wrap (b - (↑a.length : Int)), (0 : Int), PUnit.unit), PUnit.unit)).bind
 fun r => loK r (fun r => some r) fun j p => br (j == (0 : Nat)) (some (CVal.int IntKind.i64 p.fst.snd.1, [])) none)
theorem eq_l_szInsS (C : CallT) (L : LoopT) (a : List CVal) (b : Int) : evF E N C L f_l_szInsS [AVal.v (CVal.sl a), AVal.v (CVal.int IntKind.i64 b)] [] = nf_l_szInsS C L a b := by kernel_rfl
theorem go_l_szInsS (a : List CVal) (b : Int) (R : Ret) (h : nf_l_szInsS CC LL a b = some R) : CC f_l_szInsS [AVal.v (CVal.sl a), AVal.v (CVal.int IntKind.i64 b)] [] = some R := fnW (by decide) rfl ((eq_l_szInsS CC LL a b).trans h)
noncomputable def nf_s_l9Piece (C : CallT) (L : LoopT) (a0 : Int) (a1 : Int) (a2 : Int) (a3 : List CVal) : Option Ret :=
 ((C f_s_l1In
 [AVal.v (CVal.int IntKind.i64 a0), AVal.v (CVal.int IntKind.i64 (-1 : Int)),
 AVal.v (CVal.int IntKind.i64 (149 : Int))]
 []).bind
 fun r =>
 r.1.asBool.bind fun b =>
 br (!b) (some (true, PUnit.unit))
 (br (decide (a1 < (0 : Int))) (some (true, PUnit.unit))
 (br (decide (a0 < (0 : Int)))
 (br (!decide (a1 = (0 : Int))) (some (true, PUnit.unit))
 (br (decide ((0 : Int) ≤ a0))
 (br (decide (a1 < (1 : Int))) (some (true, PUnit.unit))
 ((C f_s_l1In
 [AVal.v (CVal.int IntKind.i64 a2), AVal.v (CVal.int IntKind.i64 a1),
 AVal.v (CVal.int IntKind.i64 (400 : Int))]
 []).bind
 fun r =>
 r.1.asBool.bind fun b =>
 br (!b) (some (true, PUnit.unit))
 ((C f_s_l1In
 [AVal.v (CVal.int IntKind.i64 (↑a3.length : Int)),
 AVal.v (CVal.int IntKind.i64 (1 : Int)), AVal.v (CVal.int IntKind.i64 (600 : Int))]
 []).bind
 fun r => r.1.asBool.bind fun b => some (!b, PUnit.unit))))
 ((C f_s_l1In
 [AVal.v (CVal.int IntKind.i64 a2), AVal.v (CVal.int IntKind.i64 a1),
 AVal.v (CVal.int IntKind.i64 (400 : Int))]
 []).bind
 fun r =>
 r.1.asBool.bind fun b =>
 br (!b) (some (true, PUnit.unit))
 ((C f_s_l1In
 [AVal.v (CVal.int IntKind.i64 (↑a3.length : Int)),
 AVal.v (CVal.int IntKind.i64 (1 : Int)), AVal.v (CVal.int IntKind.i64 (600 : Int))]
 []).bind
 fun r => r.1.asBool.bind fun b => some (!b, PUnit.unit)))))
 (br (decide ((0 : Int) ≤ a0))
 (br (decide (a1 < (1 : Int))) (some (true, PUnit.unit))
 ((C f_s_l1In
 [AVal.v (CVal.int IntKind.i64 a2), AVal.v (CVal.int IntKind.i64 a1),
 AVal.v (CVal.int IntKind.i64 (400 : Int))]
 []).bind
 fun r =>
 r.1.asBool.bind fun b =>
 br (!b) (some (true, PUnit.unit))
 ((C f_s_l1In
 [AVal.v (CVal.int IntKind.i64 (↑a3.length : Int)),
 AVal.v (CVal.int IntKind.i64 (1 : Int)), AVal.v (CVal.int IntKind.i64 (600 : Int))]
 []).bind
 fun r => r.1.asBool.bind fun b => some (!b, PUnit.unit))))
 ((C f_s_l1In
 [AVal.v (CVal.int IntKind.i64 a2), AVal.v (CVal.int IntKind.i64 a1),
 AVal.v (CVal.int IntKind.i64 (400 : Int))]
 []).bind
 fun r =>
 r.1.asBool.bind fun b =>
 br (!b) (some (true, PUnit.unit))
 ((C f_s_l1In
 [AVal.v (CVal.int IntKind.i64 (↑a3.length : Int)), AVal.v (CVal.int IntKind.i64 (1 : Int)),
 AVal.v (CVal.int IntKind.i64 (600 : Int))]
 []).bind
 fun r => r.1.asBool.bind fun b => some (!b, PUnit.unit))))))).bind
 fun y =>
 br y.1 (some (CVal.bool false, []))
 ((L f_s_l9Piece (0 : Nat) lc_s_l9Piece_0 [] k_s_l9Piece_0
 (((CVal.agg [CVal.int IntKind.i64 a0, CVal.int IntKind.i64 a1, CVal.int IntKind.i64 a2, CVal.sl a3]).fp
 (0 : Nat),
 (↑a3.length : Int), (0 : Int), PUnit.unit),
 PUnit.unit)).bind
 fun r =>
 loK r (fun r => some r) fun j p =>
 br (j == (0 : Nat))
 (((CVal.asFp p.fst.1).bind fun y =>
 (y.1.cell (y.2 + (3 : Nat))).bind fun c =>
 br (decide ((0 : Int) ≤ IntKind.i64.wrap (p.fst.snd.1 - (1 : Int))) && true)
 (c.asSl.bind fun xs =>
 xs[(IntKind.i64.wrap (p.fst.snd.1 - (1 : Int))).toNat]?.bind fun y =>
 br (CVal.fits true (7 : Nat) y)
 ((y.cell (0 : Nat)).bind fun c =>
 (CVal.asInt IntKind.i64 c).bind fun n =>
 br (decide (n = (15 : Int))) (some (true, PUnit.unit))
 ((CVal.asFp p.fst.1).bind fun y =>
 (y.1.cell (y.2 + (3 : Nat))).bind fun c =>
 br (decide ((0 : Int) ≤ IntKind.i64.wrap (p.fst.snd.1 - (1 : Int))) && true)
 (c.asSl.bind fun xs =>
 xs[(IntKind.i64.wrap (p.fst.snd.1 - (1 : Int))).toNat]?.bind fun y =>
 br (CVal.fits true (7 : Nat) y)
 ((y.cell (0 : Nat)).bind fun c =>
 (CVal.asInt IntKind.i64 c).bind fun n =>
 some (decide (n = (13 : Int)), PUnit.unit))
 none)
 none))
 none)
 none).bind
 fun y => some (CVal.bool y.1, []))
 none)
theorem eq_s_l9Piece (C : CallT) (L : LoopT) (a0 : Int) (a1 : Int) (a2 : Int) (a3 : List CVal) : evF E N C L f_s_l9Piece [AVal.v (CVal.agg [CVal.int IntKind.i64 a0, CVal.int IntKind.i64 a1, CVal.int IntKind.i64 a2, CVal.sl a3])] [] = nf_s_l9Piece C L a0 a1 a2 a3 := by kernel_rfl
theorem go_s_l9Piece (a0 : Int) (a1 : Int) (a2 : Int) (a3 : List CVal) (R : Ret) (h : nf_s_l9Piece CC LL a0 a1 a2 a3 = some R) : CC f_s_l9Piece [AVal.v (CVal.agg [CVal.int IntKind.i64 a0, CVal.int IntKind.i64 a1, CVal.int IntKind.i64 a2, CVal.sl a3])] [] = some R := fnW (by decide) rfl ((eq_s_l9Piece CC LL a0 a1 a2 a3).trans h)
noncomputable def nf_i_pieceOk (C : CallT) (L : LoopT) (a0 : Int) (a1 : Int) (a2 : Int) (a3 : List CVal) : Option Ret :=
 ((C f_i_in
 [AVal.v (CVal.int IntKind.i64 (↑a3.length : Int)), AVal.v (CVal.int IntKind.i64 (1 : Int)),
 AVal.v (CVal.int IntKind.i64 (600 : Int))]
 []).bind
 fun r =>
 r.1.asBool.bind fun b =>
 br (!b) (some (true, PUnit.unit))
 ((C f_i_lamOk
 [AVal.v
 (CVal.agg [CVal.int IntKind.i64 a0, CVal.int IntKind.i64 a1, CVal.int IntKind.i64 a2, CVal.sl a3])]
 []).bind
 fun r =>
 r.1.asBool.bind fun b =>
 br (!b) (some (true, PUnit.unit))
 ((C f_i_in
 [AVal.v (CVal.int IntKind.i64 a2), AVal.v (CVal.int IntKind.i64 a1),
 AVal.v (CVal.int IntKind.i64 (400 : Int))]
 []).bind
 fun r =>
 r.1.asBool.bind fun b =>
 br (!b) (some (true, PUnit.unit))
 ((C f_slices_ContainsFunc_Ins
 [AVal.v (CVal.sl a3),
 AVal.v
 (CVal.func f_i_pieceOk_1
 [(CVal.agg
 [CVal.int IntKind.i64 a0, CVal.int IntKind.i64 a1, CVal.int IntKind.i64 a2,
 CVal.sl a3]).fp
 (0 : Nat)])]
 []).bind
 fun r =>
 (bif false then CVal.bool true else r.1).asBool.bind fun b => some (b, PUnit.unit))))).bind
 fun y =>
 br y.1 (some (CVal.bool false, []))
 ((br (decide ((0 : Int) ≤ IntKind.i64.wrap ((↑a3.length : Int) - (1 : Int))) && true)
 (a3[(IntKind.i64.wrap ((↑a3.length : Int) - (1 : Int))).toNat]?.bind fun y =>
 br (CVal.fits true (7 : Nat) y)
 ((y.cell (0 : Nat)).bind fun c =>
 (CVal.asInt IntKind.i64 c).bind fun n =>
 br (decide (n = (15 : Int))) (some (true, PUnit.unit))
 (br (decide ((0 : Int) ≤ IntKind.i64.wrap ((↑a3.length : Int) - (1 : Int))) && true)
 (a3[(IntKind.i64.wrap ((↑a3.length : Int) - (1 : Int))).toNat]?.bind fun y =>
 br (CVal.fits true (7 : Nat) y)
 ((y.cell (0 : Nat)).bind fun c =>
 (CVal.asInt IntKind.i64 c).bind fun n => some (decide (n = (13 : Int)), PUnit.unit))
 none)
 none))
 none)
 none).bind
 fun y => some (CVal.bool y.1, []))
theorem eq_i_pieceOk (C : CallT) (L : LoopT) (a0 : Int) (a1 : Int) (a2 : Int) (a3 : List CVal) : evF E N C L f_i_pieceOk [AVal.v (CVal.agg [CVal.int IntKind.i64 a0, CVal.int IntKind.i64 a1, CVal.int IntKind.i64 a2, CVal.sl a3])] [] = nf_i_pieceOk C L a0 a1 a2 a3 := by kernel_rfl
theorem go_i_pieceOk (a0 : Int) (a1 : Int) (a2 : Int) (a3 : List CVal) (R : Ret) (h : nf_i_pieceOk CC LL a0 a1 a2 a3 = some R) : CC f_i_pieceOk [AVal.v (CVal.agg [CVal.int IntKind.i64 a0, CVal.int IntKind.i64 a1, CVal.int IntKind.i64 a2, CVal.sl a3])] [] = some R := fnW (by decide) rfl ((eq_i_pieceOk CC LL a0 a1 a2 a3).trans h)
noncomputable def nf_l_eqIntS (C : CallT) (L : LoopT) (a : List CVal) (b : List CVal) : Option Ret :=
 br (!decide ((↑a.length : Int) = (↑b.length : Int))) (some (CVal.bool false, []))
 ((L f_l_eqIntS (0 : Nat) lc_l_eqIntS_0 [] k_l_eqIntS_0 ((a, b, (0 : Int), PUnit.unit), PUnit.unit)).bind fun r =>
 loK r (fun r => some r) fun j p => br (j == (0 : Nat)) (some (CVal.bool true, [])) none)
theorem eq_l_eqIntS (C : CallT) (L : LoopT) (a : List CVal) (b : List CVal) : evF E N C L f_l_eqIntS [AVal.v (CVal.sl a), AVal.v (CVal.sl b)] [] = nf_l_eqIntS C L a b := by kernel_rfl
theorem go_l_eqIntS (a : List CVal) (b : List CVal) (R : Ret) (h : nf_l_eqIntS CC LL a b = some R) : CC f_l_eqIntS [AVal.v (CVal.sl a), AVal.v (CVal.sl b)] [] = some R := fnW (by decide) rfl ((eq_l_eqIntS CC LL a b).trans h)
noncomputable def nf_i_things (C : CallT) (L : LoopT) (a : List CVal) : Option Ret :=
 (L f_i_things (0 : Nat) lc_i_things_0 [] k_i_things_0
 ((PUnit.unit, a, (↑a.length : Int), (0 : Int), PUnit.unit), [], PUnit.unit)).bind
 fun r => loK r (fun r => some r) fun j p => br (j == (0 : Nat)) (some (CVal.sl p.snd.1, [])) none
theorem eq_i_things (C : CallT) (L : LoopT) (a : List CVal) : evF E N C L f_i_things [AVal.v (CVal.sl a)] [] = nf_i_things C L a := by kernel_rfl
theorem go_i_things (a : List CVal) (R : Ret) (h : nf_i_things CC LL a = some R) : CC f_i_things [AVal.v (CVal.sl a)] [] = some R := fnW (by decide) rfl ((eq_i_things CC LL a).trans h)
noncomputable def nf_l_szIns (C : CallT) (L : LoopT) (a0 : Int) (a1 : Int) (a2 : Int) (a3 : Int) (a4 : Int) (a5 : List CVal) (a6 : Int) (b : Int) : Option Ret :=
 (C f_l_szIntS [AVal.v (CVal.sl a5), AVal.v (CVal.int IntKind.i64 b)] []).bind fun r =>
 (CVal.asInt IntKind.i64 r.1).bind fun n =>
 br (decide (n < (0 : Int))) (some (CVal.int IntKind.i64 (-1 : Int), [])) (some (r.1, []))
theorem eq_l_szIns (C : CallT) (L : LoopT) (a0 : Int) (a1 : Int) (a2 : Int) (a3 : Int) (a4 : Int) (a5 : List CVal) (a6 : Int) (b : Int) : evF E N C L f_l_szIns [AVal.v
 (CVal.agg
 [CVal.int IntKind.i64 a0, CVal.int IntKind.i64 a1, CVal.int IntKind.i64 a2, CVal.int IntKind.i64 a3,
 CVal.int IntKind.i64 a4, CVal.sl a5, CVal.int IntKind.i64 a6]),
 AVal.v (CVal.int IntKind.i64 b)] [] = nf_l_szIns C L a0 a1 a2 a3 a4 a5 a6 b := by kernel_rfl
theorem go_l_szIns (a0 : Int) (a1 : Int) (a2 : Int) (a3 : Int) (a4 : Int) (a5 : List CVal) (a6 : Int) (b : Int) (R : Ret) (h : nf_l_szIns CC LL a0 a1 a2 a3 a4 a5 a6 b = some R) : CC f_l_szIns [AVal.v
 (CVal.agg
 [CVal.int IntKind.i64 a0, CVal.int IntKind.i64 a1, CVal.int IntKind.i64 a2, CVal.int IntKind.i64 a3,
 CVal.int IntKind.i64 a4, CVal.sl a5, CVal.int IntKind.i64 a6]),
 AVal.v (CVal.int IntKind.i64 b)] [] = some R := fnW (by decide) rfl ((eq_l_szIns CC LL a0 a1 a2 a3 a4 a5 a6 b).trans h)
noncomputable def nf_s_l10Set (C : CallT) (L : LoopT) (a00 : Int) (a01 : Int) (a02 : Int) (a03 : List CVal) (a1 : List CVal) (a2 : Bool) (b : Int) (c : Int) : Option Ret :=
 br (decide ((0 : Int) ≤ b) && true)
 (br (decide (b.toNat < a1.length) && true)
 (a1[b.toNat]?.bind fun y =>
 (y.cell (0 : Nat)).bind fun c_1 =>
 c_1.asSl.bind fun xs =>
 br (decide ((0 : Int) ≤ c) && true)
 ((a1[b.toNat]?.bind fun y => (y.cell (0 : Nat)).bind fun c => c.asSl).bind fun y =>
 br (decide (c.toNat < y.length))
 ((a1[b.toNat]?.bind fun y => (y.cell (0 : Nat)).bind fun c => c.asSl).bind fun y =>
 y[c.toNat]?.bind fun y =>
 y.asBool.bind fun b_1 =>
 br (!b_1)
 (br (decide ((0 : Int) ≤ b) && true)
 (br (decide (b.toNat < a1.length) && true)
 (a1[b.toNat]?.bind fun y =>
 (y.cell (0 : Nat)).bind fun c_2 =>
 c_2.asSl.bind fun xs =>
 br (decide ((0 : Int) ≤ c) && true)
 ((a1[b.toNat]?.bind fun y => (y.cell (0 : Nat)).bind fun c => c.asSl).bind fun y =>
 br (decide (c.toNat < y.length))
 (a1[b.toNat]?.bind fun y =>
 (y.cell (0 : Nat)).bind fun c_3 =>
 c_3.asSl.bind fun xs =>
 xs[c.toNat]?.bind fun y_1 =>
 br (CVal.fitsF false [CK.bool] y_1)
 (some
 (CVal.tup [],
 [[CVal.int IntKind.i64 a00, CVal.int IntKind.i64 a01,
 CVal.int IntKind.i64 a02, CVal.sl a03,
 CVal.sl
 (a1.set b.toNat
 (y.putCell (0 : Nat)
 (CVal.sl (xs.set c.toNat (CVal.bool true))))),
 CVal.bool true],
 []]))
 none)
 none)
 none)
 none)
 none)
 (some
 (CVal.tup [],
 [[CVal.int IntKind.i64 a00, CVal.int IntKind.i64 a01, CVal.int IntKind.i64 a02, CVal.sl a03,
 CVal.sl a1, CVal.bool a2],
 []])))
 none)
 none)
 none)
 none
theorem eq_s_l10Set (C : CallT) (L : LoopT) (a00 : Int) (a01 : Int) (a02 : Int) (a03 : List CVal) (a1 : List CVal) (a2 : Bool) (b : Int) (c : Int) : evF E N C L f_s_l10Set [AVal.lptr (0 : Nat) (0 : Nat), AVal.v (CVal.int IntKind.i64 b), AVal.v (CVal.int IntKind.i64 c)] [PB.box
 [AVal.v (CVal.int IntKind.i64 a00), AVal.v (CVal.int IntKind.i64 a01), AVal.v (CVal.int IntKind.i64 a02),
 AVal.v (CVal.sl a03), AVal.lref (1 : Nat) (0 : Nat), AVal.v (CVal.bool a2)],
 PB.arr (Md.mk true false (0 : Nat)) true (1 : Nat) a1] = nf_s_l10Set C L a00 a01 a02 a03 a1 a2 b c := by kernel_rfl
theorem go_s_l10Set (a00 : Int) (a01 : Int) (a02 : Int) (a03 : List CVal) (a1 : List CVal) (a2 : Bool) (b : Int) (c : Int) (R : Ret) (h : nf_s_l10Set CC LL a00 a01 a02 a03 a1 a2 b c = some R) : CC f_s_l10Set [AVal.lptr (0 : Nat) (0 : Nat), AVal.v (CVal.int IntKind.i64 b), AVal.v (CVal.int IntKind.i64 c)] [PB.box
 [AVal.v (CVal.int IntKind.i64 a00), AVal.v (CVal.int IntKind.i64 a01), AVal.v (CVal.int IntKind.i64 a02),
 AVal.v (CVal.sl a03), AVal.lref (1 : Nat) (0 : Nat), AVal.v (CVal.bool a2)],
 PB.arr (Md.mk true false (0 : Nat)) true (1 : Nat) a1] = some R := fnW (by decide) rfl ((eq_s_l10Set CC LL a00 a01 a02 a03 a1 a2 b c).trans h)
noncomputable def nf_s_l10Guard (C : CallT) (L : LoopT) (a0 : Int) (a1 : Int) (a2 : Int) (a3 : List CVal) (b : Int) : Option Ret :=
 (L f_s_l10Guard (0 : Nat) lc_s_l10Guard_0 [] k_s_l10Guard_0
 ((b, PUnit.unit, PUnit.unit, (0 : Int), PUnit.unit), (a0, a1, a2, a3, PUnit.unit), [], PUnit.unit)).bind
 fun r =>
 loK r (fun r => some r) fun j p =>
 br (j == (0 : Nat))
 ((br (decide ((↑(List.length p.snd.snd.1) : Int) = (0 : Int))) (some (true, PUnit.unit))
 ((C f_s_l1In
 [AVal.v (CVal.int IntKind.i64 p.fst.1), AVal.v (CVal.int IntKind.i64 (0 : Int)),
 AVal.v
 (CVal.int IntKind.i64
 (IntKind.i64.wrap ((↑(List.length p.snd.fst.snd.snd.snd.1) : Int) - (1 : Int))))]
 []).bind
 fun r => r.1.asBool.bind fun b => some (!b, PUnit.unit))).bind
 fun y =>
 br y.1 (some (CVal.int IntKind.i64 (-1 : Int), []))
 (br (decide ((0 : Int) ≤ IntKind.i64.wrap ((↑(List.length p.snd.snd.1) : Int) - (1 : Int))) && true)
 (br
 (decide
 ((IntKind.i64.wrap ((↑(List.length p.snd.snd.1) : Int) - (1 : Int))).toNat <
 List.length p.snd.snd.1) &&
 true)
 (p.snd.snd.1[(IntKind.i64.wrap ((↑(List.length p.snd.snd.1) : Int) - (1 : Int))).toNat]?.bind fun y =>
 (y.cell (0 : Nat)).bind fun c =>
 (CVal.asInt IntKind.i64 c).bind fun n => some (CVal.int IntKind.i64 n, []))
 none)
 none))
 none
theorem eq_s_l10Guard (C : CallT) (L : LoopT) (a0 : Int) (a1 : Int) (a2 : Int) (a3 : List CVal) (b : Int) : evF E N C L f_s_l10Guard [AVal.v (CVal.agg [CVal.int IntKind.i64 a0, CVal.int IntKind.i64 a1, CVal.int IntKind.i64 a2, CVal.sl a3]),
 AVal.v (CVal.int IntKind.i64 b)] [] = nf_s_l10Guard C L a0 a1 a2 a3 b := by kernel_rfl
theorem go_s_l10Guard (a0 : Int) (a1 : Int) (a2 : Int) (a3 : List CVal) (b : Int) (R : Ret) (h : nf_s_l10Guard CC LL a0 a1 a2 a3 b = some R) : CC f_s_l10Guard [AVal.v (CVal.agg [CVal.int IntKind.i64 a0, CVal.int IntKind.i64 a1, CVal.int IntKind.i64 a2, CVal.sl a3]),
 AVal.v (CVal.int IntKind.i64 b)] [] = some R := fnW (by decide) rfl ((eq_s_l10Guard CC LL a0 a1 a2 a3 b).trans h)
noncomputable def nf_i_pieceOk_1 (C : CallT) (L : LoopT) (a0 : Int) (a1 : Int) (a2 : Int) (a3 : Int) (a4 : Int) (a5 : List CVal) (a6 : Int) (b0 : Int) (b1 : Int) (b2 : Int) (b3 : List CVal) : Option Ret :=
 (C f_i_insOk
 [AVal.v (CVal.agg [CVal.int IntKind.i64 b0, CVal.int IntKind.i64 b1, CVal.int IntKind.i64 b2, CVal.sl b3]),
 AVal.v
 (CVal.agg
 [CVal.int IntKind.i64 a0, CVal.int IntKind.i64 a1, CVal.int IntKind.i64 a2, CVal.int IntKind.i64 a3,
 CVal.int IntKind.i64 a4, CVal.sl a5, CVal.int IntKind.i64 a6])]
 []).bind
 fun r => r.1.asBool.bind fun b => some (CVal.bool !b, [])
theorem eq_i_pieceOk_1 (C : CallT) (L : LoopT) (a0 : Int) (a1 : Int) (a2 : Int) (a3 : Int) (a4 : Int) (a5 : List CVal) (a6 : Int) (b0 : Int) (b1 : Int) (b2 : Int) (b3 : List CVal) : evF E N C L f_i_pieceOk_1 [AVal.v
 (CVal.agg
 [CVal.int IntKind.i64 a0, CVal.int IntKind.i64 a1, CVal.int IntKind.i64 a2, CVal.int IntKind.i64 a3,
 CVal.int IntKind.i64 a4, CVal.sl a5, CVal.int IntKind.i64 a6]),
 AVal.v
 ((CVal.agg [CVal.int IntKind.i64 b0, CVal.int IntKind.i64 b1, CVal.int IntKind.i64 b2, CVal.sl b3]).fp (0 : Nat))] [] = nf_i_pieceOk_1 C L a0 a1 a2 a3 a4 a5 a6 b0 b1 b2 b3 := by kernel_rfl
theorem go_i_pieceOk_1 (a0 : Int) (a1 : Int) (a2 : Int) (a3 : Int) (a4 : Int) (a5 : List CVal) (a6 : Int) (b0 : Int) (b1 : Int) (b2 : Int) (b3 : List CVal) (R : Ret) (h : nf_i_pieceOk_1 CC LL a0 a1 a2 a3 a4 a5 a6 b0 b1 b2 b3 = some R) : CC f_i_pieceOk_1 [AVal.v
 (CVal.agg
 [CVal.int IntKind.i64 a0, CVal.int IntKind.i64 a1, CVal.int IntKind.i64 a2, CVal.int IntKind.i64 a3,
 CVal.int IntKind.i64 a4, CVal.sl a5, CVal.int IntKind.i64 a6]),
 AVal.v
 ((CVal.agg [CVal.int IntKind.i64 b0, CVal.int IntKind.i64 b1, CVal.int IntKind.i64 b2, CVal.sl b3]).fp (0 : Nat))] [] = some R := fnW (by decide) rfl ((eq_i_pieceOk_1 CC LL a0 a1 a2 a3 a4 a5 a6 b0 b1 b2 b3).trans h)
noncomputable def nf_i_raises (C : CallT) (L : LoopT) (a : Int) : Option Ret :=
 br (decide (a = (5 : Int))) (some (CVal.bool true, []))
 (br (decide (a = (14 : Int))) (some (CVal.bool true, []))
 (br (decide (a = (16 : Int))) (some (CVal.bool true, []))
 (br (decide (a = (9 : Int))) (some (CVal.bool true, []))
 (br (decide (a = (10 : Int))) (some (CVal.bool true, []))
 (br (decide (a = (11 : Int))) (some (CVal.bool true, []))
 (br (decide (a = (12 : Int))) (some (CVal.bool true, [])) (some (CVal.bool false, []))))))))
theorem eq_i_raises (C : CallT) (L : LoopT) (a : Int) : evF E N C L f_i_raises [AVal.v (CVal.int IntKind.i64 a)] [] = nf_i_raises C L a := by kernel_rfl
theorem go_i_raises (a : Int) (R : Ret) (h : nf_i_raises CC LL a = some R) : CC f_i_raises [AVal.v (CVal.int IntKind.i64 a)] [] = some R := fnW (by decide) rfl ((eq_i_raises CC LL a).trans h)
noncomputable def nf_slices_Equal_bool (C : CallT) (L : LoopT) (a : List CVal) (b : List CVal) : Option Ret :=
 br (!decide ((↑a.length : Int) = (↑b.length : Int))) (some (CVal.bool false, []))
 ((L f_slices_Equal_bool (0 : Nat) lc_slices_Equal_bool_0 [] k_slices_Equal_bool_0
 ((a, b, (↑a.length : Int), (0 : Int), PUnit.unit), PUnit.unit)).bind
 fun r => loK r (fun r => some r) fun j p => br (j == (0 : Nat)) (some (CVal.bool true, [])) none)
theorem eq_slices_Equal_bool (C : CallT) (L : LoopT) (a : List CVal) (b : List CVal) : evF E N C L f_slices_Equal_bool [AVal.v (CVal.sl a), AVal.v (CVal.sl b)] [] = nf_slices_Equal_bool C L a b := by kernel_rfl
theorem go_slices_Equal_bool (a : List CVal) (b : List CVal) (R : Ret) (h : nf_slices_Equal_bool CC LL a b = some R) : CC f_slices_Equal_bool [AVal.v (CVal.sl a), AVal.v (CVal.sl b)] [] = some R := fnW (by decide) rfl ((eq_slices_Equal_bool CC LL a b).trans h)
noncomputable def nf_slices_IndexFunc_Ins (C : CallT) (L : LoopT) (a : List CVal) (b : CVal) : Option Ret :=
 (L f_slices_IndexFunc_Ins (0 : Nat) lc_slices_IndexFunc_Ins_0 [] k_slices_IndexFunc_Ins_0
 ((a, b, (↑a.length : Int), (0 : Int), PUnit.unit), PUnit.unit)).bind
 fun r => loK r (fun r => some r) fun j p => br (j == (0 : Nat)) (some (CVal.int IntKind.i64 (-1 : Int), [])) none
theorem eq_slices_IndexFunc_Ins (C : CallT) (L : LoopT) (a : List CVal) (b : CVal) : evF E N C L f_slices_IndexFunc_Ins [AVal.v (CVal.sl a), AVal.v b] [] = nf_slices_IndexFunc_Ins C L a b := by kernel_rfl
theorem go_slices_IndexFunc_Ins (a : List CVal) (b : CVal) (R : Ret) (h : nf_slices_IndexFunc_Ins CC LL a b = some R) : CC f_slices_IndexFunc_Ins [AVal.v (CVal.sl a), AVal.v b] [] = some R := fnW (by decide) rfl ((eq_slices_IndexFunc_Ins CC LL a b).trans h)
noncomputable def nf_i_numOk (C : CallT) (L : LoopT) (a0 : Int) (a1 : Int) (a2 : Int) (a3 : Int) (a4 : Int) (a5 : List CVal) (a6 : Int) : Option Ret :=
 br (decide (a0 = (1 : Int)))
 ((C f_i_in
 [AVal.v (CVal.int IntKind.i64 a4), AVal.v (CVal.int IntKind.i64 (-1000000 : Int)),
 AVal.v (CVal.int IntKind.i64 (1000000 : Int))]
 []).bind
 fun r => some (r.1, []))
 (br (decide (a0 = (2 : Int)))
 ((C f_i_in
 [AVal.v (CVal.int IntKind.i64 a4), AVal.v (CVal.int IntKind.i64 (0 : Int)),
 AVal.v (CVal.int IntKind.i64 (1 : Int))]
 []).bind
 fun r => some (r.1, []))
 (br (decide (a0 = (5 : Int)))
 ((C f_i_in
 [AVal.v (CVal.int IntKind.i64 a4), AVal.v (CVal.int IntKind.i64 (1 : Int)),
 AVal.v (CVal.int IntKind.i64 (5 : Int))]
 []).bind
 fun r => some (r.1, []))
 (br (decide (a0 = (8 : Int)))
 (((C f_i_in
 [AVal.v (CVal.int IntKind.i64 a4), AVal.v (CVal.int IntKind.i64 (0 : Int)),
 AVal.v (CVal.int IntKind.i64 (149 : Int))]
 []).bind
 fun r =>
 r.1.asBool.bind fun b =>
 br b (some (decide ((↑a5.length : Int) < (100 : Int)), PUnit.unit)) (some (false, PUnit.unit))).bind
 fun y => some (CVal.bool y.1, []))
 (some (CVal.bool (decide (a4 = (0 : Int))), [])))))
theorem eq_i_numOk (C : CallT) (L : LoopT) (a0 : Int) (a1 : Int) (a2 : Int) (a3 : Int) (a4 : Int) (a5 : List CVal) (a6 : Int) : evF E N C L f_i_numOk [AVal.v
 (CVal.agg
 [CVal.int IntKind.i64 a0, CVal.int IntKind.i64 a1, CVal.int IntKind.i64 a2, CVal.int IntKind.i64 a3,
 CVal.int IntKind.i64 a4, CVal.sl a5, CVal.int IntKind.i64 a6])] [] = nf_i_numOk C L a0 a1 a2 a3 a4 a5 a6 := by kernel_rfl
theorem go_i_numOk (a0 : Int) (a1 : Int) (a2 : Int) (a3 : Int) (a4 : Int) (a5 : List CVal) (a6 : Int) (R : Ret) (h : nf_i_numOk CC LL a0 a1 a2 a3 a4 a5 a6 = some R) : CC f_i_numOk [AVal.v
 (CVal.agg
 [CVal.int IntKind.i64 a0, CVal.int IntKind.i64 a1, CVal.int IntKind.i64 a2, CVal.int IntKind.i64 a3,
 CVal.int IntKind.i64 a4, CVal.sl a5, CVal.int IntKind.i64 a6])] [] = some R := fnW (by decide) rfl ((eq_i_numOk CC LL a0 a1 a2 a3 a4 a5 a6).trans h)
noncomputable def nf_slices_Contains_byte (C : CallT) (L : LoopT) (a : List CVal) (b : Int) : Option Ret :=
 (C f_slices_Index_byte [AVal.v (CVal.sl a), AVal.v (CVal.int IntKind.u8 b)] []).bind fun r =>
 (CVal.asInt IntKind.i64 r.1).bind fun n => some (CVal.bool (decide ((0 : Int) ≤ n)), [])
theorem eq_slices_Contains_byte (C : CallT) (L : LoopT) (a : List CVal) (b : Int) : evF E N C L f_slices_Contains_byte [AVal.v (CVal.sl a), AVal.v (CVal.int IntKind.u8 b)] [] = nf_slices_Contains_byte C L a b := by kernel_rfl
theorem go_slices_Contains_byte (a : List CVal) (b : Int) (R : Ret) (h : nf_slices_Contains_byte CC LL a b = some R) : CC f_slices_Contains_byte [AVal.v (CVal.sl a), AVal.v (CVal.int IntKind.u8 b)] [] = some R := fnW (by decide) rfl ((eq_slices_Contains_byte CC LL a b).trans h)
noncomputable def nl_l_toIntSS_0 (C : CallT) (L : LoopT) (x00 : List CVal) (x02 : Int) (x1 : List CVal) : Option (LO k_l_toIntSS_0.T) :=
 br (decide (x02 < (↑x00.length : Int)))
 (br (decide ((0 : Int) ≤ x02) && true)
 (x00[x02.toNat]?.bind fun y =>
 br (CVal.fits false (1 : Nat) y)
 ((y.cell (0 : Nat)).bind fun c =>
 (C f_l_toIntS [AVal.v c] []).bind fun r =>
 br r.1.isFlat
 (r.1.asSl.bind fun xs =>
 br (decide ((0 : Int) ≤ x02) && true)
 (br (decide (x02.toNat < x1.length) && true)
 (x1[x02.toNat]?.bind fun y =>
 br (CVal.fits false (1 : Nat) y)
 (L f_l_toIntSS (0 : Nat) lc_l_toIntSS_0 [] k_l_toIntSS_0
 ((x00, PUnit.unit, IntKind.i64.wrap (x02 + (1 : Int)), PUnit.unit),
 x1.set x02.toNat (CVal.sl xs), PUnit.unit))
 (br (y.isAgg && decide ((1 : Nat) ≤ y.cells.length))
 (L f_l_toIntSS (0 : Nat) lc_l_toIntSS_0 [] k_l_toIntSS_0
 ((x00, PUnit.unit, IntKind.i64.wrap (x02 + (1 : Int)), PUnit.unit),
 x1.set x02.toNat (CVal.agg (CVal.sl xs :: List.drop (1 : Nat) y.cells)), PUnit.unit))
 none))
 none)
 none)
 none)
 none)
 none)
 (some (LO.out (0 : Nat) ((x00, PUnit.unit, x02, PUnit.unit), x1, PUnit.unit)))
theorem el_l_toIntSS_0 (C : CallT) (L : LoopT) (x00 : List CVal) (x02 : Int) (x1 : List CVal) : evL E N C L f_l_toIntSS 0 lc_l_toIntSS_0 [] k_l_toIntSS_0 ((x00, (), x02, ()), x1, ()) = nl_l_toIntSS_0 C L x00 x02 x1 := by kernel_rfl
theorem gl_l_toIntSS_0 (x00 : List CVal) (x02 : Int) (x1 : List CVal) (R : LO k_l_toIntSS_0.T) (h : nl_l_toIntSS_0 CC LL x00 x02 x1 = some R) : LL f_l_toIntSS 0 lc_l_toIntSS_0 [] k_l_toIntSS_0 ((x00, (), x02, ()), x1, ()) = some R := loopW ((el_l_toIntSS_0 CC LL x00 x02 x1).trans h)
noncomputable def nl_i_LiveOk_6 (C : CallT) (L : LoopT) (x02 : Int) (x03 : Int) (x04 : Int) (x06 : Int) (x07 : Int) (x10 : Int) (x11 : Int) (x12 : Int) (x13 : List CVal) (x2 : List CVal) (x3 : List CVal) : Option (LO k_i_LiveOk_6.T) :=
 br (decide (x07 < x06))
 (br (decide ((0 : Int) ≤ x07) && true)
 (br (decide (x07.toNat < x3.length) && true)
 (x3[x07.toNat]?.bind fun y =>
 (y.cell (0 : Nat)).bind fun c =>
 c.asBool.bind fun b =>
 (br b
 (br (decide ((0 : Int) ≤ x02) && true)
 (br (decide (x02.toNat < x2.length) && true)
 (x2[x02.toNat]?.bind fun y =>
 (y.cell (0 : Nat)).bind fun c =>
 c.asSl.bind fun xs =>
 br (decide ((0 : Int) ≤ x07) && true)
 ((x2[x02.toNat]?.bind fun y => (y.cell (0 : Nat)).bind fun c => c.asSl).bind fun y =>
 br (decide (x07.toNat < y.length))
 ((x2[x02.toNat]?.bind fun y => (y.cell (0 : Nat)).bind fun c => c.asSl).bind fun y =>
 y[x07.toNat]?.bind fun y => y.asBool.bind fun b => some (!b, PUnit.unit))
 none)
 none)
 none)
 none)
 (some (false, PUnit.unit))).bind
 fun y =>
 br y.1 (some (LO.ret (CVal.bool false, [])))
 (L f_i_LiveOk (6 : Nat) lc_i_LiveOk_6 [] k_i_LiveOk_6
 ((PUnit.unit, PUnit.unit, x02, x03, x04, PUnit.unit, x06, IntKind.i64.wrap (x07 + (1 : Int)),
 PUnit.unit),
 (x10, x11, x12, x13, PUnit.unit), x2, x3, PUnit.unit)))
 none)
 none)
 (some
 (LO.out (6 : Nat)
 ((PUnit.unit, PUnit.unit, x02, x03, x04, PUnit.unit, x06, x07, PUnit.unit), (x10, x11, x12, x13, PUnit.unit), x2,
 x3, PUnit.unit)))
theorem el_i_LiveOk_6 (C : CallT) (L : LoopT) (x02 : Int) (x03 : Int) (x04 : Int) (x06 : Int) (x07 : Int) (x10 : Int) (x11 : Int) (x12 : Int) (x13 : List CVal) (x2 : List CVal) (x3 : List CVal) : evL E N C L f_i_LiveOk 6 lc_i_LiveOk_6 [] k_i_LiveOk_6 (((), (), x02, x03, x04, (), x06, x07, ()), (x10, x11, x12, x13, ()), x2, x3, ()) = nl_i_LiveOk_6 C L x02 x03 x04 x06 x07 x10 x11 x12 x13 x2 x3 := by kernel_rfl
theorem gl_i_LiveOk_6 (x02 : Int) (x03 : Int) (x04 : Int) (x06 : Int) (x07 : Int) (x10 : Int) (x11 : Int) (x12 : Int) (x13 : List CVal) (x2 : List CVal) (x3 : List CVal) (R : LO k_i_LiveOk_6.T) (h : nl_i_LiveOk_6 CC LL x02 x03 x04 x06 x07 x10 x11 x12 x13 x2 x3 = some R) : LL f_i_LiveOk 6 lc_i_LiveOk_6 [] k_i_LiveOk_6 (((), (), x02, x03, x04, (), x06, x07, ()), (x10, x11, x12, x13, ()), x2, x3, ()) = some R := loopW ((el_i_LiveOk_6 CC LL x02 x03 x04 x06 x07 x10 x11 x12 x13 x2 x3).trans h)
noncomputable def nl_l_eqIntSS_0 (C : CallT) (L : LoopT) (x00 : List CVal) (x01 : List CVal) (x02 : Int) : Option (LO k_l_eqIntSS_0.T) :=
 br (decide (x02 < (↑x00.length : Int)))
 (br (decide ((0 : Int) ≤ x02) && true)
 (x00[x02.toNat]?.bind fun y =>
 br (CVal.fits false (1 : Nat) y)
 ((y.cell (0 : Nat)).bind fun c =>
 br (decide ((0 : Int) ≤ x02) && true)
 (x01[x02.toNat]?.bind fun y =>
 br (CVal.fits false (1 : Nat) y)
 ((y.cell (0 : Nat)).bind fun c_1 =>
 (C f_l_eqIntS [AVal.v c, AVal.v c_1] []).bind fun r =>
 r.1.asBool.bind fun b =>
 br (!b) (some (LO.ret (CVal.bool false, [])))
 (L f_l_eqIntSS (0 : Nat) lc_l_eqIntSS_0 [] k_l_eqIntSS_0
 ((x00, x01, IntKind.i64.wrap (x02 + (1 : Int)), PUnit.unit), PUnit.unit)))
 none)
 none)
 none)
 none)
 (some (LO.out (0 : Nat) ((x00, x01, x02, PUnit.unit), PUnit.unit)))
theorem el_l_eqIntSS_0 (C : CallT) (L : LoopT) (x00 : List CVal) (x01 : List CVal) (x02 : Int) : evL E N C L f_l_eqIntSS 0 lc_l_eqIntSS_0 [] k_l_eqIntSS_0 ((x00, x01, x02, ()), ()) = nl_l_eqIntSS_0 C L x00 x01 x02 := by kernel_rfl
theorem gl_l_eqIntSS_0 (x00 : List CVal) (x01 : List CVal) (x02 : Int) (R : LO k_l_eqIntSS_0.T) (h : nl_l_eqIntSS_0 CC LL x00 x01 x02 = some R) : LL f_l_eqIntSS 0 lc_l_eqIntSS_0 [] k_l_eqIntSS_0 ((x00, x01, x02, ()), ()) = some R := loopW ((el_l_eqIntSS_0 CC LL x00 x01 x02).trans h)
noncomputable def nl_l_szInsS_0 (C : CallT) (L : LoopT) (x00 : List CVal) (x01 : Int) (x02 : Int) : Option (LO k_l_szInsS_0.T) :=
 br (decide (x02 < (↑x00.length : Int)))
 (br (decide ((0 : Int) ≤ x02) && true)
 (x00[x02.toNat]?.bind fun y =>
 br (CVal.fits true (7 : Nat) y)
 ((y.sub (0 : Nat) (7 : Nat)).bind fun y =>
 (C f_l_szIns [AVal.v y, AVal.v (CVal.int IntKind.i64 x01)] []).bind fun r =>
 (CVal.asInt IntKind.i64 r.1).bind fun n =>
 br (decide (n < (0 : Int))) (some (LO.ret (CVal.int IntKind.i64 (-1 : Int), [])))
 ((CVal.asInt IntKind.i64 r.1).bind fun n =>
 L f_l_szInsS (0 : Nat) lc_l_szInsS_0 [] k_l_szInsS_0
 ((x00, n, IntKind.i64.wrap (x02 + (1 : Int)), PUnit.unit), PUnit.unit)))
 none)
 none)
 (some (LO.out (0 : Nat) ((x00, x01, x02, PUnit.unit), PUnit.unit)))
theorem el_l_szInsS_0 (C : CallT) (L : LoopT) (x00 : List CVal) (x01 : Int) (x02 : Int) : evL E N C L f_l_szInsS 0 lc_l_szInsS_0 [] k_l_szInsS_0 ((x00, x01, x02, ()), ()) = nl_l_szInsS_0 C L x00 x01 x02 := by kernel_rfl
theorem gl_l_szInsS_0 (x00 : List CVal) (x01 : Int) (x02 : Int) (R : LO k_l_szInsS_0.T) (h : nl_l_szInsS_0 CC LL x00 x01 x02 = some R) : LL f_l_szInsS 0 lc_l_szInsS_0 [] k_l_szInsS_0 ((x00, x01, x02, ()), ()) = some R := loopW ((el_l_szInsS_0 CC LL x00 x01 x02).trans h)
noncomputable def nl_s_l10New_0 (C : CallT) (L : LoopT) (x00 : CVal) (x02 : Int) (x10 : Int) (x11 : Int) (x12 : Int) (x13 : List CVal) (x15 : Bool) (x2 : List CVal) : Option (LO k_s_l10New_0.T) :=
 x00.asFp.bind fun y =>
 (y.1.cell (y.2 + (3 : Nat))).bind fun c =>
 c.asSl.bind fun xs =>
 br (decide (x02 < (↑xs.length : Int)))
 (x00.asFp.bind fun y =>
 (y.1.cell (y.2 + (2 : Nat))).bind fun c =>
 c.asIdx.bind fun y =>
 c.asIdx.bind fun y_1 =>
 br (decide ((0 : Int) ≤ y) && decide (y = y_1) && decide (y ≤ (1048576 : Int)))
 (br (decide (x2.length + (1 : Nat) ≤ (4294967296 : Nat)) && true && true)
 (L f_s_l10New (0 : Nat) lc_s_l10New_0 [] k_s_l10New_0
 ((x00, PUnit.unit, IntKind.i64.wrap (x02 + (1 : Int)), PUnit.unit),
 (x10, x11, x12, x13, PUnit.unit, x15, PUnit.unit),
 x2 ++ [CVal.sl (List.replicate y.toNat (CVal.bool false))], PUnit.unit))
 none)
 none)
 (some
 (LO.out (0 : Nat)
 ((x00, PUnit.unit, x02, PUnit.unit), (x10, x11, x12, x13, PUnit.unit, x15, PUnit.unit), x2, PUnit.unit)))
theorem el_s_l10New_0 (C : CallT) (L : LoopT) (x00 : CVal) (x02 : Int) (x10 : Int) (x11 : Int) (x12 : Int) (x13 : List CVal) (x15 : Bool) (x2 : List CVal) : evL E N C L f_s_l10New 0 lc_s_l10New_0 [] k_s_l10New_0 ((x00, (), x02, ()), (x10, x11, x12, x13, (), x15, ()), x2, ()) = nl_s_l10New_0 C L x00 x02 x10 x11 x12 x13 x15 x2 := by kernel_rfl
theorem gl_s_l10New_0 (x00 : CVal) (x02 : Int) (x10 : Int) (x11 : Int) (x12 : Int) (x13 : List CVal) (x15 : Bool) (x2 : List CVal) (R : LO k_s_l10New_0.T) (h : nl_s_l10New_0 CC LL x00 x02 x10 x11 x12 x13 x15 x2 = some R) : LL f_s_l10New 0 lc_s_l10New_0 [] k_s_l10New_0 ((x00, (), x02, ()), (x10, x11, x12, x13, (), x15, ()), x2, ()) = some R := loopW ((el_s_l10New_0 CC LL x00 x02 x10 x11 x12 x13 x15 x2).trans h)
noncomputable def nl_i_wanted_0 (C : CallT) (L : LoopT) (x00 : Int) (x040 : CVal) (x05 : List CVal) (x06 : Int) (x07 : Int) (x10 : Int) (x11 : Int) (x12 : Int) (x13 : List CVal) (x3 : List CVal) (x40 : Int) (x41 : Int) (x42 : Int) (x43 : Int) (x44 : Int) (x45 : List CVal) (x46 : Int) : Option (LO k_i_wanted_0.T) :=
 br (decide (x07 < x06))
 (br (decide ((0 : Int) ≤ x07) && true)
 (x05[x07.toNat]?.bind fun y =>
 br (CVal.fits false (1 : Nat) y)
 ((y.cell (0 : Nat)).bind fun c =>
 (C f_i_Writes
 [AVal.v
 (CVal.agg
 [CVal.int IntKind.i64 x40, CVal.int IntKind.i64 x41, CVal.int IntKind.i64 x42,
 CVal.int IntKind.i64 x43, CVal.int IntKind.i64 x44, CVal.sl x45, CVal.int IntKind.i64 x46])]
 []).bind
 fun r =>
 (C f_i_wanted_1 [AVal.v c, AVal.v r.1, AVal.v x040, AVal.lptr (0 : Nat) (0 : Nat)]
 [PB.box [AVal.lref (1 : Nat) (0 : Nat)], PB.arr (Md.mk true false (0 : Nat)) true (1 : Nat) x3]).bind
 fun r =>
 r.2[(0 : Nat)]?.bind fun y =>
 r.2[(1 : Nat)]?.bind fun y_1 =>
 y[(0 : Nat)]?.bind fun y =>
 y.asSl.bind fun xs =>
 L f_i_wanted (0 : Nat) lc_i_wanted_0 [] k_i_wanted_0
 ((x00, PUnit.unit, PUnit.unit, PUnit.unit, (x040, PUnit.unit), x05, x06,
 IntKind.i64.wrap (x07 + (1 : Int)), PUnit.unit),
 (x10, x11, x12, x13, PUnit.unit), (PUnit.unit, PUnit.unit), xs,
 (x40, x41, x42, x43, x44, x45, x46, PUnit.unit), PUnit.unit))
 none)
 none)
 (some
 (LO.out (0 : Nat)
 ((x00, PUnit.unit, PUnit.unit, PUnit.unit, (x040, PUnit.unit), x05, x06, x07, PUnit.unit),
 (x10, x11, x12, x13, PUnit.unit), (PUnit.unit, PUnit.unit), x3, (x40, x41, x42, x43, x44, x45, x46, PUnit.unit),
 PUnit.unit)))
theorem el_i_wanted_0 (C : CallT) (L : LoopT) (x00 : Int) (x040 : CVal) (x05 : List CVal) (x06 : Int) (x07 : Int) (x10 : Int) (x11 : Int) (x12 : Int) (x13 : List CVal) (x3 : List CVal) (x40 : Int) (x41 : Int) (x42 : Int) (x43 : Int) (x44 : Int) (x45 : List CVal) (x46 : Int) : evL E N C L f_i_wanted 0 lc_i_wanted_0 [] k_i_wanted_0 ((x00, (), (), (), (x040, ()), x05, x06, x07, ()), (x10, x11, x12, x13, ()), ((), ()), x3,
 (x40, x41, x42, x43, x44, x45, x46, ()), ()) = nl_i_wanted_0 C L x00 x040 x05 x06 x07 x10 x11 x12 x13 x3 x40 x41 x42 x43 x44 x45 x46 := by kernel_rfl
theorem gl_i_wanted_0 (x00 : Int) (x040 : CVal) (x05 : List CVal) (x06 : Int) (x07 : Int) (x10 : Int) (x11 : Int) (x12 : Int) (x13 : List CVal) (x3 : List CVal) (x40 : Int) (x41 : Int) (x42 : Int) (x43 : Int) (x44 : Int) (x45 : List CVal) (x46 : Int) (R : LO k_i_wanted_0.T) (h : nl_i_wanted_0 CC LL x00 x040 x05 x06 x07 x10 x11 x12 x13 x3 x40 x41 x42 x43 x44 x45 x46 = some R) : LL f_i_wanted 0 lc_i_wanted_0 [] k_i_wanted_0 ((x00, (), (), (), (x040, ()), x05, x06, x07, ()), (x10, x11, x12, x13, ()), ((), ()), x3,
 (x40, x41, x42, x43, x44, x45, x46, ()), ()) = some R := loopW ((el_i_wanted_0 CC LL x00 x040 x05 x06 x07 x10 x11 x12 x13 x3 x40 x41 x42 x43 x44 x45 x46).trans h)
noncomputable def nl_s_l10Solve_0 (C : CallT) (L : LoopT) (x00 : CVal) (x10 : Int) (x11 : Int) (x12 : Int) (x13 : List CVal) (x15 : Bool) (x2 : List CVal) : Option (LO k_s_l10Solve_0.T) :=
 br x15
 (x00.asFp.bind fun y =>
 (y.1.cell (y.2 + (3 : Nat))).bind fun c =>
 c.asSl.bind fun xs =>
 (L f_s_l10Solve (2 : Nat) lc_s_l10Solve_2 [] k_s_l10Solve_2
 ((x00, PUnit.unit, IntKind.i64.wrap ((↑xs.length : Int) - (1 : Int)), PUnit.unit),
 (x10, x11, x12, x13, PUnit.unit, false, PUnit.unit), x2, PUnit.unit)).bind
 fun r =>
 loK r (fun r => some (LO.ret r)) fun j p =>
 br (j == (2 : Nat))
 (L f_s_l10Solve (0 : Nat) lc_s_l10Solve_0 [] k_s_l10Solve_0
 ((p.fst.1, PUnit.unit, PUnit.unit),
 (p.snd.fst.1, p.snd.fst.snd.1, p.snd.fst.snd.snd.1, p.snd.fst.snd.snd.snd.1, PUnit.unit,
 p.snd.fst.snd.snd.snd.snd.snd.1, PUnit.unit),
 p.snd.snd.1, PUnit.unit))
 (br (j == (1 : Nat))
 (L f_s_l10Solve (0 : Nat) lc_s_l10Solve_0 [] k_s_l10Solve_0
 ((p.fst.1, PUnit.unit, PUnit.unit),
 (p.snd.fst.1, p.snd.fst.snd.1, p.snd.fst.snd.snd.1, p.snd.fst.snd.snd.snd.1, PUnit.unit,
 p.snd.fst.snd.snd.snd.snd.snd.1, PUnit.unit),
 p.snd.snd.1, PUnit.unit))
 (some
 (LO.out j
 ((p.fst.1, PUnit.unit, PUnit.unit),
 (p.snd.fst.1, p.snd.fst.snd.1, p.snd.fst.snd.snd.1, p.snd.fst.snd.snd.snd.1, PUnit.unit,
 p.snd.fst.snd.snd.snd.snd.snd.1, PUnit.unit),
 p.snd.snd.1, PUnit.unit)))))
 (some
 (LO.out (0 : Nat)
 ((x00, PUnit.unit, PUnit.unit), (x10, x11, x12, x13, PUnit.unit, x15, PUnit.unit), x2, PUnit.unit)))
theorem el_s_l10Solve_0 (C : CallT) (L : LoopT) (x00 : CVal) (x10 : Int) (x11 : Int) (x12 : Int) (x13 : List CVal) (x15 : Bool) (x2 : List CVal) : evL E N C L f_s_l10Solve 0 lc_s_l10Solve_0 [] k_s_l10Solve_0 ((x00, (), ()), (x10, x11, x12, x13, (), x15, ()), x2, ()) = nl_s_l10Solve_0 C L x00 x10 x11 x12 x13 x15 x2 := by kernel_rfl
theorem gl_s_l10Solve_0 (x00 : CVal) (x10 : Int) (x11 : Int) (x12 : Int) (x13 : List CVal) (x15 : Bool) (x2 : List CVal) (R : LO k_s_l10Solve_0.T) (h : nl_s_l10Solve_0 CC LL x00 x10 x11 x12 x13 x15 x2 = some R) : LL f_s_l10Solve 0 lc_s_l10Solve_0 [] k_s_l10Solve_0 ((x00, (), ()), (x10, x11, x12, x13, (), x15, ()), x2, ()) = some R := loopW ((el_s_l10Solve_0 CC LL x00 x10 x11 x12 x13 x15 x2).trans h)
noncomputable def nl_i_liveSets_2 (C : CallT) (L : LoopT) (x00 : CVal) (x02 : Bool) (x1 : List CVal) : Option (LO k_i_liveSets_2.T) :=
 br x02
 (x00.asFp.bind fun y =>
 (y.1.cell (y.2 + (3 : Nat))).bind fun c =>
 c.asSl.bind fun xs =>
 (L f_i_liveSets (4 : Nat) lc_i_liveSets_4 [] k_i_liveSets_4
 ((x00, PUnit.unit, false, IntKind.i64.wrap ((↑xs.length : Int) - (1 : Int)), PUnit.unit), x1,
 PUnit.unit)).bind
 fun r =>
 loK r (fun r => some (LO.ret r)) fun j p =>
 br (j == (4 : Nat))
 (L f_i_liveSets (2 : Nat) lc_i_liveSets_2 [] k_i_liveSets_2
 ((p.fst.1, PUnit.unit, p.fst.snd.snd.1, PUnit.unit), p.snd.1, PUnit.unit))
 (br (j == (3 : Nat))
 (L f_i_liveSets (2 : Nat) lc_i_liveSets_2 [] k_i_liveSets_2
 ((p.fst.1, PUnit.unit, p.fst.snd.snd.1, PUnit.unit), p.snd.1, PUnit.unit))
 (some (LO.out j ((p.fst.1, PUnit.unit, p.fst.snd.snd.1, PUnit.unit), p.snd.1, PUnit.unit)))))
 (some (LO.out (2 : Nat) ((x00, PUnit.unit, x02, PUnit.unit), x1, PUnit.unit)))
theorem el_i_liveSets_2 (C : CallT) (L : LoopT) (x00 : CVal) (x02 : Bool) (x1 : List CVal) : evL E N C L f_i_liveSets 2 lc_i_liveSets_2 [] k_i_liveSets_2 ((x00, (), x02, ()), x1, ()) = nl_i_liveSets_2 C L x00 x02 x1 := by kernel_rfl
theorem gl_i_liveSets_2 (x00 : CVal) (x02 : Bool) (x1 : List CVal) (R : LO k_i_liveSets_2.T) (h : nl_i_liveSets_2 CC LL x00 x02 x1 = some R) : LL f_i_liveSets 2 lc_i_liveSets_2 [] k_i_liveSets_2 ((x00, (), x02, ()), x1, ()) = some R := loopW ((el_i_liveSets_2 CC LL x00 x02 x1).trans h)
noncomputable def nl_l_markIntS_0 (C : CallT) (L : LoopT) (x01 : Int) (x02 : Int) (x1 : List CVal) : Option (LO k_l_markIntS_0.T) :=
 br (decide (x02 < (↑x1.length : Int)))
 (br (decide ((0 : Int) ≤ x02) && true)
 (br (decide (x02.toNat < x1.length) && true)
 (x1[x02.toNat]?.bind fun y =>
 br (CVal.fits false (1 : Nat) y)
 (L f_l_markIntS (0 : Nat) lc_l_markIntS_0 [PSh.arr (Md.mk true true (0 : Nat)) false (1 : Nat)] k_l_markIntS_0
 ((PUnit.unit, IntKind.i64.wrap (x01 + (1 : Int)), IntKind.i64.wrap (x02 + (1 : Int)), PUnit.unit),
 x1.set x02.toNat (CVal.int IntKind.i64 x01), PUnit.unit))
 (br (y.isAgg && decide ((1 : Nat) ≤ y.cells.length))
 (L f_l_markIntS (0 : Nat) lc_l_markIntS_0 [PSh.arr (Md.mk true true (0 : Nat)) false (1 : Nat)]
 k_l_markIntS_0
 ((PUnit.unit, IntKind.i64.wrap (x01 + (1 : Int)), IntKind.i64.wrap (x02 + (1 : Int)), PUnit.unit),
 x1.set x02.toNat (CVal.agg (CVal.int IntKind.i64 x01 :: List.drop (1 : Nat) y.cells)), PUnit.unit))
 none))
 none)
 none)
 (some (LO.out (0 : Nat) ((PUnit.unit, x01, x02, PUnit.unit), x1, PUnit.unit)))
theorem el_l_markIntS_0 (C : CallT) (L : LoopT) (x01 : Int) (x02 : Int) (x1 : List CVal) : evL E N C L f_l_markIntS 0 lc_l_markIntS_0 [PSh.arr (Md.mk true true (0 : Nat)) false (1 : Nat)] k_l_markIntS_0 (((), x01, x02, ()), x1, ()) = nl_l_markIntS_0 C L x01 x02 x1 := by kernel_rfl
theorem gl_l_markIntS_0 (x01 : Int) (x02 : Int) (x1 : List CVal) (R : LO k_l_markIntS_0.T) (h : nl_l_markIntS_0 CC LL x01 x02 x1 = some R) : LL f_l_markIntS 0 lc_l_markIntS_0 [PSh.arr (Md.mk true true (0 : Nat)) false (1 : Nat)] k_l_markIntS_0 (((), x01, x02, ()), x1, ()) = some R := loopW ((el_l_markIntS_0 CC LL x01 x02 x1).trans h)
noncomputable def nl_s_Reads_0 (C : CallT) (L : LoopT) (x01 : List CVal) (x02 : Int) (x10 : Int) (x11 : Int) (x12 : Int) (x13 : Int) (x14 : Int) (x15 : List CVal) (x16 : Int) : Option (LO k_s_Reads_0.T) :=
 (br (decide (x02 < (↑x15.length : Int))) (some (decide (x10 = (8 : Int)), PUnit.unit)) (some (false, PUnit.unit))).bind
 fun y =>
 br y.1
 (br (decide ((0 : Int) ≤ x02) && true)
 (x15[x02.toNat]?.bind fun y =>
 br (CVal.fits false (1 : Nat) y)
 ((y.cell (0 : Nat)).bind fun c =>
 (C f_s_l10Add [AVal.v (CVal.sl x01), AVal.v c] []).bind fun r =>
 r.1.asSl.bind fun xs =>
 L f_s_Reads (0 : Nat) lc_s_Reads_0 [] k_s_Reads_0
 ((PUnit.unit, xs, IntKind.i64.wrap (x02 + (1 : Int)), PUnit.unit),
 (x10, x11, x12, x13, x14, x15, x16, PUnit.unit), PUnit.unit))
 none)
 none)
 (some
 (LO.out (0 : Nat)
 ((PUnit.unit, x01, x02, PUnit.unit), (x10, x11, x12, x13, x14, x15, x16, PUnit.unit), PUnit.unit)))
theorem el_s_Reads_0 (C : CallT) (L : LoopT) (x01 : List CVal) (x02 : Int) (x10 : Int) (x11 : Int) (x12 : Int) (x13 : Int) (x14 : Int) (x15 : List CVal) (x16 : Int) : evL E N C L f_s_Reads 0 lc_s_Reads_0 [] k_s_Reads_0 (((), x01, x02, ()), (x10, x11, x12, x13, x14, x15, x16, ()), ()) = nl_s_Reads_0 C L x01 x02 x10 x11 x12 x13 x14 x15 x16 := by kernel_rfl
theorem gl_s_Reads_0 (x01 : List CVal) (x02 : Int) (x10 : Int) (x11 : Int) (x12 : Int) (x13 : Int) (x14 : Int) (x15 : List CVal) (x16 : Int) (R : LO k_s_Reads_0.T) (h : nl_s_Reads_0 CC LL x01 x02 x10 x11 x12 x13 x14 x15 x16 = some R) : LL f_s_Reads 0 lc_s_Reads_0 [] k_s_Reads_0 (((), x01, x02, ()), (x10, x11, x12, x13, x14, x15, x16, ()), ()) = some R := loopW ((el_s_Reads_0 CC LL x01 x02 x10 x11 x12 x13 x14 x15 x16).trans h)
noncomputable def nl_i_wanted_1_0 (C : CallT) (L : LoopT) (x00 : Int) (x02 : List CVal) (x03 : Int) (x04 : Int) (x3 : List CVal) : Option (LO k_i_wanted_1_0.T) :=
 br (decide (x04 < x03))
 (br (decide ((0 : Int) ≤ x04) && true)
 (x02[x04.toNat]?.bind fun y =>
 br (CVal.fits false (1 : Nat) y)
 ((y.cell (0 : Nat)).bind fun c =>
 br (decide ((0 : Int) ≤ x04) && true)
 (br (decide (x04.toNat < x3.length) && true)
 (x3[x04.toNat]?.bind fun y =>
 (y.cell (0 : Nat)).bind fun c_1 =>
 c_1.asBool.bind fun b =>
 br b
 (br (decide ((0 : Int) ≤ x04) && true)
 (br (decide (x04.toNat < x3.length) && true)
 (x3[x04.toNat]?.bind fun y =>
 br (CVal.fits false (1 : Nat) y)
 (L f_i_wanted_1 (0 : Nat) lc_i_wanted_1_0
 [PSh.box [some (1 : Nat)], PSh.arr (Md.mk true false (0 : Nat)) true (1 : Nat)]
 k_i_wanted_1_0
 ((x00, PUnit.unit, x02, x03, IntKind.i64.wrap (x04 + (1 : Int)), PUnit.unit),
 (PUnit.unit, PUnit.unit), PUnit.unit, x3.set x04.toNat (CVal.bool true), PUnit.unit))
 (br (y.isAgg && decide ((1 : Nat) ≤ y.cells.length))
 (L f_i_wanted_1 (0 : Nat) lc_i_wanted_1_0
 [PSh.box [some (1 : Nat)], PSh.arr (Md.mk true false (0 : Nat)) true (1 : Nat)]
 k_i_wanted_1_0
 ((x00, PUnit.unit, x02, x03, IntKind.i64.wrap (x04 + (1 : Int)), PUnit.unit),
 (PUnit.unit, PUnit.unit), PUnit.unit,
 x3.set x04.toNat (CVal.agg (CVal.bool true :: List.drop (1 : Nat) y.cells)),
 PUnit.unit))
 none))
 none)
 none)
 (c.asBool.bind fun b =>
 br b
 (br (decide ((0 : Int) ≤ x04) && true)
 (br (decide (x04.toNat < x3.length) && true)
 (x3[x04.toNat]?.bind fun y =>
 br (CVal.fits false (1 : Nat) y)
 (L f_i_wanted_1 (0 : Nat) lc_i_wanted_1_0
 [PSh.box [some (1 : Nat)], PSh.arr (Md.mk true false (0 : Nat)) true (1 : Nat)]
 k_i_wanted_1_0
 ((x00, PUnit.unit, x02, x03, IntKind.i64.wrap (x04 + (1 : Int)), PUnit.unit),
 (PUnit.unit, PUnit.unit), PUnit.unit,
 x3.set x04.toNat (CVal.bool !decide (x04 = x00)), PUnit.unit))
 (br (y.isAgg && decide ((1 : Nat) ≤ y.cells.length))
 (L f_i_wanted_1 (0 : Nat) lc_i_wanted_1_0
 [PSh.box [some (1 : Nat)], PSh.arr (Md.mk true false (0 : Nat)) true (1 : Nat)]
 k_i_wanted_1_0
 ((x00, PUnit.unit, x02, x03, IntKind.i64.wrap (x04 + (1 : Int)), PUnit.unit),
 (PUnit.unit, PUnit.unit), PUnit.unit,
 x3.set x04.toNat
 (CVal.agg ((CVal.bool !decide (x04 = x00)) :: List.drop (1 : Nat) y.cells)),
 PUnit.unit))
 none))
 none)
 none)
 (br (decide ((0 : Int) ≤ x04) && true)
 (br (decide (x04.toNat < x3.length) && true)
 (x3[x04.toNat]?.bind fun y =>
 br (CVal.fits false (1 : Nat) y)
 (L f_i_wanted_1 (0 : Nat) lc_i_wanted_1_0
 [PSh.box [some (1 : Nat)], PSh.arr (Md.mk true false (0 : Nat)) true (1 : Nat)]
 k_i_wanted_1_0
 ((x00, PUnit.unit, x02, x03, IntKind.i64.wrap (x04 + (1 : Int)), PUnit.unit),
 (PUnit.unit, PUnit.unit), PUnit.unit, x3.set x04.toNat (CVal.bool false),
 PUnit.unit))
 (br (y.isAgg && decide ((1 : Nat) ≤ y.cells.length))
 (L f_i_wanted_1 (0 : Nat) lc_i_wanted_1_0
 [PSh.box [some (1 : Nat)], PSh.arr (Md.mk true false (0 : Nat)) true (1 : Nat)]
 k_i_wanted_1_0
 ((x00, PUnit.unit, x02, x03, IntKind.i64.wrap (x04 + (1 : Int)), PUnit.unit),
 (PUnit.unit, PUnit.unit), PUnit.unit,
 x3.set x04.toNat (CVal.agg (CVal.bool false :: List.drop (1 : Nat) y.cells)),
 PUnit.unit))
 none))
 none)
 none)))
 none)
 none)
 none)
 none)
 (some
 (LO.out (0 : Nat)
 ((x00, PUnit.unit, x02, x03, x04, PUnit.unit), (PUnit.unit, PUnit.unit), PUnit.unit, x3, PUnit.unit)))
theorem el_i_wanted_1_0 (C : CallT) (L : LoopT) (x00 : Int) (x02 : List CVal) (x03 : Int) (x04 : Int) (x3 : List CVal) : evL E N C L f_i_wanted_1 0 lc_i_wanted_1_0 [PSh.box [some (1 : Nat)], PSh.arr (Md.mk true false (0 : Nat)) true (1 : Nat)] k_i_wanted_1_0 ((x00, (), x02, x03, x04, ()), ((), ()), (), x3, ()) = nl_i_wanted_1_0 C L x00 x02 x03 x04 x3 := by kernel_rfl
theorem gl_i_wanted_1_0 (x00 : Int) (x02 : List CVal) (x03 : Int) (x04 : Int) (x3 : List CVal) (R : LO k_i_wanted_1_0.T) (h : nl_i_wanted_1_0 CC LL x00 x02 x03 x04 x3 = some R) : LL f_i_wanted_1 0 lc_i_wanted_1_0 [PSh.box [some (1 : Nat)], PSh.arr (Md.mk true false (0 : Nat)) true (1 : Nat)] k_i_wanted_1_0 ((x00, (), x02, x03, x04, ()), ((), ()), (), x3, ()) = some R := loopW ((el_i_wanted_1_0 CC LL x00 x02 x03 x04 x3).trans h)
noncomputable def nl_i_insOk_0 (C : CallT) (L : LoopT) (x01 : List CVal) (x02 : Int) (x03 : Int) (x10 : Int) (x11 : Int) (x12 : Int) (x13 : Int) (x14 : Int) (x15 : List CVal) (x16 : Int) : Option (LO k_i_insOk_0.T) :=
 br (decide (x03 < x02))
 (br (decide ((0 : Int) ≤ x03) && true)
 (x01[x03.toNat]?.bind fun y =>
 br (CVal.fits false (1 : Nat) y)
 ((y.cell (0 : Nat)).bind fun c =>
 (br (!decide (x10 = (14 : Int))) (some (true, PUnit.unit))
 (br (decide ((200 : Int) < (↑x15.length : Int))) (some (true, PUnit.unit))
 (br (decide ((0 : Int) < x03))
 (br (decide ((0 : Int) ≤ IntKind.i64.wrap (x03 - (1 : Int))) && true)
 (x15[(IntKind.i64.wrap (x03 - (1 : Int))).toNat]?.bind fun y =>
 br (CVal.fits false (1 : Nat) y)
 ((y.cell (0 : Nat)).bind fun c_1 =>
 (CVal.asInt IntKind.i64 c_1).bind fun n =>
 (CVal.asInt IntKind.i64 c).bind fun n_1 => some (decide (n_1 ≤ n), PUnit.unit))
 none)
 none)
 (some (false, PUnit.unit))))).bind
 fun y =>
 br y.1 (some (LO.ret (CVal.bool false, [])))
 (L f_i_insOk (0 : Nat) lc_i_insOk_0 [] k_i_insOk_0
 ((PUnit.unit, x01, x02, IntKind.i64.wrap (x03 + (1 : Int)), PUnit.unit),
 (x10, x11, x12, x13, x14, x15, x16, PUnit.unit), PUnit.unit)))
 none)
 none)
 (some
 (LO.out (0 : Nat)
 ((PUnit.unit, x01, x02, x03, PUnit.unit), (x10, x11, x12, x13, x14, x15, x16, PUnit.unit), PUnit.unit)))
theorem el_i_insOk_0 (C : CallT) (L : LoopT) (x01 : List CVal) (x02 : Int) (x03 : Int) (x10 : Int) (x11 : Int) (x12 : Int) (x13 : Int) (x14 : Int) (x15 : List CVal) (x16 : Int) : evL E N C L f_i_insOk 0 lc_i_insOk_0 [] k_i_insOk_0 (((), x01, x02, x03, ()), (x10, x11, x12, x13, x14, x15, x16, ()), ()) = nl_i_insOk_0 C L x01 x02 x03 x10 x11 x12 x13 x14 x15 x16 := by kernel_rfl
theorem gl_i_insOk_0 (x01 : List CVal) (x02 : Int) (x03 : Int) (x10 : Int) (x11 : Int) (x12 : Int) (x13 : Int) (x14 : Int) (x15 : List CVal) (x16 : Int) (R : LO k_i_insOk_0.T) (h : nl_i_insOk_0 CC LL x01 x02 x03 x10 x11 x12 x13 x14 x15 x16 = some R) : LL f_i_insOk 0 lc_i_insOk_0 [] k_i_insOk_0 (((), x01, x02, x03, ()), (x10, x11, x12, x13, x14, x15, x16, ()), ()) = some R := loopW ((el_i_insOk_0 CC LL x01 x02 x03 x10 x11 x12 x13 x14 x15 x16).trans h)
end Go.Proofs.Ytmjjaoffeajcbaa.Abs
