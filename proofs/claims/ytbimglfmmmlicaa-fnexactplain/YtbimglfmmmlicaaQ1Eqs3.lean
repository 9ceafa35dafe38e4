/- What the functions come to in the abstract machine. -/
import Derived.Test.YtbimglfmmmlicaaQ1Ann
import Derived.KernelRfl
set_option linter.unusedVariables false
set_option maxRecDepth 100000
namespace Go.Proofs.Ytbimglfmmmlicaa.Abs
open Go Go.Proofs
noncomputable def nf_l_toTerm (C : CallT) (L : LoopT) (a0 : Int) (a1 : Int) (a2 : List UInt8) (a3 : List UInt8) (a40 : Int) (a41 : Int) (a42 : List CVal) (a5 : List CVal) (a6 : List CVal) : Option Ret :=
 (C f_l_toTy [AVal.v (CVal.agg [CVal.int IntKind.i64 a40, CVal.int IntKind.i64 a41, CVal.sl a42])] []).bind fun r =>
 br (CVal.isAggN (3 : Nat) r.1)
 ((r.1.cell (0 : Nat)).bind fun c =>
 (r.1.cell (1 : Nat)).bind fun c_1 =>
 (r.1.cell (2 : Nat)).bind fun c_2 =>
 c_2.asSl.bind fun xs =>
 (C f_l_toTyS [AVal.v (CVal.sl a5)] []).bind fun r =>
 br r.1.isFlat
 (r.1.asSl.bind fun xs_1 =>
 (C f_l_toTermS [AVal.v (CVal.sl a6)] []).bind fun r =>
 br r.1.isFlat
 (r.1.asSl.bind fun xs_2 =>
 (CVal.asInt IntKind.i64 c).bind fun n =>
 (CVal.asInt IntKind.i64 c_1).bind fun n_1 =>
 some
 (CVal.agg
 [CVal.int IntKind.i64 a0, CVal.int IntKind.i64 a1, CVal.str a2, CVal.str a3,
 CVal.int IntKind.i64 n, CVal.int IntKind.i64 n_1, CVal.sl xs, CVal.sl xs_1,
 CVal.sl xs_2],
 []))
 none)
 none)
 none
theorem eq_l_toTerm (C : CallT) (L : LoopT) (a0 : Int) (a1 : Int) (a2 : List UInt8) (a3 : List UInt8) (a40 : Int) (a41 : Int) (a42 : List CVal) (a5 : List CVal) (a6 : List CVal) : evF E N C L f_l_toTerm [AVal.v
 (CVal.agg
 [CVal.int IntKind.i64 a0, CVal.int IntKind.i64 a1, CVal.str a2, CVal.str a3, CVal.int IntKind.i64 a40,
 CVal.int IntKind.i64 a41, CVal.sl a42, CVal.sl a5, CVal.sl a6])] [] = nf_l_toTerm C L a0 a1 a2 a3 a40 a41 a42 a5 a6 := by kernel_rfl
theorem go_l_toTerm (a0 : Int) (a1 : Int) (a2 : List UInt8) (a3 : List UInt8) (a40 : Int) (a41 : Int) (a42 : List CVal) (a5 : List CVal) (a6 : List CVal) (R : Ret) (h : nf_l_toTerm CC LL a0 a1 a2 a3 a40 a41 a42 a5 a6 = some R) : CC f_l_toTerm [AVal.v
 (CVal.agg
 [CVal.int IntKind.i64 a0, CVal.int IntKind.i64 a1, CVal.str a2, CVal.str a3, CVal.int IntKind.i64 a40,
 CVal.int IntKind.i64 a41, CVal.sl a42, CVal.sl a5, CVal.sl a6])] [] = some R := fnW (by decide) rfl ((eq_l_toTerm CC LL a0 a1 a2 a3 a40 a41 a42 a5 a6).trans h)
noncomputable def nf_s_AllUnlike (C : CallT) (L : LoopT) (a0 : Int) (a1 : Int) (a2 : List UInt8) (a3 : List UInt8) (a40 : Int) (a41 : Int) (a42 : List CVal) (a5 : List CVal) (a6 : List CVal) : Option Ret :=
 (C f_s_Binders
 [AVal.v
 (CVal.agg
 [CVal.int IntKind.i64 a0, CVal.int IntKind.i64 a1, CVal.str a2, CVal.str a3, CVal.int IntKind.i64 a40,
 CVal.int IntKind.i64 a41, CVal.sl a42, CVal.sl a5, CVal.sl a6])]
 []).bind
 fun r =>
 r.1.asSl.bind fun xs =>
 (L f_s_AllUnlike (0 : Nat) lc_s_AllUnlike_0 [] k_s_AllUnlike_0
 ((PUnit.unit, xs, (0 : Int), PUnit.unit), (a0, a1, a2, a3, a40, a41, a42, a5, a6, PUnit.unit),
 PUnit.unit)).bind
 fun r =>
 loK r (fun r => some r) fun j p =>
 br (j == (0 : Nat))
 ((C f_s_TermOk
 [AVal.v
 (CVal.agg
 [CVal.int IntKind.i64 p.snd.fst.1, CVal.int IntKind.i64 p.snd.fst.snd.1,
 CVal.str p.snd.fst.snd.snd.1, CVal.str p.snd.fst.snd.snd.snd.1,
 CVal.int IntKind.i64 p.snd.fst.snd.snd.snd.snd.1,
 CVal.int IntKind.i64 p.snd.fst.snd.snd.snd.snd.snd.1,
 CVal.sl p.snd.fst.snd.snd.snd.snd.snd.snd.1, CVal.sl p.snd.fst.snd.snd.snd.snd.snd.snd.snd.1,
 CVal.sl p.snd.fst.snd.snd.snd.snd.snd.snd.snd.snd.1])]
 []).bind
 fun r => some (r.1, []))
 none
theorem eq_s_AllUnlike (C : CallT) (L : LoopT) (a0 : Int) (a1 : Int) (a2 : List UInt8) (a3 : List UInt8) (a40 : Int) (a41 : Int) (a42 : List CVal) (a5 : List CVal) (a6 : List CVal) : evF E N C L f_s_AllUnlike [AVal.v
 (CVal.agg
 [CVal.int IntKind.i64 a0, CVal.int IntKind.i64 a1, CVal.str a2, CVal.str a3, CVal.int IntKind.i64 a40,
 CVal.int IntKind.i64 a41, CVal.sl a42, CVal.sl a5, CVal.sl a6])] [] = nf_s_AllUnlike C L a0 a1 a2 a3 a40 a41 a42 a5 a6 := by kernel_rfl
theorem go_s_AllUnlike (a0 : Int) (a1 : Int) (a2 : List UInt8) (a3 : List UInt8) (a40 : Int) (a41 : Int) (a42 : List CVal) (a5 : List CVal) (a6 : List CVal) (R : Ret) (h : nf_s_AllUnlike CC LL a0 a1 a2 a3 a40 a41 a42 a5 a6 = some R) : CC f_s_AllUnlike [AVal.v
 (CVal.agg
 [CVal.int IntKind.i64 a0, CVal.int IntKind.i64 a1, CVal.str a2, CVal.str a3, CVal.int IntKind.i64 a40,
 CVal.int IntKind.i64 a41, CVal.sl a42, CVal.sl a5, CVal.sl a6])] [] = some R := fnW (by decide) rfl ((eq_s_AllUnlike CC LL a0 a1 a2 a3 a40 a41 a42 a5 a6).trans h)
noncomputable def nf_l_szTermS (C : CallT) (L : LoopT) (a : List CVal) (b : Int) : Option Ret :=
 br (decide (IntKind.i64.wrap (b - (↑a.length : Int)) < (0 : Int))) (some (CVal.int IntKind.i64 (-1 : Int), []))
 ((L f_l_szTermS (0 : Nat) lc_l_szTermS_0 [] k_l_szTermS_0
 ((a, IntKind.i64.wrap (b - (↑a.length : Int)), (0 : Int), PUnit.unit), PUnit.unit)).bind
 fun r => loK r (fun r => some r) fun j p => br (j == (0 : Nat)) (some (CVal.int IntKind.i64 p.fst.snd.1, [])) none)
theorem eq_l_szTermS (C : CallT) (L : LoopT) (a : List CVal) (b : Int) : evF E N C L f_l_szTermS [AVal.v (CVal.sl a), AVal.v (CVal.int IntKind.i64 b)] [] = nf_l_szTermS C L a b := by kernel_rfl
theorem go_l_szTermS (a : List CVal) (b : Int) (R : Ret) (h : nf_l_szTermS CC LL a b = some R) : CC f_l_szTermS [AVal.v (CVal.sl a), AVal.v (CVal.int IntKind.i64 b)] [] = some R := fnW (by decide) rfl ((eq_l_szTermS CC LL a b).trans h)
noncomputable def nf_s_TermOk (C : CallT) (L : LoopT) (a0 : Int) (a1 : Int) (a2 : List UInt8) (a3 : List UInt8) (a40 : Int) (a41 : Int) (a42 : List CVal) (a5 : List CVal) (a6 : List CVal) : Option Ret :=
 (C f_s_l2Look
 [AVal.v
 (CVal.agg
 [CVal.int IntKind.i64 a0, CVal.int IntKind.i64 a1, CVal.str a2, CVal.str a3, CVal.int IntKind.i64 a40,
 CVal.int IntKind.i64 a41, CVal.sl a42, CVal.sl a5, CVal.sl a6]),
 AVal.v (CVal.int IntKind.i64 (24 : Int)), AVal.lptr (0 : Nat) (0 : Nat)]
 [PB.box [AVal.v (CVal.int IntKind.i64 (0 : Int))]]).bind
 fun r => r.2[(0 : Nat)]?.bind fun y => y[(0 : Nat)]?.bind fun y => some (r.1, [])
theorem eq_s_TermOk (C : CallT) (L : LoopT) (a0 : Int) (a1 : Int) (a2 : List UInt8) (a3 : List UInt8) (a40 : Int) (a41 : Int) (a42 : List CVal) (a5 : List CVal) (a6 : List CVal) : evF E N C L f_s_TermOk [AVal.v
 (CVal.agg
 [CVal.int IntKind.i64 a0, CVal.int IntKind.i64 a1, CVal.str a2, CVal.str a3, CVal.int IntKind.i64 a40,
 CVal.int IntKind.i64 a41, CVal.sl a42, CVal.sl a5, CVal.sl a6])] [] = nf_s_TermOk C L a0 a1 a2 a3 a40 a41 a42 a5 a6 := by kernel_rfl
theorem go_s_TermOk (a0 : Int) (a1 : Int) (a2 : List UInt8) (a3 : List UInt8) (a40 : Int) (a41 : Int) (a42 : List CVal) (a5 : List CVal) (a6 : List CVal) (R : Ret) (h : nf_s_TermOk CC LL a0 a1 a2 a3 a40 a41 a42 a5 a6 = some R) : CC f_s_TermOk [AVal.v
 (CVal.agg
 [CVal.int IntKind.i64 a0, CVal.int IntKind.i64 a1, CVal.str a2, CVal.str a3, CVal.int IntKind.i64 a40,
 CVal.int IntKind.i64 a41, CVal.sl a42, CVal.sl a5, CVal.sl a6])] [] = some R := fnW (by decide) rfl ((eq_s_TermOk CC LL a0 a1 a2 a3 a40 a41 a42 a5 a6).trans h)
noncomputable def nf_i_Plain_1 (C : CallT) (L : LoopT) (a0 : Int) (a1 : Int) (a2 : List UInt8) (a3 : List UInt8) (a40 : Int) (a41 : Int) (a42 : List CVal) (a5 : List CVal) (a6 : List CVal) : Option Ret :=
 ((C f_strings_Contains [AVal.v (CVal.str a2), AVal.v (CVal.str [(46 : UInt8)])] []).bind fun r =>
 r.1.asBool.bind fun b =>
 br b (some (true, PUnit.unit))
 ((C f_strings_Contains [AVal.v (CVal.str a3), AVal.v (CVal.str [(46 : UInt8)])] []).bind fun r =>
 (bif false then CVal.bool true else r.1).asBool.bind fun b => some (b, PUnit.unit))).bind
 fun y => some (CVal.bool y.1, [])
theorem eq_i_Plain_1 (C : CallT) (L : LoopT) (a0 : Int) (a1 : Int) (a2 : List UInt8) (a3 : List UInt8) (a40 : Int) (a41 : Int) (a42 : List CVal) (a5 : List CVal) (a6 : List CVal) : evF E N C L f_i_Plain_1 [AVal.v
 (CVal.agg
 [CVal.int IntKind.i64 a0, CVal.int IntKind.i64 a1, CVal.str a2, CVal.str a3, CVal.int IntKind.i64 a40,
 CVal.int IntKind.i64 a41, CVal.sl a42, CVal.sl a5, CVal.sl a6])] [] = nf_i_Plain_1 C L a0 a1 a2 a3 a40 a41 a42 a5 a6 := by kernel_rfl
theorem go_i_Plain_1 (a0 : Int) (a1 : Int) (a2 : List UInt8) (a3 : List UInt8) (a40 : Int) (a41 : Int) (a42 : List CVal) (a5 : List CVal) (a6 : List CVal) (R : Ret) (h : nf_i_Plain_1 CC LL a0 a1 a2 a3 a40 a41 a42 a5 a6 = some R) : CC f_i_Plain_1 [AVal.v
 (CVal.agg
 [CVal.int IntKind.i64 a0, CVal.int IntKind.i64 a1, CVal.str a2, CVal.str a3, CVal.int IntKind.i64 a40,
 CVal.int IntKind.i64 a41, CVal.sl a42, CVal.sl a5, CVal.sl a6])] [] = some R := fnW (by decide) rfl ((eq_i_Plain_1 CC LL a0 a1 a2 a3 a40 a41 a42 a5 a6).trans h)
noncomputable def nf_s_Binders (C : CallT) (L : LoopT) (a0 : Int) (a1 : Int) (a2 : List UInt8) (a3 : List UInt8) (a40 : Int) (a41 : Int) (a42 : List CVal) (a5 : List CVal) (a6 : List CVal) : Option Ret :=
 (C f_s_TermOk
 [AVal.v
 (CVal.agg
 [CVal.int IntKind.i64 a0, CVal.int IntKind.i64 a1, CVal.str a2, CVal.str a3, CVal.int IntKind.i64 a40,
 CVal.int IntKind.i64 a41, CVal.sl a42, CVal.sl a5, CVal.sl a6])]
 []).bind
 fun r =>
 r.1.asBool.bind fun b =>
 br (!b) (some (CVal.sl [], []))
 ((C f_s_l6Binders
 [AVal.v
 (CVal.agg
 [CVal.int IntKind.i64 a0, CVal.int IntKind.i64 a1, CVal.str a2, CVal.str a3, CVal.int IntKind.i64 a40,
 CVal.int IntKind.i64 a41, CVal.sl a42, CVal.sl a5, CVal.sl a6]),
 AVal.lref (0 : Nat) (0 : Nat)]
 [PB.arr (Md.mk true false (0 : Nat)) false (1 : Nat) []]).bind
 fun r => r.2[(0 : Nat)]?.bind fun y => some (CVal.sl y, []))
theorem eq_s_Binders (C : CallT) (L : LoopT) (a0 : Int) (a1 : Int) (a2 : List UInt8) (a3 : List UInt8) (a40 : Int) (a41 : Int) (a42 : List CVal) (a5 : List CVal) (a6 : List CVal) : evF E N C L f_s_Binders [AVal.v
 (CVal.agg
 [CVal.int IntKind.i64 a0, CVal.int IntKind.i64 a1, CVal.str a2, CVal.str a3, CVal.int IntKind.i64 a40,
 CVal.int IntKind.i64 a41, CVal.sl a42, CVal.sl a5, CVal.sl a6])] [] = nf_s_Binders C L a0 a1 a2 a3 a40 a41 a42 a5 a6 := by kernel_rfl
theorem go_s_Binders (a0 : Int) (a1 : Int) (a2 : List UInt8) (a3 : List UInt8) (a40 : Int) (a41 : Int) (a42 : List CVal) (a5 : List CVal) (a6 : List CVal) (R : Ret) (h : nf_s_Binders CC LL a0 a1 a2 a3 a40 a41 a42 a5 a6 = some R) : CC f_s_Binders [AVal.v
 (CVal.agg
 [CVal.int IntKind.i64 a0, CVal.int IntKind.i64 a1, CVal.str a2, CVal.str a3, CVal.int IntKind.i64 a40,
 CVal.int IntKind.i64 a41, CVal.sl a42, CVal.sl a5, CVal.sl a6])] [] = some R := fnW (by decide) rfl ((eq_s_Binders CC LL a0 a1 a2 a3 a40 a41 a42 a5 a6).trans h)
noncomputable def nf_s_l2Name (C : CallT) (L : LoopT) (a : List UInt8) (b : Bool) : Option Ret :=
 ((C f_s_l1In
 [AVal.v (CVal.int IntKind.i64 (↑a.length : Int)), AVal.v (CVal.int IntKind.i64 (1 : Int)),
 AVal.v (CVal.int IntKind.i64 (8 : Int))]
 []).bind
 fun r =>
 r.1.asBool.bind fun b =>
 br (!b) (some (true, PUnit.unit))
 (a[(0 : Nat)]?.bind fun y =>
 (C f_s_l1In
 [AVal.v (CVal.int IntKind.i64 (IntKind.i64.wrap (↑y.toNat : Int))),
 AVal.v (CVal.int IntKind.i64 (97 : Int)), AVal.v (CVal.int IntKind.i64 (122 : Int))]
 []).bind
 fun r => r.1.asBool.bind fun b => some (!b, PUnit.unit))).bind
 fun y =>
 br y.1 (some (CVal.bool false, []))
 ((L f_s_l2Name (0 : Nat) lc_s_l2Name_0 [] k_s_l2Name_0 ((a, b, (0 : Int), PUnit.unit), PUnit.unit)).bind fun r =>
 loK r (fun r => some r) fun j p => br (j == (0 : Nat)) (some (CVal.bool true, [])) none)
theorem eq_s_l2Name (C : CallT) (L : LoopT) (a : List UInt8) (b : Bool) : evF E N C L f_s_l2Name [AVal.v (CVal.str a), AVal.v (CVal.bool b)] [] = nf_s_l2Name C L a b := by kernel_rfl
theorem go_s_l2Name (a : List UInt8) (b : Bool) (R : Ret) (h : nf_s_l2Name CC LL a b = some R) : CC f_s_l2Name [AVal.v (CVal.str a), AVal.v (CVal.bool b)] [] = some R := fnW (by decide) rfl ((eq_s_l2Name CC LL a b).trans h)
noncomputable def nf_s_l6Binders (C : CallT) (L : LoopT) (a0 : Int) (a1 : Int) (a2 : List UInt8) (a3 : List UInt8) (a40 : Int) (a41 : Int) (a42 : List CVal) (a5 : List CVal) (a6 : List CVal) (b : List CVal) : Option Ret :=
 (C f_s_l6Own
 [AVal.v
 (CVal.agg
 [CVal.int IntKind.i64 a0, CVal.int IntKind.i64 a1, CVal.str a2, CVal.str a3, CVal.int IntKind.i64 a40,
 CVal.int IntKind.i64 a41, CVal.sl a42, CVal.sl a5, CVal.sl a6])]
 []).bind
 fun r =>
 r.1.asSl.bind fun xs =>
 br (xs.all (CVal.fitsF false [CK.str]))
 (br (decide (b.length + xs.length ≤ (4294967296 : Nat)) && true && true)
 ((L f_s_l6Binders (0 : Nat) lc_s_l6Binders_0 [PSh.arr (Md.mk true false (0 : Nat)) false (1 : Nat)]
 k_s_l6Binders_0
 ((PUnit.unit, PUnit.unit, (0 : Int), PUnit.unit), b ++ xs,
 (a0, a1, a2, a3, a40, a41, a42, a5, a6, PUnit.unit), PUnit.unit)).bind
 fun r => loK r (fun r => some r) fun j p => br (j == (0 : Nat)) (some (CVal.nilp, [p.snd.1])) none)
 none)
 none
theorem eq_s_l6Binders (C : CallT) (L : LoopT) (a0 : Int) (a1 : Int) (a2 : List UInt8) (a3 : List UInt8) (a40 : Int) (a41 : Int) (a42 : List CVal) (a5 : List CVal) (a6 : List CVal) (b : List CVal) : evF E N C L f_s_l6Binders [AVal.v
 (CVal.agg
 [CVal.int IntKind.i64 a0, CVal.int IntKind.i64 a1, CVal.str a2, CVal.str a3, CVal.int IntKind.i64 a40,
 CVal.int IntKind.i64 a41, CVal.sl a42, CVal.sl a5, CVal.sl a6]),
 AVal.lref (0 : Nat) (0 : Nat)] [PB.arr (Md.mk true false (0 : Nat)) false (1 : Nat) b] = nf_s_l6Binders C L a0 a1 a2 a3 a40 a41 a42 a5 a6 b := by kernel_rfl
theorem go_s_l6Binders (a0 : Int) (a1 : Int) (a2 : List UInt8) (a3 : List UInt8) (a40 : Int) (a41 : Int) (a42 : List CVal) (a5 : List CVal) (a6 : List CVal) (b : List CVal) (R : Ret) (h : nf_s_l6Binders CC LL a0 a1 a2 a3 a40 a41 a42 a5 a6 b = some R) : CC f_s_l6Binders [AVal.v
 (CVal.agg
 [CVal.int IntKind.i64 a0, CVal.int IntKind.i64 a1, CVal.str a2, CVal.str a3, CVal.int IntKind.i64 a40,
 CVal.int IntKind.i64 a41, CVal.sl a42, CVal.sl a5, CVal.sl a6]),
 AVal.lref (0 : Nat) (0 : Nat)] [PB.arr (Md.mk true false (0 : Nat)) false (1 : Nat) b] = some R := fnW (by decide) rfl ((eq_s_l6Binders CC LL a0 a1 a2 a3 a40 a41 a42 a5 a6 b).trans h)
noncomputable def nf_i_headOk (C : CallT) (L : LoopT) (a0 : Int) (a1 : Int) (a2 : List UInt8) (a3 : List UInt8) (a40 : Int) (a41 : Int) (a42 : List CVal) (a5 : List CVal) (a6 : List CVal) : Option Ret :=
 ((C f_i_parts [AVal.v (CVal.int IntKind.i64 a0)] []).bind fun r =>
 (CVal.asInt IntKind.i64 r.1).bind fun n =>
 br (!decide ((↑a6.length : Int) = n)) (some (true, PUnit.unit))
 ((C f_i_numberOk [AVal.v (CVal.int IntKind.i64 a0), AVal.v (CVal.int IntKind.i64 a1)] []).bind fun r =>
 r.1.asBool.bind fun b =>
 br (!b) (some (true, PUnit.unit))
 ((C f_i_namesOk [AVal.v (CVal.int IntKind.i64 a0), AVal.v (CVal.str a2), AVal.v (CVal.str a3)] []).bind
 fun r =>
 r.1.asBool.bind fun b =>
 br (!b) (some (true, PUnit.unit))
 (br (decide (a0 = (7 : Int)))
 (a6[(0 : Nat)]?.bind fun y =>
 br (CVal.fits true (9 : Nat) y)
 ((y.cell (0 : Nat)).bind fun c =>
 (CVal.asInt IntKind.i64 c).bind fun n => some (!decide (n = (4 : Int)), PUnit.unit))
 none)
 (some (false, PUnit.unit)))))).bind
 fun y =>
 br y.1 (some (CVal.bool false, []))
 (((C f_i_hasT [AVal.v (CVal.int IntKind.i64 a0)] []).bind fun r =>
 (C f_i_TyOk [AVal.v (CVal.agg [CVal.int IntKind.i64 a40, CVal.int IntKind.i64 a41, CVal.sl a42])] []).bind
 fun r_1 =>
 r.1.asBool.bind fun b =>
 r_1.1.asBool.bind fun b_1 =>
 br (!b == b_1) (some (true, PUnit.unit))
 ((C f_i_hasT [AVal.v (CVal.int IntKind.i64 a0)] []).bind fun r =>
 r.1.asBool.bind fun b =>
 br (!b)
 ((C f_i_SameTy
 [AVal.v (CVal.agg [CVal.int IntKind.i64 a40, CVal.int IntKind.i64 a41, CVal.sl a42]),
 AVal.v
 (CVal.agg
 [CVal.int IntKind.i64 (0 : Int), CVal.int IntKind.i64 (0 : Int), CVal.sl []])]
 []).bind
 fun r => br (!scalar r.1) none (r.1.asBool.bind fun b => some (!b, PUnit.unit)))
 (some (false, PUnit.unit)))).bind
 fun y =>
 br y.1 (some (CVal.bool false, []))
 (br (decide (a0 = (3 : Int)))
 ((br (decide ((↑a5.length : Int) ≤ (2 : Int)))
 ((C f_slices_ContainsFunc_Ty [AVal.v (CVal.sl a5), AVal.v (CVal.func f_i_headOk_1 [])] []).bind fun r =>
 r.1.asBool.bind fun b => some (!b, PUnit.unit))
 (some (false, PUnit.unit))).bind
 fun y => some (CVal.bool y.1, []))
 ((br (decide ((↑a5.length : Int) ≤ (0 : Int)))
 ((C f_slices_ContainsFunc_Ty [AVal.v (CVal.sl a5), AVal.v (CVal.func f_i_headOk_1 [])] []).bind fun r =>
 r.1.asBool.bind fun b => some (!b, PUnit.unit))
 (some (false, PUnit.unit))).bind
 fun y => some (CVal.bool y.1, []))))
theorem eq_i_headOk (C : CallT) (L : LoopT) (a0 : Int) (a1 : Int) (a2 : List UInt8) (a3 : List UInt8) (a40 : Int) (a41 : Int) (a42 : List CVal) (a5 : List CVal) (a6 : List CVal) : evF E N C L f_i_headOk [AVal.v
 (CVal.agg
 [CVal.int IntKind.i64 a0, CVal.int IntKind.i64 a1, CVal.str a2, CVal.str a3, CVal.int IntKind.i64 a40,
 CVal.int IntKind.i64 a41, CVal.sl a42, CVal.sl a5, CVal.sl a6])] [] = nf_i_headOk C L a0 a1 a2 a3 a40 a41 a42 a5 a6 := by kernel_rfl
theorem go_i_headOk (a0 : Int) (a1 : Int) (a2 : List UInt8) (a3 : List UInt8) (a40 : Int) (a41 : Int) (a42 : List CVal) (a5 : List CVal) (a6 : List CVal) (R : Ret) (h : nf_i_headOk CC LL a0 a1 a2 a3 a40 a41 a42 a5 a6 = some R) : CC f_i_headOk [AVal.v
 (CVal.agg
 [CVal.int IntKind.i64 a0, CVal.int IntKind.i64 a1, CVal.str a2, CVal.str a3, CVal.int IntKind.i64 a40,
 CVal.int IntKind.i64 a41, CVal.sl a42, CVal.sl a5, CVal.sl a6])] [] = some R := fnW (by decide) rfl ((eq_i_headOk CC LL a0 a1 a2 a3 a40 a41 a42 a5 a6).trans h)
noncomputable def nf_s_l2Of (C : CallT) (L : LoopT) (a : Int) : Option Ret :=
 br (decide (a = (1 : Int)))
 (some
 (CVal.agg
 [CVal.int IntKind.i64 (0 : Int), CVal.int IntKind.i64 (1 : Int), CVal.bool false, CVal.bool false,
 CVal.bool false],
 []))
 (br (decide (a = (2 : Int)))
 (some
 (CVal.agg
 [CVal.int IntKind.i64 (0 : Int), CVal.int IntKind.i64 (1 : Int), CVal.bool false, CVal.bool false,
 CVal.bool false],
 []))
 (br (decide (a = (3 : Int)))
 (some
 (CVal.agg
 [CVal.int IntKind.i64 (0 : Int), CVal.int IntKind.i64 (0 : Int), CVal.bool true, CVal.bool false,
 CVal.bool false],
 []))
 (br (decide (a = (4 : Int)))
 (some
 (CVal.agg
 [CVal.int IntKind.i64 (1 : Int), CVal.int IntKind.i64 (0 : Int), CVal.bool true, CVal.bool false,
 CVal.bool true],
 []))
 (br (decide (a = (5 : Int)))
 (some
 (CVal.agg
 [CVal.int IntKind.i64 (2 : Int), CVal.int IntKind.i64 (0 : Int), CVal.bool false, CVal.bool false,
 CVal.bool false],
 []))
 (br (decide (a = (9 : Int)))
 (some
 (CVal.agg
 [CVal.int IntKind.i64 (2 : Int), CVal.int IntKind.i64 (0 : Int), CVal.bool false, CVal.bool false,
 CVal.bool false],
 []))
 (br (decide (a = (13 : Int)))
 (some
 (CVal.agg
 [CVal.int IntKind.i64 (2 : Int), CVal.int IntKind.i64 (0 : Int), CVal.bool false, CVal.bool false,
 CVal.bool false],
 []))
 (br (decide (a = (6 : Int)))
 (some
 (CVal.agg
 [CVal.int IntKind.i64 (2 : Int), CVal.int IntKind.i64 (1 : Int), CVal.bool true, CVal.bool false,
 CVal.bool false],
 []))
 (br (decide (a = (7 : Int)))
 (some
 (CVal.agg
 [CVal.int IntKind.i64 (2 : Int), CVal.int IntKind.i64 (1 : Int), CVal.bool true,
 CVal.bool false, CVal.bool true],
 []))
 (br (decide (a = (8 : Int)))
 (some
 (CVal.agg
 [CVal.int IntKind.i64 (3 : Int), CVal.int IntKind.i64 (0 : Int), CVal.bool false,
 CVal.bool false, CVal.bool false],
 []))
 (br (decide (a = (10 : Int)))
 (some
 (CVal.agg
 [CVal.int IntKind.i64 (1 : Int), CVal.int IntKind.i64 (0 : Int), CVal.bool false,
 CVal.bool false, CVal.bool false],
 []))
 (br (decide (a = (11 : Int)))
 (some
 (CVal.agg
 [CVal.int IntKind.i64 (1 : Int), CVal.int IntKind.i64 (0 : Int), CVal.bool false,
 CVal.bool false, CVal.bool false],
 []))
 (br (decide (a = (12 : Int)))
 (some
 (CVal.agg
 [CVal.int IntKind.i64 (0 : Int), CVal.int IntKind.i64 (0 : Int), CVal.bool false,
 CVal.bool false, CVal.bool true],
 []))
 (br (decide (a = (14 : Int)))
 (some
 (CVal.agg
 [CVal.int IntKind.i64 (3 : Int), CVal.int IntKind.i64 (0 : Int), CVal.bool true,
 CVal.bool true, CVal.bool false],
 []))
 (br (decide (a = (15 : Int)))
 (some
 (CVal.agg
 [CVal.int IntKind.i64 (2 : Int), CVal.int IntKind.i64 (1 : Int), CVal.bool false,
 CVal.bool false, CVal.bool false],
 []))
 (br (decide (a = (16 : Int)))
 (some
 (CVal.agg
 [CVal.int IntKind.i64 (1 : Int), CVal.int IntKind.i64 (0 : Int), CVal.bool false,
 CVal.bool false, CVal.bool true],
 []))
 (br (decide (a = (17 : Int)))
 (some
 (CVal.agg
 [CVal.int IntKind.i64 (2 : Int), CVal.int IntKind.i64 (0 : Int), CVal.bool true,
 CVal.bool false, CVal.bool false],
 []))
 (some
 (CVal.agg
 [CVal.int IntKind.i64 (-1 : Int), CVal.int IntKind.i64 (0 : Int),
 CVal.bool false, CVal.bool false, CVal.bool false],
 []))))))))))))))))))
theorem eq_s_l2Of (C : CallT) (L : LoopT) (a : Int) : evF E N C L f_s_l2Of [AVal.v (CVal.int IntKind.i64 a)] [] = nf_s_l2Of C L a := by kernel_rfl
theorem go_s_l2Of (a : Int) (R : Ret) (h : nf_s_l2Of CC LL a = some R) : CC f_s_l2Of [AVal.v (CVal.int IntKind.i64 a)] [] = some R := fnW (by decide) rfl ((eq_s_l2Of CC LL a).trans h)
noncomputable def nf_i_parts (C : CallT) (L : LoopT) (a : Int) : Option Ret :=
 br (decide (a = (1 : Int))) (some (CVal.int IntKind.i64 (0 : Int), []))
 (br (decide (a = (2 : Int))) (some (CVal.int IntKind.i64 (0 : Int), []))
 (br (decide (a = (3 : Int))) (some (CVal.int IntKind.i64 (0 : Int), []))
 (br (decide (a = (12 : Int))) (some (CVal.int IntKind.i64 (0 : Int), []))
 (br (decide (a = (4 : Int))) (some (CVal.int IntKind.i64 (1 : Int), []))
 (br (decide (a = (10 : Int))) (some (CVal.int IntKind.i64 (1 : Int), []))
 (br (decide (a = (11 : Int))) (some (CVal.int IntKind.i64 (1 : Int), []))
 (br (decide (a = (16 : Int))) (some (CVal.int IntKind.i64 (1 : Int), []))
 (br (decide (a = (5 : Int))) (some (CVal.int IntKind.i64 (2 : Int), []))
 (br (decide (a = (6 : Int))) (some (CVal.int IntKind.i64 (2 : Int), []))
 (br (decide (a = (7 : Int))) (some (CVal.int IntKind.i64 (2 : Int), []))
 (br (decide (a = (9 : Int))) (some (CVal.int IntKind.i64 (2 : Int), []))
 (br (decide (a = (13 : Int))) (some (CVal.int IntKind.i64 (2 : Int), []))
 (br (decide (a = (15 : Int))) (some (CVal.int IntKind.i64 (2 : Int), []))
 (br (decide (a = (17 : Int))) (some (CVal.int IntKind.i64 (2 : Int), []))
 (br (decide (a = (8 : Int))) (some (CVal.int IntKind.i64 (3 : Int), []))
 (br (decide (a = (14 : Int))) (some (CVal.int IntKind.i64 (3 : Int), []))
 (some (CVal.int IntKind.i64 (-1 : Int), []))))))))))))))))))
theorem eq_i_parts (C : CallT) (L : LoopT) (a : Int) : evF E N C L f_i_parts [AVal.v (CVal.int IntKind.i64 a)] [] = nf_i_parts C L a := by kernel_rfl
theorem go_i_parts (a : Int) (R : Ret) (h : nf_i_parts CC LL a = some R) : CC f_i_parts [AVal.v (CVal.int IntKind.i64 a)] [] = some R := fnW (by decide) rfl ((eq_i_parts CC LL a).trans h)
noncomputable def nf_i_TyOk (C : CallT) (L : LoopT) (a0 : Int) (a1 : Int) (a2 : List CVal) : Option Ret :=
 (C f_i_measure [AVal.v (CVal.agg [CVal.int IntKind.i64 a0, CVal.int IntKind.i64 a1, CVal.sl a2])] []).bind fun r =>
 r.1.asTup.bind fun y =>
 y[(0 : Nat)]?.bind fun y =>
 r.1.asTup.bind fun y_1 =>
 y_1[(1 : Nat)]?.bind fun y_2 =>
 r.1.asTup.bind fun y_3 =>
 y_3[(2 : Nat)]?.bind fun y_4 =>
 (y_4.asBool.bind fun b =>
 br b
 ((CVal.asInt IntKind.i64 y).bind fun n =>
 br (decide (n ≤ (6 : Int)))
 ((CVal.asInt IntKind.i64 y_2).bind fun n => some (decide (n ≤ (60 : Int)), PUnit.unit))
 (some (false, PUnit.unit)))
 (some (false, PUnit.unit))).bind
 fun y => some (CVal.bool y.1, [])
theorem eq_i_TyOk (C : CallT) (L : LoopT) (a0 : Int) (a1 : Int) (a2 : List CVal) : evF E N C L f_i_TyOk [AVal.v (CVal.agg [CVal.int IntKind.i64 a0, CVal.int IntKind.i64 a1, CVal.sl a2])] [] = nf_i_TyOk C L a0 a1 a2 := by kernel_rfl
theorem go_i_TyOk (a0 : Int) (a1 : Int) (a2 : List CVal) (R : Ret) (h : nf_i_TyOk CC LL a0 a1 a2 = some R) : CC f_i_TyOk [AVal.v (CVal.agg [CVal.int IntKind.i64 a0, CVal.int IntKind.i64 a1, CVal.sl a2])] [] = some R := fnW (by decide) rfl ((eq_i_TyOk CC LL a0 a1 a2).trans h)
noncomputable def nf_s_l1Look (C : CallT) (L : LoopT) (a0 : Int) (a1 : Int) (a2 : List CVal) (b : Int) (c : Int) : Option Ret :=
 (br (decide (b = (0 : Int))) (some (true, PUnit.unit))
 (br (decide ((60 : Int) < IntKind.i64.wrap (c + (1 : Int)))) (some (true, PUnit.unit))
 ((C f_s_l1Args [AVal.v (CVal.int IntKind.i64 a0)] []).bind fun r =>
 (CVal.asInt IntKind.i64 r.1).bind fun n =>
 br (!decide ((↑a2.length : Int) = n)) (some (true, PUnit.unit))
 (br (decide (a0 = (3 : Int)))
 ((C f_s_l1In
 [AVal.v (CVal.int IntKind.i64 a1), AVal.v (CVal.int IntKind.i64 (0 : Int)),
 AVal.v (CVal.int IntKind.i64 (1 : Int))]
 []).bind
 fun r =>
 r.1.asBool.bind fun b =>
 br (!b) (some (true, PUnit.unit))
 (br (!decide (a0 = (3 : Int))) (some (!decide (a1 = (0 : Int)), PUnit.unit))
 (some (false, PUnit.unit))))
 (br (!decide (a0 = (3 : Int))) (some (!decide (a1 = (0 : Int)), PUnit.unit))
 (some (false, PUnit.unit))))))).bind
 fun y =>
 br y.1 (some (CVal.bool false, [[CVal.int IntKind.i64 (IntKind.i64.wrap (c + (1 : Int)))]]))
 ((L f_s_l1Look (0 : Nat) lc_s_l1Look_0 [PSh.box [none]] k_s_l1Look_0
 ((b, PUnit.unit, PUnit.unit, (0 : Int), PUnit.unit), (IntKind.i64.wrap (c + (1 : Int)), PUnit.unit),
 (a0, a1, a2, PUnit.unit), PUnit.unit)).bind
 fun r =>
 loK r (fun r => some r) fun j p =>
 br (j == (0 : Nat)) (some (CVal.bool true, [[CVal.int IntKind.i64 p.snd.fst.1]])) none)
theorem eq_s_l1Look (C : CallT) (L : LoopT) (a0 : Int) (a1 : Int) (a2 : List CVal) (b : Int) (c : Int) : evF E N C L f_s_l1Look [AVal.v (CVal.agg [CVal.int IntKind.i64 a0, CVal.int IntKind.i64 a1, CVal.sl a2]), AVal.v (CVal.int IntKind.i64 b),
 AVal.lptr (0 : Nat) (0 : Nat)] [PB.box [AVal.v (CVal.int IntKind.i64 c)]] = nf_s_l1Look C L a0 a1 a2 b c := by kernel_rfl
theorem go_s_l1Look (a0 : Int) (a1 : Int) (a2 : List CVal) (b : Int) (c : Int) (R : Ret) (h : nf_s_l1Look CC LL a0 a1 a2 b c = some R) : CC f_s_l1Look [AVal.v (CVal.agg [CVal.int IntKind.i64 a0, CVal.int IntKind.i64 a1, CVal.sl a2]), AVal.v (CVal.int IntKind.i64 b),
 AVal.lptr (0 : Nat) (0 : Nat)] [PB.box [AVal.v (CVal.int IntKind.i64 c)]] = some R := fnW (by decide) rfl ((eq_s_l1Look CC LL a0 a1 a2 b c).trans h)
noncomputable def nf_slices_EqualFunc_Ty (C : CallT) (L : LoopT) (a : List CVal) (b : List CVal) (c : CVal) : Option Ret :=
 br (!decide ((↑a.length : Int) = (↑b.length : Int))) (some (CVal.bool false, []))
 ((L f_slices_EqualFunc_Ty (0 : Nat) lc_slices_EqualFunc_Ty_0 [] k_slices_EqualFunc_Ty_0
 ((b, c, a, (↑a.length : Int), (0 : Int), PUnit.unit), PUnit.unit)).bind
 fun r => loK r (fun r => some r) fun j p => br (j == (0 : Nat)) (some (CVal.bool true, [])) none)
theorem eq_slices_EqualFunc_Ty (C : CallT) (L : LoopT) (a : List CVal) (b : List CVal) (c : CVal) : evF E N C L f_slices_EqualFunc_Ty [AVal.v (CVal.sl a), AVal.v (CVal.sl b), AVal.v c] [] = nf_slices_EqualFunc_Ty C L a b c := by kernel_rfl
theorem go_slices_EqualFunc_Ty (a : List CVal) (b : List CVal) (c : CVal) (R : Ret) (h : nf_slices_EqualFunc_Ty CC LL a b c = some R) : CC f_slices_EqualFunc_Ty [AVal.v (CVal.sl a), AVal.v (CVal.sl b), AVal.v c] [] = some R := fnW (by decide) rfl ((eq_slices_EqualFunc_Ty CC LL a b c).trans h)
noncomputable def nl_s_AllUnlike_0 (C : CallT) (L : LoopT) (x01 : List CVal) (x02 : Int) (x10 : Int) (x11 : Int) (x12 : List UInt8) (x13 : List UInt8) (x14 : Int) (x15 : Int) (x16 : List CVal) (x17 : List CVal) (x18 : List CVal) : Option (LO k_s_AllUnlike_0.T) :=
 br (decide (x02 < (↑x01.length : Int)))
 (br (decide ((0 : Int) ≤ x02) && decide (x02 ≤ (↑x01.length : Int)) && x01.all (CVal.fits false (1 : Nat)))
 (br (decide ((0 : Int) ≤ x02) && true)
 (x01[x02.toNat]?.bind fun y =>
 br (CVal.fits false (1 : Nat) y)
 ((y.cell (0 : Nat)).bind fun c =>
 (C f_s_l2Has [AVal.v (CVal.sl (List.drop (0 : Nat) (List.take x02.toNat x01))), AVal.v c] []).bind fun r =>
 r.1.asBool.bind fun b =>
 br b (some (LO.ret (CVal.bool false, [])))
 (L f_s_AllUnlike (0 : Nat) lc_s_AllUnlike_0 [] k_s_AllUnlike_0
 ((PUnit.unit, x01, IntKind.i64.wrap (x02 + (1 : Int)), PUnit.unit),
 (x10, x11, x12, x13, x14, x15, x16, x17, x18, PUnit.unit), PUnit.unit)))
 none)
 none)
 none)
 (some
 (LO.out (0 : Nat)
 ((PUnit.unit, x01, x02, PUnit.unit), (x10, x11, x12, x13, x14, x15, x16, x17, x18, PUnit.unit), PUnit.unit)))
theorem el_s_AllUnlike_0 (C : CallT) (L : LoopT) (x01 : List CVal) (x02 : Int) (x10 : Int) (x11 : Int) (x12 : List UInt8) (x13 : List UInt8) (x14 : Int) (x15 : Int) (x16 : List CVal) (x17 : List CVal) (x18 : List CVal) : evL E N C L f_s_AllUnlike 0 lc_s_AllUnlike_0 [] k_s_AllUnlike_0 (((), x01, x02, ()), (x10, x11, x12, x13, x14, x15, x16, x17, x18, ()), ()) = nl_s_AllUnlike_0 C L x01 x02 x10 x11 x12 x13 x14 x15 x16 x17 x18 := by kernel_rfl
theorem gl_s_AllUnlike_0 (x01 : List CVal) (x02 : Int) (x10 : Int) (x11 : Int) (x12 : List UInt8) (x13 : List UInt8) (x14 : Int) (x15 : Int) (x16 : List CVal) (x17 : List CVal) (x18 : List CVal) (R : LO k_s_AllUnlike_0.T) (h : nl_s_AllUnlike_0 CC LL x01 x02 x10 x11 x12 x13 x14 x15 x16 x17 x18 = some R) : LL f_s_AllUnlike 0 lc_s_AllUnlike_0 [] k_s_AllUnlike_0 (((), x01, x02, ()), (x10, x11, x12, x13, x14, x15, x16, x17, x18, ()), ()) = some R := loopW ((el_s_AllUnlike_0 CC LL x01 x02 x10 x11 x12 x13 x14 x15 x16 x17 x18).trans h)
noncomputable def nl_l_toTermS_0 (C : CallT) (L : LoopT) (x00 : List CVal) (x02 : Int) (x1 : List CVal) : Option (LO k_l_toTermS_0.T) :=
 br (decide (x02 < (↑x00.length : Int)))
 (br (decide ((0 : Int) ≤ x02) && true)
 (x00[x02.toNat]?.bind fun y =>
 br (CVal.fits true (9 : Nat) y)
 ((y.sub (0 : Nat) (9 : Nat)).bind fun y =>
 (C f_l_toTerm [AVal.v y] []).bind fun r =>
 br (CVal.isAggN (9 : Nat) r.1)
 ((r.1.cell (0 : Nat)).bind fun c =>
 (r.1.cell (1 : Nat)).bind fun c_1 =>
 (r.1.cell (2 : Nat)).bind fun c_2 =>
 (r.1.cell (3 : Nat)).bind fun c_3 =>
 (r.1.cell (4 : Nat)).bind fun c_4 =>
 (r.1.cell (5 : Nat)).bind fun c_5 =>
 (r.1.cell (6 : Nat)).bind fun c_6 =>
 (r.1.cell (7 : Nat)).bind fun c_7 =>
 (r.1.cell (8 : Nat)).bind fun c_8 =>
 c_6.asSl.bind fun xs =>
 c_7.asSl.bind fun xs_1 =>
 c_8.asSl.bind fun xs_2 =>
 br (decide ((0 : Int) ≤ x02) && true)
 (br (decide (x02.toNat < x1.length) && true)
 ((CVal.asInt IntKind.i64 c).bind fun n =>
 (CVal.asInt IntKind.i64 c_1).bind fun n_1 =>
 c_2.asStr.bind fun s =>
 c_3.asStr.bind fun s_1 =>
 (CVal.asInt IntKind.i64 c_4).bind fun n_2 =>
 (CVal.asInt IntKind.i64 c_5).bind fun n_3 =>
 x1[x02.toNat]?.bind fun y =>
 br (CVal.fits true (9 : Nat) y)
 (L f_l_toTermS (0 : Nat) lc_l_toTermS_0 [] k_l_toTermS_0
 ((x00, PUnit.unit, IntKind.i64.wrap (x02 + (1 : Int)),
 PUnit.unit),
 x1.set x02.toNat
 (CVal.agg
 [CVal.int IntKind.i64 n, CVal.int IntKind.i64 n_1,
 CVal.str s, CVal.str s_1, CVal.int IntKind.i64 n_2,
 CVal.int IntKind.i64 n_3, CVal.sl xs, CVal.sl xs_1,
 CVal.sl xs_2]),
 PUnit.unit))
 (br (y.isAgg && decide ((9 : Nat) ≤ y.cells.length))
 (L f_l_toTermS (0 : Nat) lc_l_toTermS_0 [] k_l_toTermS_0
 ((x00, PUnit.unit, IntKind.i64.wrap (x02 + (1 : Int)),
 PUnit.unit),
 x1.set x02.toNat
 (CVal.agg
 (CVal.int IntKind.i64 n ::
 CVal.int IntKind.i64 n_1 ::
 CVal.str s ::
 CVal.str s_1 ::
 CVal.int IntKind.i64 n_2 ::
 CVal.int IntKind.i64 n_3 ::
 CVal.sl xs ::
 CVal.sl xs_1 ::
 CVal.sl xs_2 ::
 List.drop (9 : Nat) y.cells)),
 PUnit.unit))
 none))
 none)
 none)
 none)
 none)
 none)
 (some (LO.out (0 : Nat) ((x00, PUnit.unit, x02, PUnit.unit), x1, PUnit.unit)))
theorem el_l_toTermS_0 (C : CallT) (L : LoopT) (x00 : List CVal) (x02 : Int) (x1 : List CVal) : evL E N C L f_l_toTermS 0 lc_l_toTermS_0 [] k_l_toTermS_0 ((x00, (), x02, ()), x1, ()) = nl_l_toTermS_0 C L x00 x02 x1 := by kernel_rfl
theorem gl_l_toTermS_0 (x00 : List CVal) (x02 : Int) (x1 : List CVal) (R : LO k_l_toTermS_0.T) (h : nl_l_toTermS_0 CC LL x00 x02 x1 = some R) : LL f_l_toTermS 0 lc_l_toTermS_0 [] k_l_toTermS_0 ((x00, (), x02, ()), x1, ()) = some R := loopW ((el_l_toTermS_0 CC LL x00 x02 x1).trans h)
noncomputable def nl_s_l2Has_0 (C : CallT) (L : LoopT) (x00 : List CVal) (x01 : List UInt8) (x02 : Int) : Option (LO k_s_l2Has_0.T) :=
 br (decide (x02 < (↑x00.length : Int)))
 (br (decide ((0 : Int) ≤ x02) && true)
 (x00[x02.toNat]?.bind fun y =>
 br (CVal.fits false (1 : Nat) y)
 ((y.cell (0 : Nat)).bind fun c =>
 c.asStr.bind fun s =>
 br (decide (s = x01)) (some (LO.ret (CVal.bool true, [])))
 (L f_s_l2Has (0 : Nat) lc_s_l2Has_0 [] k_s_l2Has_0
 ((x00, x01, IntKind.i64.wrap (x02 + (1 : Int)), PUnit.unit), PUnit.unit)))
 none)
 none)
 (some (LO.out (0 : Nat) ((x00, x01, x02, PUnit.unit), PUnit.unit)))
theorem el_s_l2Has_0 (C : CallT) (L : LoopT) (x00 : List CVal) (x01 : List UInt8) (x02 : Int) : evL E N C L f_s_l2Has 0 lc_s_l2Has_0 [] k_s_l2Has_0 ((x00, x01, x02, ()), ()) = nl_s_l2Has_0 C L x00 x01 x02 := by kernel_rfl
theorem gl_s_l2Has_0 (x00 : List CVal) (x01 : List UInt8) (x02 : Int) (R : LO k_s_l2Has_0.T) (h : nl_s_l2Has_0 CC LL x00 x01 x02 = some R) : LL f_s_l2Has 0 lc_s_l2Has_0 [] k_s_l2Has_0 ((x00, x01, x02, ()), ()) = some R := loopW ((el_s_l2Has_0 CC LL x00 x01 x02).trans h)
noncomputable def nl_s_l6Binders_0 (C : CallT) (L : LoopT) (x02 : Int) (x1 : List CVal) (x20 : Int) (x21 : Int) (x22 : List UInt8) (x23 : List UInt8) (x24 : Int) (x25 : Int) (x26 : List CVal) (x27 : List CVal) (x28 : List CVal) : Option (LO k_s_l6Binders_0.T) :=
 br (decide (x02 < (↑x28.length : Int)))
 (br (decide ((0 : Int) ≤ x02) && true)
 (x28[x02.toNat]?.bind fun y =>
 br (CVal.fits true (9 : Nat) y)
 ((y.sub (0 : Nat) (9 : Nat)).bind fun y =>
 (C f_s_l6Binders [AVal.v y, AVal.lref (0 : Nat) (0 : Nat)]
 [PB.arr (Md.mk true false (0 : Nat)) false (1 : Nat) x1]).bind
 fun r =>
 r.2[(0 : Nat)]?.bind fun y =>
 L f_s_l6Binders (0 : Nat) lc_s_l6Binders_0 [PSh.arr (Md.mk true false (0 : Nat)) false (1 : Nat)]
 k_s_l6Binders_0
 ((PUnit.unit, PUnit.unit, IntKind.i64.wrap (x02 + (1 : Int)), PUnit.unit), y,
 (x20, x21, x22, x23, x24, x25, x26, x27, x28, PUnit.unit), PUnit.unit))
 none)
 none)
 (some
 (LO.out (0 : Nat)
 ((PUnit.unit, PUnit.unit, x02, PUnit.unit), x1, (x20, x21, x22, x23, x24, x25, x26, x27, x28, PUnit.unit),
 PUnit.unit)))
theorem el_s_l6Binders_0 (C : CallT) (L : LoopT) (x02 : Int) (x1 : List CVal) (x20 : Int) (x21 : Int) (x22 : List UInt8) (x23 : List UInt8) (x24 : Int) (x25 : Int) (x26 : List CVal) (x27 : List CVal) (x28 : List CVal) : evL E N C L f_s_l6Binders 0 lc_s_l6Binders_0 [PSh.arr (Md.mk true false (0 : Nat)) false (1 : Nat)] k_s_l6Binders_0 (((), (), x02, ()), x1, (x20, x21, x22, x23, x24, x25, x26, x27, x28, ()), ()) = nl_s_l6Binders_0 C L x02 x1 x20 x21 x22 x23 x24 x25 x26 x27 x28 := by kernel_rfl
theorem gl_s_l6Binders_0 (x02 : Int) (x1 : List CVal) (x20 : Int) (x21 : Int) (x22 : List UInt8) (x23 : List UInt8) (x24 : Int) (x25 : Int) (x26 : List CVal) (x27 : List CVal) (x28 : List CVal) (R : LO k_s_l6Binders_0.T) (h : nl_s_l6Binders_0 CC LL x02 x1 x20 x21 x22 x23 x24 x25 x26 x27 x28 = some R) : LL f_s_l6Binders 0 lc_s_l6Binders_0 [PSh.arr (Md.mk true false (0 : Nat)) false (1 : Nat)] k_s_l6Binders_0 (((), (), x02, ()), x1, (x20, x21, x22, x23, x24, x25, x26, x27, x28, ()), ()) = some R := loopW ((el_s_l6Binders_0 CC LL x02 x1 x20 x21 x22 x23 x24 x25 x26 x27 x28).trans h)
noncomputable def nl_s_SameTy_0 (C : CallT) (L : LoopT) (x02 : Int) (x10 : Int) (x11 : Int) (x12 : List CVal) (x20 : Int) (x21 : Int) (x22 : List CVal) : Option (LO k_s_SameTy_0.T) :=
 br (decide (x02 < (↑x12.length : Int)))
 (br (decide ((0 : Int) ≤ x02) && true)
 (x12[x02.toNat]?.bind fun y =>
 br (CVal.fits true (3 : Nat) y)
 ((y.sub (0 : Nat) (3 : Nat)).bind fun y =>
 br (decide ((0 : Int) ≤ x02) && true)
 (x22[x02.toNat]?.bind fun y_1 =>
 br (CVal.fits true (3 : Nat) y_1)
 ((y_1.sub (0 : Nat) (3 : Nat)).bind fun y_2 =>
 (C f_s_SameTy [AVal.v y, AVal.v y_2] []).bind fun r =>
 r.1.asBool.bind fun b =>
 br (!b) (some (LO.ret (CVal.bool false, [])))
 (L f_s_SameTy (0 : Nat) lc_s_SameTy_0 [] k_s_SameTy_0
 ((PUnit.unit, PUnit.unit, IntKind.i64.wrap (x02 + (1 : Int)), PUnit.unit),
 (x10, x11, x12, PUnit.unit), (x20, x21, x22, PUnit.unit), PUnit.unit)))
 none)
 none)
 none)
 none)
 (some
 (LO.out (0 : Nat)
 ((PUnit.unit, PUnit.unit, x02, PUnit.unit), (x10, x11, x12, PUnit.unit), (x20, x21, x22, PUnit.unit),
 PUnit.unit)))
theorem el_s_SameTy_0 (C : CallT) (L : LoopT) (x02 : Int) (x10 : Int) (x11 : Int) (x12 : List CVal) (x20 : Int) (x21 : Int) (x22 : List CVal) : evL E N C L f_s_SameTy 0 lc_s_SameTy_0 [] k_s_SameTy_0 (((), (), x02, ()), (x10, x11, x12, ()), (x20, x21, x22, ()), ()) = nl_s_SameTy_0 C L x02 x10 x11 x12 x20 x21 x22 := by kernel_rfl
theorem gl_s_SameTy_0 (x02 : Int) (x10 : Int) (x11 : Int) (x12 : List CVal) (x20 : Int) (x21 : Int) (x22 : List CVal) (R : LO k_s_SameTy_0.T) (h : nl_s_SameTy_0 CC LL x02 x10 x11 x12 x20 x21 x22 = some R) : LL f_s_SameTy 0 lc_s_SameTy_0 [] k_s_SameTy_0 (((), (), x02, ()), (x10, x11, x12, ()), (x20, x21, x22, ()), ()) = some R := loopW ((el_s_SameTy_0 CC LL x02 x10 x11 x12 x20 x21 x22).trans h)
noncomputable def nl_slices_EqualFunc_Ty_0 (C : CallT) (L : LoopT) (x00 : List CVal) (x01 : CVal) (x02 : List CVal) (x03 : Int) (x04 : Int) : Option (LO k_slices_EqualFunc_Ty_0.T) :=
 br (decide (x04 < x03))
 (br (decide ((0 : Int) ≤ x04) && true)
 (x02[x04.toNat]?.bind fun y =>
 br (CVal.fits true (3 : Nat) y)
 ((y.sub (0 : Nat) (3 : Nat)).bind fun y =>
 br (CVal.isAggN (3 : Nat) y)
 ((y.cell (0 : Nat)).bind fun c =>
 (y.cell (1 : Nat)).bind fun c_1 =>
 (y.cell (2 : Nat)).bind fun c_2 =>
 br (decide ((0 : Int) ≤ x04) && true)
 (x00[x04.toNat]?.bind fun y =>
 br (CVal.fits true (3 : Nat) y)
 ((y.sub (0 : Nat) (3 : Nat)).bind fun y =>
 br (CVal.isAggN (3 : Nat) y)
 ((y.cell (0 : Nat)).bind fun c_3 =>
 (y.cell (1 : Nat)).bind fun c_4 =>
 (y.cell (2 : Nat)).bind fun c_5 =>
 (C apId
 [AVal.v x01, AVal.v (CVal.agg [c, c_1, c_2]), AVal.v (CVal.agg [c_3, c_4, c_5])]
 []).bind
 fun r =>
 r.1.asBool.bind fun b =>
 br (!b) (some (LO.ret (CVal.bool false, [])))
 (L f_slices_EqualFunc_Ty (0 : Nat) lc_slices_EqualFunc_Ty_0 []
 k_slices_EqualFunc_Ty_0
 ((x00, x01, x02, x03, IntKind.i64.wrap (x04 + (1 : Int)), PUnit.unit),
 PUnit.unit)))
 none)
 none)
 none)
 none)
 none)
 none)
 (some (LO.out (0 : Nat) ((x00, x01, x02, x03, x04, PUnit.unit), PUnit.unit)))
theorem el_slices_EqualFunc_Ty_0 (C : CallT) (L : LoopT) (x00 : List CVal) (x01 : CVal) (x02 : List CVal) (x03 : Int) (x04 : Int) : evL E N C L f_slices_EqualFunc_Ty 0 lc_slices_EqualFunc_Ty_0 [] k_slices_EqualFunc_Ty_0 ((x00, x01, x02, x03, x04, ()), ()) = nl_slices_EqualFunc_Ty_0 C L x00 x01 x02 x03 x04 := by kernel_rfl
theorem gl_slices_EqualFunc_Ty_0 (x00 : List CVal) (x01 : CVal) (x02 : List CVal) (x03 : Int) (x04 : Int) (R : LO k_slices_EqualFunc_Ty_0.T) (h : nl_slices_EqualFunc_Ty_0 CC LL x00 x01 x02 x03 x04 = some R) : LL f_slices_EqualFunc_Ty 0 lc_slices_EqualFunc_Ty_0 [] k_slices_EqualFunc_Ty_0 ((x00, x01, x02, x03, x04, ()), ()) = some R := loopW ((el_slices_EqualFunc_Ty_0 CC LL x00 x01 x02 x03 x04).trans h)
end Go.Proofs.Ytbimglfmmmlicaa.Abs
