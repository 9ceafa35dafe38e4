/- What the functions come to in the abstract machine. -/
import Derived.Test.YtegbnddjgifcdaaDoorU1Ann
import Derived.KernelRfl
set_option linter.unusedVariables false
set_option maxRecDepth 100000
namespace Go.Proofs.YtegbnddjgifcdaaDoor.Abs
open Go Go.Proofs Go.IntKind
noncomputable def nf_l_szTerm (C : CallT) (L : LoopT) (a0 : Int) (a1 : Int) (a2 : List UInt8) (a3 : List UInt8) (a40 : Int) (a41 : Int) (a42 : List CVal) (a5 : List CVal) (a6 : List CVal) (b : Int) : Option Ret :=
 br (decide (i64.wrap (b - (↑a2.length : Int)) < 0)) (some (CVal.int i64 (-1 : Int), []))
 (br (decide (i64.wrap (i64.wrap (b - (↑a2.length : Int)) - (↑a3.length : Int)) < 0))
 (some (CVal.int i64 (-1 : Int), []))
 ((C f_l_szTy
 [AVal.v (CVal.agg [CVal.int i64 a40, CVal.int i64 a41, CVal.sl a42]),
 AVal.v
 (CVal.int i64
 (i64.wrap (i64.wrap (b - (↑a2.length : Int)) - (↑a3.length : Int))))]
 []).bind
 fun r =>
 (CVal.asInt i64 r.1).bind fun n =>
 br (decide (n < 0)) (some (CVal.int i64 (-1 : Int), []))
 ((C f_l_szTyS [AVal.v (CVal.sl a5), AVal.v r.1] []).bind fun r =>
 (CVal.asInt i64 r.1).bind fun n =>
 br (decide (n < 0)) (some (CVal.int i64 (-1 : Int), []))
 ((C f_l_szTermS [AVal.v (CVal.sl a6), AVal.v r.1] []).bind fun r =>
 (CVal.asInt i64 r.1).bind fun n =>
 br (decide (n < 0)) (some (CVal.int i64 (-1 : Int), [])) (some (r.1, []))))))
theorem go_l_szTerm (a0 : Int) (a1 : Int) (a2 : List UInt8) (a3 : List UInt8) (a40 : Int) (a41 : Int) (a42 : List CVal) (a5 : List CVal) (a6 : List CVal) (b : Int) (R : Ret) (h : nf_l_szTerm CC LL a0 a1 a2 a3 a40 a41 a42 a5 a6 b = some R) : CC f_l_szTerm [AVal.v
 (CVal.agg
 [CVal.int i64 a0, CVal.int i64 a1, CVal.str a2, CVal.str a3, CVal.int i64 a40,
 CVal.int i64 a41, CVal.sl a42, CVal.sl a5, CVal.sl a6]),
 AVal.v (CVal.int i64 b)] [] = some R := fnW (by decide) rfl (Eq.trans (b := nf_l_szTerm CC LL a0 a1 a2 a3 a40 a41 a42 a5 a6 b) (by kernel_rfl) h)
noncomputable def nf_l_eqTerm (C : CallT) (L : LoopT) (a0 : Int) (a1 : Int) (a2 : List UInt8) (a3 : List UInt8) (a40 : Int) (a41 : Int) (a42 : List CVal) (a5 : List CVal) (a6 : List CVal) (b0 : Int) (b1 : Int) (b2 : List UInt8) (b3 : List UInt8) (b40 : Int) (b41 : Int) (b42 : List CVal) (b5 : List CVal) (b6 : List CVal) : Option Ret :=
 br (!decide (a0 = b0)) (some (CVal.bool false, []))
 (br (!decide (a1 = b1)) (some (CVal.bool false, []))
 (br (!decide (a2 = b2)) (some (CVal.bool false, []))
 (br (!decide (a3 = b3)) (some (CVal.bool false, []))
 ((C f_l_eqTy
 [AVal.v (CVal.agg [CVal.int i64 a40, CVal.int i64 a41, CVal.sl a42]),
 AVal.v (CVal.agg [CVal.int i64 b40, CVal.int i64 b41, CVal.sl b42])]
 []).bind
 fun r =>
 r.1.asBool.bind fun b =>
 br (!b) (some (CVal.bool false, []))
 ((C f_l_eqTyS [AVal.v (CVal.sl a5), AVal.v (CVal.sl b5)] []).bind fun r =>
 r.1.asBool.bind fun b =>
 br (!b) (some (CVal.bool false, []))
 ((C f_l_eqTermS [AVal.v (CVal.sl a6), AVal.v (CVal.sl b6)] []).bind fun r =>
 r.1.asBool.bind fun b => br (!b) (some (CVal.bool false, [])) (some (CVal.bool true, []))))))))
theorem go_l_eqTerm (a0 : Int) (a1 : Int) (a2 : List UInt8) (a3 : List UInt8) (a40 : Int) (a41 : Int) (a42 : List CVal) (a5 : List CVal) (a6 : List CVal) (b0 : Int) (b1 : Int) (b2 : List UInt8) (b3 : List UInt8) (b40 : Int) (b41 : Int) (b42 : List CVal) (b5 : List CVal) (b6 : List CVal) (R : Ret) (h : nf_l_eqTerm CC LL a0 a1 a2 a3 a40 a41 a42 a5 a6 b0 b1 b2 b3 b40 b41 b42 b5 b6 = some R) : CC f_l_eqTerm [AVal.v
 (CVal.agg
 [CVal.int i64 a0, CVal.int i64 a1, CVal.str a2, CVal.str a3, CVal.int i64 a40,
 CVal.int i64 a41, CVal.sl a42, CVal.sl a5, CVal.sl a6]),
 AVal.v
 (CVal.agg
 [CVal.int i64 b0, CVal.int i64 b1, CVal.str b2, CVal.str b3, CVal.int i64 b40,
 CVal.int i64 b41, CVal.sl b42, CVal.sl b5, CVal.sl b6])] [] = some R := fnW (by decide) rfl (Eq.trans (b := nf_l_eqTerm CC LL a0 a1 a2 a3 a40 a41 a42 a5 a6 b0 b1 b2 b3 b40 b41 b42 b5 b6) (by kernel_rfl) h)
noncomputable def nf_l_toTy (C : CallT) (L : LoopT) (a0 : Int) (a1 : Int) (a2 : List CVal) : Option Ret :=
 (C f_l_toTyS [AVal.v (CVal.sl a2)] []).bind fun r =>
 br r.1.isFlat
 (r.1.asSl.bind fun xs => some (CVal.agg [CVal.int i64 a0, CVal.int i64 a1, CVal.sl xs], [])) none
theorem go_l_toTy (a0 : Int) (a1 : Int) (a2 : List CVal) (R : Ret) (h : nf_l_toTy CC LL a0 a1 a2 = some R) : CC f_l_toTy [AVal.v (CVal.agg [CVal.int i64 a0, CVal.int i64 a1, CVal.sl a2])] [] = some R := fnW (by decide) rfl (Eq.trans (b := nf_l_toTy CC LL a0 a1 a2) (by kernel_rfl) h)
noncomputable def nf_s_l2Text (C : CallT) (L : LoopT) (a0 : Int) (a1 : Int) (a2 : List UInt8) (a3 : List UInt8) (a40 : Int) (a41 : Int) (a42 : List CVal) (a5 : List CVal) (a6 : List CVal) : Option Ret :=
 (C f_s_l2Word [AVal.v (CVal.int i64 a0)] []).bind fun r =>
 (br (decide (a0 = 1))
 (r.1.asStr.bind fun s =>
 br (decide (s.length + 1 ≤ 1152921504606846976))
 ((C f_s_l2Int [AVal.v (CVal.int i64 a1)] []).bind fun r =>
 r.1.asStr.bind fun s_1 =>
 br (decide ((s ++ [(32 : UInt8)]).length + s_1.length ≤ 1152921504606846976))
 (some
 (LO.out 0
 (((), s ++ [(32 : UInt8)] ++ s_1, ()),
 (a0, a1, a2, a3, a40, a41, a42, a5, a6, ()), ())))
 none)
 none)
 (br (decide (a0 = 2))
 (br (decide (a1 = 0))
 (some
 (LO.out 0
 (((), [(117 : UInt8)], ()), (a0, a1, a2, a3, a40, a41, a42, a5, a6, ()),
 ())))
 (r.1.asStr.bind fun s =>
 some
 (LO.out 0
 (((), s, ()), (a0, a1, a2, a3, a40, a41, a42, a5, a6, ()), ()))))
 (br (decide (a0 = 15))
 (r.1.asStr.bind fun s =>
 br (decide (s.length + 1 ≤ 1152921504606846976))
 (br (decide (0 ≤ a1) && true)
 (br (decide (a1.toNat < 6) && true)
 ([CVal.str [], CVal.str [(43 : UInt8)], CVal.str [(45 : UInt8)], CVal.str [(42 : UInt8)],
 CVal.str [(60 : UInt8)], CVal.str [(61 : UInt8)]][a1.toNat]?.bind
 fun y =>
 (y.cell 0).bind fun c =>
 c.asStr.bind fun s_1 =>
 br (decide ((s ++ [(32 : UInt8)]).length + s_1.length ≤ 1152921504606846976))
 (some
 (LO.out 0
 (((), s ++ [(32 : UInt8)] ++ s_1, ()),
 (a0, a1, a2, a3, a40, a41, a42, a5, a6, ()), ())))
 none)
 none)
 none)
 none)
 (r.1.asStr.bind fun s =>
 some
 (LO.out 0
 (((), s, ()), (a0, a1, a2, a3, a40, a41, a42, a5, a6, ()),
 ())))))).bind
 fun y =>
 loK y (fun r => some r) fun j p =>
 br (j == 0)
 (br (!decide (p.snd.fst.snd.snd.1 = []))
 (br (decide (List.length p.fst.snd.1 + 1 ≤ 1152921504606846976))
 (br
 (decide
 ((p.fst.snd.1 ++ [(32 : UInt8)]).length + List.length p.snd.fst.snd.snd.1 ≤
 1152921504606846976))
 (br (!decide (p.snd.fst.snd.snd.snd.1 = []))
 (br
 (decide
 ((p.fst.snd.1 ++ [(32 : UInt8)] ++ p.snd.fst.snd.snd.1).length + 1 ≤
 1152921504606846976))
 (br
 (decide
 ((p.fst.snd.1 ++ [(32 : UInt8)] ++ p.snd.fst.snd.snd.1 ++ [(32 : UInt8)]).length +
 List.length p.snd.fst.snd.snd.snd.1 ≤
 1152921504606846976))
 ((br (decide (p.snd.fst.1 = 6)) (some (true, ()))
 (some (decide (p.snd.fst.1 = 7), ()))).bind
 fun y =>
 br y.1
 (br
 (decide
 ((p.fst.snd.1 ++ [(32 : UInt8)] ++ p.snd.fst.snd.snd.1 ++ [(32 : UInt8)] ++
 p.snd.fst.snd.snd.snd.1).length +
 1 ≤
 1152921504606846976))
 ((C f_s_l2Int [AVal.v (CVal.int i64 p.snd.fst.snd.1)] []).bind fun r =>
 r.1.asStr.bind fun s =>
 br
 (decide
 ((p.fst.snd.1 ++ [(32 : UInt8)] ++ p.snd.fst.snd.snd.1 ++ [(32 : UInt8)] ++
 p.snd.fst.snd.snd.snd.1 ++
 [(32 : UInt8)]).length +
 s.length ≤
 1152921504606846976))
 (br (decide (p.snd.fst.1 = 3))
 (br
 (decide
 ((p.fst.snd.1 ++ [(32 : UInt8)] ++ p.snd.fst.snd.snd.1 ++ [(32 : UInt8)] ++
 p.snd.fst.snd.snd.snd.1 ++
 [(32 : UInt8)] ++
 s).length +
 1 ≤
 1152921504606846976))
 ((C f_s_l2Int
 [AVal.v
 (CVal.int i64
 (↑(List.length p.snd.fst.snd.snd.snd.snd.snd.snd.snd.1) : Int))]
 []).bind
 fun r =>
 r.1.asStr.bind fun s_1 =>
 br
 (decide
 ((p.fst.snd.1 ++ [(32 : UInt8)] ++ p.snd.fst.snd.snd.1 ++ [(32 : UInt8)] ++
 p.snd.fst.snd.snd.snd.1 ++
 [(32 : UInt8)] ++
 s ++
 [(32 : UInt8)]).length +
 s_1.length ≤
 1152921504606846976))
 (br (decide (0 < p.snd.fst.snd.snd.snd.snd.1))
 (br
 (decide
 ((p.fst.snd.1 ++ [(32 : UInt8)] ++ p.snd.fst.snd.snd.1 ++
 [(32 : UInt8)] ++
 p.snd.fst.snd.snd.snd.1 ++
 [(32 : UInt8)] ++
 s ++
 [(32 : UInt8)] ++
 s_1).length +
 1 ≤
 1152921504606846976))
 ((C f_s_l1Text
 [AVal.v
 (CVal.agg
 [CVal.int i64 p.snd.fst.snd.snd.snd.snd.1,
 CVal.int i64 p.snd.fst.snd.snd.snd.snd.snd.1,
 CVal.sl p.snd.fst.snd.snd.snd.snd.snd.snd.1])]
 []).bind
 fun r =>
 r.1.asStr.bind fun s_2 =>
 br
 (decide
 ((p.fst.snd.1 ++ [(32 : UInt8)] ++ p.snd.fst.snd.snd.1 ++
 [(32 : UInt8)] ++
 p.snd.fst.snd.snd.snd.1 ++
 [(32 : UInt8)] ++
 s ++
 [(32 : UInt8)] ++
 s_1 ++
 [(32 : UInt8)]).length +
 s_2.length ≤
 1152921504606846976))
 ((L f_s_l2Text 1 lc_s_l2Text_1 [] k_s_l2Text_1
 (((),
 p.fst.snd.1 ++ [(32 : UInt8)] ++ p.snd.fst.snd.snd.1 ++
 [(32 : UInt8)] ++
 p.snd.fst.snd.snd.snd.1 ++
 [(32 : UInt8)] ++
 s ++
 [(32 : UInt8)] ++
 s_1 ++
 [(32 : UInt8)] ++
 s_2,
 0, ()),
 (p.snd.fst.1, p.snd.fst.snd.1, p.snd.fst.snd.snd.1,
 p.snd.fst.snd.snd.snd.1, p.snd.fst.snd.snd.snd.snd.1,
 p.snd.fst.snd.snd.snd.snd.snd.1,
 p.snd.fst.snd.snd.snd.snd.snd.snd.1,
 p.snd.fst.snd.snd.snd.snd.snd.snd.snd.1,
 p.snd.fst.snd.snd.snd.snd.snd.snd.snd.snd.1, ()),
 ())).bind
 fun r =>
 loK r (fun r => some r) fun j p =>
 br (j == 1)
 ((L f_s_l2Text 3 lc_s_l2Text_3 [] k_s_l2Text_3
 (((), p.fst.snd.1, 0, ()),
 (p.snd.fst.1, p.snd.fst.snd.1, p.snd.fst.snd.snd.1,
 p.snd.fst.snd.snd.snd.1,
 p.snd.fst.snd.snd.snd.snd.1,
 p.snd.fst.snd.snd.snd.snd.snd.1,
 p.snd.fst.snd.snd.snd.snd.snd.snd.1,
 p.snd.fst.snd.snd.snd.snd.snd.snd.snd.1,
 p.snd.fst.snd.snd.snd.snd.snd.snd.snd.snd.1,
 ()),
 ())).bind
 fun r =>
 loK r (fun r => some r) fun j p =>
 br (j == 3) (some (CVal.str p.fst.snd.1, []))
 none)
 none)
 none)
 none)
 ((L f_s_l2Text 1 lc_s_l2Text_1 [] k_s_l2Text_1
 (((),
 p.fst.snd.1 ++ [(32 : UInt8)] ++ p.snd.fst.snd.snd.1 ++
 [(32 : UInt8)] ++
 p.snd.fst.snd.snd.snd.1 ++
 [(32 : UInt8)] ++
 s ++
 [(32 : UInt8)] ++
 s_1,
 0, ()),
 (p.snd.fst.1, p.snd.fst.snd.1, p.snd.fst.snd.snd.1,
 p.snd.fst.snd.snd.snd.1, p.snd.fst.snd.snd.snd.snd.1,
 p.snd.fst.snd.snd.snd.snd.snd.1,
 p.snd.fst.snd.snd.snd.snd.snd.snd.1,
 p.snd.fst.snd.snd.snd.snd.snd.snd.snd.1,
 p.snd.fst.snd.snd.snd.snd.snd.snd.snd.snd.1, ()),
 ())).bind
 fun r =>
 loK r (fun r => some r) fun j p =>
 br (j == 1)
 ((L f_s_l2Text 3 lc_s_l2Text_3 [] k_s_l2Text_3
 (((), p.fst.snd.1, 0, ()),
 (p.snd.fst.1, p.snd.fst.snd.1, p.snd.fst.snd.snd.1,
 p.snd.fst.snd.snd.snd.1, p.snd.fst.snd.snd.snd.snd.1,
 p.snd.fst.snd.snd.snd.snd.snd.1,
 p.snd.fst.snd.snd.snd.snd.snd.snd.1,
 p.snd.fst.snd.snd.snd.snd.snd.snd.snd.1,
 p.snd.fst.snd.snd.snd.snd.snd.snd.snd.snd.1, ()),
 ())).bind
 fun r =>
 loK r (fun r => some r) fun j p =>
 br (j == 3) (some (CVal.str p.fst.snd.1, [])) none)
 none))
 none)
 none)
 (br (decide (0 < p.snd.fst.snd.snd.snd.snd.1))
 (br
 (decide
 ((p.fst.snd.1 ++ [(32 : UInt8)] ++ p.snd.fst.snd.snd.1 ++ [(32 : UInt8)] ++
 p.snd.fst.snd.snd.snd.1 ++
 [(32 : UInt8)] ++
 s).length +
 1 ≤
 1152921504606846976))
 ((C f_s_l1Text
 [AVal.v
 (CVal.agg
 [CVal.int i64 p.snd.fst.snd.snd.snd.snd.1,
 CVal.int i64 p.snd.fst.snd.snd.snd.snd.snd.1,
 CVal.sl p.snd.fst.snd.snd.snd.snd.snd.snd.1])]
 []).bind
 fun r =>
 r.1.asStr.bind fun s_1 =>
 br
 (decide
 ((p.fst.snd.1 ++ [(32 : UInt8)] ++ p.snd.fst.snd.snd.1 ++
 [(32 : UInt8)] ++
 p.snd.fst.snd.snd.snd.1 ++
 [(32 : UInt8)] ++
 s ++
 [(32 : UInt8)]).length +
 s_1.length ≤
 1152921504606846976))
 ((L f_s_l2Text 1 lc_s_l2Text_1 [] k_s_l2Text_1
 (((),
 p.fst.snd.1 ++ [(32 : UInt8)] ++ p.snd.fst.snd.snd.1 ++
 [(32 : UInt8)] ++
 p.snd.fst.snd.snd.snd.1 ++
 [(32 : UInt8)] ++
 s ++
 [(32 : UInt8)] ++
 s_1,
 0, ()),
 (p.snd.fst.1, p.snd.fst.snd.1, p.snd.fst.snd.snd.1,
 p.snd.fst.snd.snd.snd.1, p.snd.fst.snd.snd.snd.snd.1,
 p.snd.fst.snd.snd.snd.snd.snd.1,
 p.snd.fst.snd.snd.snd.snd.snd.snd.1,
 p.snd.fst.snd.snd.snd.snd.snd.snd.snd.1,
 p.snd.fst.snd.snd.snd.snd.snd.snd.snd.snd.1, ()),
 ())).bind
 fun r =>
 loK r (fun r => some r) fun j p =>
 br (j == 1)
 ((L f_s_l2Text 3 lc_s_l2Text_3 [] k_s_l2Text_3
 (((), p.fst.snd.1, 0, ()),
 (p.snd.fst.1, p.snd.fst.snd.1, p.snd.fst.snd.snd.1,
 p.snd.fst.snd.snd.snd.1, p.snd.fst.snd.snd.snd.snd.1,
 p.snd.fst.snd.snd.snd.snd.snd.1,
 p.snd.fst.snd.snd.snd.snd.snd.snd.1,
 p.snd.fst.snd.snd.snd.snd.snd.snd.snd.1,
 p.snd.fst.snd.snd.snd.snd.snd.snd.snd.snd.1, ()),
 ())).bind
 fun r =>
 loK r (fun r => some r) fun j p =>
 br (j == 3) (some (CVal.str p.fst.snd.1, [])) none)
 none)
 none)
 none)
 ((L f_s_l2Text 1 lc_s_l2Text_1 [] k_s_l2Text_1
 (((),
 p.fst.snd.1 ++ [(32 : UInt8)] ++ p.snd.fst.snd.snd.1 ++ [(32 : UInt8)] ++
 p.snd.fst.snd.snd.snd.1 ++
 [(32 : UInt8)] ++
 s,
 0, ()),
 (p.snd.fst.1, p.snd.fst.snd.1, p.snd.fst.snd.snd.1, p.snd.fst.snd.snd.snd.1,
 p.snd.fst.snd.snd.snd.snd.1, p.snd.fst.snd.snd.snd.snd.snd.1,
 p.snd.fst.snd.snd.snd.snd.snd.snd.1,
 p.snd.fst.snd.snd.snd.snd.snd.snd.snd.1,
 p.snd.fst.snd.snd.snd.snd.snd.snd.snd.snd.1, ()),
 ())).bind
 fun r =>
 loK r (fun r => some r) fun j p =>
 br (j == 1)
 ((L f_s_l2Text 3 lc_s_l2Text_3 [] k_s_l2Text_3
 (((), p.fst.snd.1, 0, ()),
 (p.snd.fst.1, p.snd.fst.snd.1, p.snd.fst.snd.snd.1,
 p.snd.fst.snd.snd.snd.1, p.snd.fst.snd.snd.snd.snd.1,
 p.snd.fst.snd.snd.snd.snd.snd.1,
 p.snd.fst.snd.snd.snd.snd.snd.snd.1,
 p.snd.fst.snd.snd.snd.snd.snd.snd.snd.1,
 p.snd.fst.snd.snd.snd.snd.snd.snd.snd.snd.1, ()),
 ())).bind
 fun r =>
 loK r (fun r => some r) fun j p =>
 br (j == 3) (some (CVal.str p.fst.snd.1, [])) none)
 none)))
 none)
 none)
 (br (decide (p.snd.fst.1 = 3))
 (br
 (decide
 ((p.fst.snd.1 ++ [(32 : UInt8)] ++ p.snd.fst.snd.snd.1 ++ [(32 : UInt8)] ++
 p.snd.fst.snd.snd.snd.1).length +
 1 ≤
 1152921504606846976))
 ((C f_s_l2Int
 [AVal.v
 (CVal.int i64
 (↑(List.length p.snd.fst.snd.snd.snd.snd.snd.snd.snd.1) : Int))]
 []).bind
 fun r =>
 r.1.asStr.bind fun s =>
 br
 (decide
 ((p.fst.snd.1 ++ [(32 : UInt8)] ++ p.snd.fst.snd.snd.1 ++ [(32 : UInt8)] ++
 p.snd.fst.snd.snd.snd.1 ++
 [(32 : UInt8)]).length +
 s.length ≤
 1152921504606846976))
 (br (decide (0 < p.snd.fst.snd.snd.snd.snd.1))
 (br
 (decide
 ((p.fst.snd.1 ++ [(32 : UInt8)] ++ p.snd.fst.snd.snd.1 ++ [(32 : UInt8)] ++
 p.snd.fst.snd.snd.snd.1 ++
 [(32 : UInt8)] ++
 s).length +
 1 ≤
 1152921504606846976))
 ((C f_s_l1Text
 [AVal.v
 (CVal.agg
 [CVal.int i64 p.snd.fst.snd.snd.snd.snd.1,
 CVal.int i64 p.snd.fst.snd.snd.snd.snd.snd.1,
 CVal.sl p.snd.fst.snd.snd.snd.snd.snd.snd.1])]
 []).bind
 fun r =>
 r.1.asStr.bind fun s_1 =>
 br
 (decide
 ((p.fst.snd.1 ++ [(32 : UInt8)] ++ p.snd.fst.snd.snd.1 ++
 [(32 : UInt8)] ++
 p.snd.fst.snd.snd.snd.1 ++
 [(32 : UInt8)] ++
 s ++
 [(32 : UInt8)]).length +
 s_1.length ≤
 1152921504606846976))
 ((L f_s_l2Text 1 lc_s_l2Text_1 [] k_s_l2Text_1
 (((),
 p.fst.snd.1 ++ [(32 : UInt8)] ++ p.snd.fst.snd.snd.1 ++
 [(32 : UInt8)] ++
 p.snd.fst.snd.snd.snd.1 ++
 [(32 : UInt8)] ++
 s ++
 [(32 : UInt8)] ++
 s_1,
 0, ()),
 (p.snd.fst.1, p.snd.fst.snd.1, p.snd.fst.snd.snd.1,
 p.snd.fst.snd.snd.snd.1, p.snd.fst.snd.snd.snd.snd.1,
 p.snd.fst.snd.snd.snd.snd.snd.1,
 p.snd.fst.snd.snd.snd.snd.snd.snd.1,
 p.snd.fst.snd.snd.snd.snd.snd.snd.snd.1,
 p.snd.fst.snd.snd.snd.snd.snd.snd.snd.snd.1, ()),
 ())).bind
 fun r =>
 loK r (fun r => some r) fun j p =>
 br (j == 1)
 ((L f_s_l2Text 3 lc_s_l2Text_3 [] k_s_l2Text_3
 (((), p.fst.snd.1, 0, ()),
 (p.snd.fst.1, p.snd.fst.snd.1, p.snd.fst.snd.snd.1,
 p.snd.fst.snd.snd.snd.1, p.snd.fst.snd.snd.snd.snd.1,
 p.snd.fst.snd.snd.snd.snd.snd.1,
 p.snd.fst.snd.snd.snd.snd.snd.snd.1,
 p.snd.fst.snd.snd.snd.snd.snd.snd.snd.1,
 p.snd.fst.snd.snd.snd.snd.snd.snd.snd.snd.1, ()),
 ())).bind
 fun r =>
 loK r (fun r => some r) fun j p =>
 br (j == 3) (some (CVal.str p.fst.snd.1, [])) none)
 none)
 none)
 none)
 ((L f_s_l2Text 1 lc_s_l2Text_1 [] k_s_l2Text_1
 (((),
 p.fst.snd.1 ++ [(32 : UInt8)] ++ p.snd.fst.snd.snd.1 ++ [(32 : UInt8)] ++
 p.snd.fst.snd.snd.snd.1 ++
 [(32 : UInt8)] ++
 s,
 0, ()),
 (p.snd.fst.1, p.snd.fst.snd.1, p.snd.fst.snd.snd.1, p.snd.fst.snd.snd.snd.1,
 p.snd.fst.snd.snd.snd.snd.1, p.snd.fst.snd.snd.snd.snd.snd.1,
 p.snd.fst.snd.snd.snd.snd.snd.snd.1,
 p.snd.fst.snd.snd.snd.snd.snd.snd.snd.1,
 p.snd.fst.snd.snd.snd.snd.snd.snd.snd.snd.1, ()),
 ())).bind
 fun r =>
 loK r (fun r => some r) fun j p =>
 br (j == 1)
 ((L f_s_l2Text 3 lc_s_l2Text_3 [] k_s_l2Text_3
 (((), p.fst.snd.1, 0, ()),
 (p.snd.fst.1, p.snd.fst.snd.1, p.snd.fst.snd.snd.1,
 p.snd.fst.snd.snd.snd.1, p.snd.fst.snd.snd.snd.snd.1,
 p.snd.fst.snd.snd.snd.snd.snd.1,
 p.snd.fst.snd.snd.snd.snd.snd.snd.1,
 p.snd.fst.snd.snd.snd.snd.snd.snd.snd.1,
 p.snd.fst.snd.snd.snd.snd.snd.snd.snd.snd.1, ()),
 ())).bind
 fun r =>
 loK r (fun r => some r) fun j p =>
 br (j == 3) (some (CVal.str p.fst.snd.1, [])) none)
 none))
 none)
 none)
 (br (decide (0 < p.snd.fst.snd.snd.snd.snd.1))
 (br
 (decide
 ((p.fst.snd.1 ++ [(32 : UInt8)] ++ p.snd.fst.snd.snd.1 ++ [(32 : UInt8)] ++
 p.snd.fst.snd.snd.snd.1).length +
 1 ≤
 1152921504606846976))
 ((C f_s_l1Text
 [AVal.v
 (CVal.agg
 [CVal.int i64 p.snd.fst.snd.snd.snd.snd.1,
 CVal.int i64 p.snd.fst.snd.snd.snd.snd.snd.1,
 CVal.sl p.snd.fst.snd.snd.snd.snd.snd.snd.1])]
 []).bind
 fun r =>
 r.1.asStr.bind fun s =>
 br
 (decide
 ((p.fst.snd.1 ++ [(32 : UInt8)] ++ p.snd.fst.snd.snd.1 ++ [(32 : UInt8)] ++
 p.snd.fst.snd.snd.snd.1 ++
 [(32 : UInt8)]).length +
 s.length ≤
 1152921504606846976))
 ((L f_s_l2Text 1 lc_s_l2Text_1 [] k_s_l2Text_1
 (((),
 p.fst.snd.1 ++ [(32 : UInt8)] ++ p.snd.fst.snd.snd.1 ++ [(32 : UInt8)] ++
 p.snd.fst.snd.snd.snd.1 ++
 [(32 : UInt8)] ++
 s,
 0, ()),
 (p.snd.fst.1, p.snd.fst.snd.1, p.snd.fst.snd.snd.1, p.snd.fst.snd.snd.snd.1,
 p.snd.fst.snd.snd.snd.snd.1, p.snd.fst.snd.snd.snd.snd.snd.1,
 p.snd.fst.snd.snd.snd.snd.snd.snd.1,
 p.snd.fst.snd.snd.snd.snd.snd.snd.snd.1,
 p.snd.fst.snd.snd.snd.snd.snd.snd.snd.snd.1, ()),
 ())).bind
 fun r =>
 loK r (fun r => some r) fun j p =>
 br (j == 1)
 ((L f_s_l2Text 3 lc_s_l2Text_3 [] k_s_l2Text_3
 (((), p.fst.snd.1, 0, ()),
 (p.snd.fst.1, p.snd.fst.snd.1, p.snd.fst.snd.snd.1,
 p.snd.fst.snd.snd.snd.1, p.snd.fst.snd.snd.snd.snd.1,
 p.snd.fst.snd.snd.snd.snd.snd.1,
 p.snd.fst.snd.snd.snd.snd.snd.snd.1,
 p.snd.fst.snd.snd.snd.snd.snd.snd.snd.1,
 p.snd.fst.snd.snd.snd.snd.snd.snd.snd.snd.1, ()),
 ())).bind
 fun r =>
 loK r (fun r => some r) fun j p =>
 br (j == 3) (some (CVal.str p.fst.snd.1, [])) none)
 none)
 none)
 none)
 ((L f_s_l2Text 1 lc_s_l2Text_1 [] k_s_l2Text_1
 (((),
 p.fst.snd.1 ++ [(32 : UInt8)] ++ p.snd.fst.snd.snd.1 ++ [(32 : UInt8)] ++
 p.snd.fst.snd.snd.snd.1,
 0, ()),
 (p.snd.fst.1, p.snd.fst.snd.1, p.snd.fst.snd.snd.1, p.snd.fst.snd.snd.snd.1,
 p.snd.fst.snd.snd.snd.snd.1, p.snd.fst.snd.snd.snd.snd.snd.1,
 p.snd.fst.snd.snd.snd.snd.snd.snd.1, p.snd.fst.snd.snd.snd.snd.snd.snd.snd.1,
 p.snd.fst.snd.snd.snd.snd.snd.snd.snd.snd.1, ()),
 ())).bind
 fun r =>
 loK r (fun r => some r) fun j p =>
 br (j == 1)
 ((L f_s_l2Text 3 lc_s_l2Text_3 [] k_s_l2Text_3
 (((), p.fst.snd.1, 0, ()),
 (p.snd.fst.1, p.snd.fst.snd.1, p.snd.fst.snd.snd.1, p.snd.fst.snd.snd.snd.1,
 p.snd.fst.snd.snd.snd.snd.1, p.snd.fst.snd.snd.snd.snd.snd.1,
 p.snd.fst.snd.snd.snd.snd.snd.snd.1,
 p.snd.fst.snd.snd.snd.snd.snd.snd.snd.1,
 p.snd.fst.snd.snd.snd.snd.snd.snd.snd.snd.1, ()),
 ())).bind
 fun r =>
 loK r (fun r => some r) fun j p =>
 br (j == 3) (some (CVal.str p.fst.snd.1, [])) none)
 none))))
 none)
 none)
 ((br (decide (p.snd.fst.1 = 6)) (some (true, ()))
 (some (decide (p.snd.fst.1 = 7), ()))).bind
 fun y =>
 br y.1
 (br
 (decide
 ((p.fst.snd.1 ++ [(32 : UInt8)] ++ p.snd.fst.snd.snd.1).length + 1 ≤
 1152921504606846976))
 ((C f_s_l2Int [AVal.v (CVal.int i64 p.snd.fst.snd.1)] []).bind fun r =>
 r.1.asStr.bind fun s =>
 br
 (decide
 ((p.fst.snd.1 ++ [(32 : UInt8)] ++ p.snd.fst.snd.snd.1 ++ [(32 : UInt8)]).length +
 s.length ≤
 1152921504606846976))
 (br (decide (p.snd.fst.1 = 3))
 (br
 (decide
 ((p.fst.snd.1 ++ [(32 : UInt8)] ++ p.snd.fst.snd.snd.1 ++ [(32 : UInt8)] ++
 s).length +
 1 ≤
 1152921504606846976))
 ((C f_s_l2Int
 [AVal.v
 (CVal.int i64
 (↑(List.length p.snd.fst.snd.snd.snd.snd.snd.snd.snd.1) : Int))]
 []).bind
 fun r =>
 r.1.asStr.bind fun s_1 =>
 br
 (decide
 ((p.fst.snd.1 ++ [(32 : UInt8)] ++ p.snd.fst.snd.snd.1 ++ [(32 : UInt8)] ++ s ++
 [(32 : UInt8)]).length +
 s_1.length ≤
 1152921504606846976))
 (br (decide (0 < p.snd.fst.snd.snd.snd.snd.1))
 (br
 (decide
 ((p.fst.snd.1 ++ [(32 : UInt8)] ++ p.snd.fst.snd.snd.1 ++ [(32 : UInt8)] ++
 s ++
 [(32 : UInt8)] ++
 s_1).length +
 1 ≤
 1152921504606846976))
 ((C f_s_l1Text
 [AVal.v
 (CVal.agg
 [CVal.int i64 p.snd.fst.snd.snd.snd.snd.1,
 CVal.int i64 p.snd.fst.snd.snd.snd.snd.snd.1,
 CVal.sl p.snd.fst.snd.snd.snd.snd.snd.snd.1])]
 []).bind
 fun r =>
 r.1.asStr.bind fun s_2 =>
 br
 (decide
 ((p.fst.snd.1 ++ [(32 : UInt8)] ++ p.snd.fst.snd.snd.1 ++
 [(32 : UInt8)] ++
 s ++
 [(32 : UInt8)] ++
 s_1 ++
 [(32 : UInt8)]).length +
 s_2.length ≤
 1152921504606846976))
 ((L f_s_l2Text 1 lc_s_l2Text_1 [] k_s_l2Text_1
 (((),
 p.fst.snd.1 ++ [(32 : UInt8)] ++ p.snd.fst.snd.snd.1 ++
 [(32 : UInt8)] ++
 s ++
 [(32 : UInt8)] ++
 s_1 ++
 [(32 : UInt8)] ++
 s_2,
 0, ()),
 (p.snd.fst.1, p.snd.fst.snd.1, p.snd.fst.snd.snd.1,
 p.snd.fst.snd.snd.snd.1, p.snd.fst.snd.snd.snd.snd.1,
 p.snd.fst.snd.snd.snd.snd.snd.1,
 p.snd.fst.snd.snd.snd.snd.snd.snd.1,
 p.snd.fst.snd.snd.snd.snd.snd.snd.snd.1,
 p.snd.fst.snd.snd.snd.snd.snd.snd.snd.snd.1, ()),
 ())).bind
 fun r =>
 loK r (fun r => some r) fun j p =>
 br (j == 1)
 ((L f_s_l2Text 3 lc_s_l2Text_3 [] k_s_l2Text_3
 (((), p.fst.snd.1, 0, ()),
 (p.snd.fst.1, p.snd.fst.snd.1, p.snd.fst.snd.snd.1,
 p.snd.fst.snd.snd.snd.1, p.snd.fst.snd.snd.snd.snd.1,
 p.snd.fst.snd.snd.snd.snd.snd.1,
 p.snd.fst.snd.snd.snd.snd.snd.snd.1,
 p.snd.fst.snd.snd.snd.snd.snd.snd.snd.1,
 p.snd.fst.snd.snd.snd.snd.snd.snd.snd.snd.1,
 ()),
 ())).bind
 fun r =>
 loK r (fun r => some r) fun j p =>
 br (j == 3) (some (CVal.str p.fst.snd.1, [])) none)
 none)
 none)
 none)
 ((L f_s_l2Text 1 lc_s_l2Text_1 [] k_s_l2Text_1
 (((),
 p.fst.snd.1 ++ [(32 : UInt8)] ++ p.snd.fst.snd.snd.1 ++
 [(32 : UInt8)] ++
 s ++
 [(32 : UInt8)] ++
 s_1,
 0, ()),
 (p.snd.fst.1, p.snd.fst.snd.1, p.snd.fst.snd.snd.1,
 p.snd.fst.snd.snd.snd.1, p.snd.fst.snd.snd.snd.snd.1,
 p.snd.fst.snd.snd.snd.snd.snd.1, p.snd.fst.snd.snd.snd.snd.snd.snd.1,
 p.snd.fst.snd.snd.snd.snd.snd.snd.snd.1,
 p.snd.fst.snd.snd.snd.snd.snd.snd.snd.snd.1, ()),
 ())).bind
 fun r =>
 loK r (fun r => some r) fun j p =>
 br (j == 1)
 ((L f_s_l2Text 3 lc_s_l2Text_3 [] k_s_l2Text_3
 (((), p.fst.snd.1, 0, ()),
 (p.snd.fst.1, p.snd.fst.snd.1, p.snd.fst.snd.snd.1,
 p.snd.fst.snd.snd.snd.1, p.snd.fst.snd.snd.snd.snd.1,
 p.snd.fst.snd.snd.snd.snd.snd.1,
 p.snd.fst.snd.snd.snd.snd.snd.snd.1,
 p.snd.fst.snd.snd.snd.snd.snd.snd.snd.1,
 p.snd.fst.snd.snd.snd.snd.snd.snd.snd.snd.1, ()),
 ())).bind
 fun r =>
 loK r (fun r => some r) fun j p =>
 br (j == 3) (some (CVal.str p.fst.snd.1, [])) none)
 none))
 none)
 none)
 (br (decide (0 < p.snd.fst.snd.snd.snd.snd.1))
 (br
 (decide
 ((p.fst.snd.1 ++ [(32 : UInt8)] ++ p.snd.fst.snd.snd.1 ++ [(32 : UInt8)] ++
 s).length +
 1 ≤
 1152921504606846976))
 ((C f_s_l1Text
 [AVal.v
 (CVal.agg
 [CVal.int i64 p.snd.fst.snd.snd.snd.snd.1,
 CVal.int i64 p.snd.fst.snd.snd.snd.snd.snd.1,
 CVal.sl p.snd.fst.snd.snd.snd.snd.snd.snd.1])]
 []).bind
 fun r =>
 r.1.asStr.bind fun s_1 =>
 br
 (decide
 ((p.fst.snd.1 ++ [(32 : UInt8)] ++ p.snd.fst.snd.snd.1 ++ [(32 : UInt8)] ++
 s ++
 [(32 : UInt8)]).length +
 s_1.length ≤
 1152921504606846976))
 ((L f_s_l2Text 1 lc_s_l2Text_1 [] k_s_l2Text_1
 (((),
 p.fst.snd.1 ++ [(32 : UInt8)] ++ p.snd.fst.snd.snd.1 ++
 [(32 : UInt8)] ++
 s ++
 [(32 : UInt8)] ++
 s_1,
 0, ()),
 (p.snd.fst.1, p.snd.fst.snd.1, p.snd.fst.snd.snd.1,
 p.snd.fst.snd.snd.snd.1, p.snd.fst.snd.snd.snd.snd.1,
 p.snd.fst.snd.snd.snd.snd.snd.1, p.snd.fst.snd.snd.snd.snd.snd.snd.1,
 p.snd.fst.snd.snd.snd.snd.snd.snd.snd.1,
 p.snd.fst.snd.snd.snd.snd.snd.snd.snd.snd.1, ()),
 ())).bind
 fun r =>
 loK r (fun r => some r) fun j p =>
 br (j == 1)
 ((L f_s_l2Text 3 lc_s_l2Text_3 [] k_s_l2Text_3
 (((), p.fst.snd.1, 0, ()),
 (p.snd.fst.1, p.snd.fst.snd.1, p.snd.fst.snd.snd.1,
 p.snd.fst.snd.snd.snd.1, p.snd.fst.snd.snd.snd.snd.1,
 p.snd.fst.snd.snd.snd.snd.snd.1,
 p.snd.fst.snd.snd.snd.snd.snd.snd.1,
 p.snd.fst.snd.snd.snd.snd.snd.snd.snd.1,
 p.snd.fst.snd.snd.snd.snd.snd.snd.snd.snd.1, ()),
 ())).bind
 fun r =>
 loK r (fun r => some r) fun j p =>
 br (j == 3) (some (CVal.str p.fst.snd.1, [])) none)
 none)
 none)
 none)
 ((L f_s_l2Text 1 lc_s_l2Text_1 [] k_s_l2Text_1
 (((),
 p.fst.snd.1 ++ [(32 : UInt8)] ++ p.snd.fst.snd.snd.1 ++ [(32 : UInt8)] ++ s,
 0, ()),
 (p.snd.fst.1, p.snd.fst.snd.1, p.snd.fst.snd.snd.1, p.snd.fst.snd.snd.snd.1,
 p.snd.fst.snd.snd.snd.snd.1, p.snd.fst.snd.snd.snd.snd.snd.1,
 p.snd.fst.snd.snd.snd.snd.snd.snd.1, p.snd.fst.snd.snd.snd.snd.snd.snd.snd.1,
 p.snd.fst.snd.snd.snd.snd.snd.snd.snd.snd.1, ()),
 ())).bind
 fun r =>
 loK r (fun r => some r) fun j p =>
 br (j == 1)
 ((L f_s_l2Text 3 lc_s_l2Text_3 [] k_s_l2Text_3
 (((), p.fst.snd.1, 0, ()),
 (p.snd.fst.1, p.snd.fst.snd.1, p.snd.fst.snd.snd.1,
 p.snd.fst.snd.snd.snd.1, p.snd.fst.snd.snd.snd.snd.1,
 p.snd.fst.snd.snd.snd.snd.snd.1, p.snd.fst.snd.snd.snd.snd.snd.snd.1,
 p.snd.fst.snd.snd.snd.snd.snd.snd.snd.1,
 p.snd.fst.snd.snd.snd.snd.snd.snd.snd.snd.1, ()),
 ())).bind
 fun r =>
 loK r (fun r => some r) fun j p =>
 br (j == 3) (some (CVal.str p.fst.snd.1, [])) none)
 none)))
 none)
 none)
 (br (decide (p.snd.fst.1 = 3))
 (br
 (decide
 ((p.fst.snd.1 ++ [(32 : UInt8)] ++ p.snd.fst.snd.snd.1).length + 1 ≤
 1152921504606846976))
 ((C f_s_l2Int
 [AVal.v
 (CVal.int i64 (↑(List.length p.snd.fst.snd.snd.snd.snd.snd.snd.snd.1) : Int))]
 []).bind
 fun r =>
 r.1.asStr.bind fun s =>
 br
 (decide
 ((p.fst.snd.1 ++ [(32 : UInt8)] ++ p.snd.fst.snd.snd.1 ++ [(32 : UInt8)]).length +
 s.length ≤
 1152921504606846976))
 (br (decide (0 < p.snd.fst.snd.snd.snd.snd.1))
 (br
 (decide
 ((p.fst.snd.1 ++ [(32 : UInt8)] ++ p.snd.fst.snd.snd.1 ++ [(32 : UInt8)] ++
 s).length +
 1 ≤
 1152921504606846976))
 ((C f_s_l1Text
 [AVal.v
 (CVal.agg
 [CVal.int i64 p.snd.fst.snd.snd.snd.snd.1,
 CVal.int i64 p.snd.fst.snd.snd.snd.snd.snd.1,
 CVal.sl p.snd.fst.snd.snd.snd.snd.snd.snd.1])]
 []).bind
 fun r =>
 r.1.asStr.bind fun s_1 =>
 br
 (decide
 ((p.fst.snd.1 ++ [(32 : UInt8)] ++ p.snd.fst.snd.snd.1 ++ [(32 : UInt8)] ++
 s ++
 [(32 : UInt8)]).length +
 s_1.length ≤
 1152921504606846976))
 ((L f_s_l2Text 1 lc_s_l2Text_1 [] k_s_l2Text_1
 (((),
 p.fst.snd.1 ++ [(32 : UInt8)] ++ p.snd.fst.snd.snd.1 ++
 [(32 : UInt8)] ++
 s ++
 [(32 : UInt8)] ++
 s_1,
 0, ()),
 (p.snd.fst.1, p.snd.fst.snd.1, p.snd.fst.snd.snd.1,
 p.snd.fst.snd.snd.snd.1, p.snd.fst.snd.snd.snd.snd.1,
 p.snd.fst.snd.snd.snd.snd.snd.1, p.snd.fst.snd.snd.snd.snd.snd.snd.1,
 p.snd.fst.snd.snd.snd.snd.snd.snd.snd.1,
 p.snd.fst.snd.snd.snd.snd.snd.snd.snd.snd.1, ()),
 ())).bind
 fun r =>
 loK r (fun r => some r) fun j p =>
 br (j == 1)
 ((L f_s_l2Text 3 lc_s_l2Text_3 [] k_s_l2Text_3
 (((), p.fst.snd.1, 0, ()),
 (p.snd.fst.1, p.snd.fst.snd.1, p.snd.fst.snd.snd.1,
 p.snd.fst.snd.snd.snd.1, p.snd.fst.snd.snd.snd.snd.1,
 p.snd.fst.snd.snd.snd.snd.snd.1,
 p.snd.fst.snd.snd.snd.snd.snd.snd.1,
 p.snd.fst.snd.snd.snd.snd.snd.snd.snd.1,
 p.snd.fst.snd.snd.snd.snd.snd.snd.snd.snd.1, ()),
 ())).bind
 fun r =>
 loK r (fun r => some r) fun j p =>
 br (j == 3) (some (CVal.str p.fst.snd.1, [])) none)
 none)
 none)
 none)
 ((L f_s_l2Text 1 lc_s_l2Text_1 [] k_s_l2Text_1
 (((),
 p.fst.snd.1 ++ [(32 : UInt8)] ++ p.snd.fst.snd.snd.1 ++ [(32 : UInt8)] ++ s,
 0, ()),
 (p.snd.fst.1, p.snd.fst.snd.1, p.snd.fst.snd.snd.1, p.snd.fst.snd.snd.snd.1,
 p.snd.fst.snd.snd.snd.snd.1, p.snd.fst.snd.snd.snd.snd.snd.1,
 p.snd.fst.snd.snd.snd.snd.snd.snd.1, p.snd.fst.snd.snd.snd.snd.snd.snd.snd.1,
 p.snd.fst.snd.snd.snd.snd.snd.snd.snd.snd.1, ()),
 ())).bind
 fun r =>
 loK r (fun r => some r) fun j p =>
 br (j == 1)
 ((L f_s_l2Text 3 lc_s_l2Text_3 [] k_s_l2Text_3
 (((), p.fst.snd.1, 0, ()),
 (p.snd.fst.1, p.snd.fst.snd.1, p.snd.fst.snd.snd.1,
 p.snd.fst.snd.snd.snd.1, p.snd.fst.snd.snd.snd.snd.1,
 p.snd.fst.snd.snd.snd.snd.snd.1, p.snd.fst.snd.snd.snd.snd.snd.snd.1,
 p.snd.fst.snd.snd.snd.snd.snd.snd.snd.1,
 p.snd.fst.snd.snd.snd.snd.snd.snd.snd.snd.1, ()),
 ())).bind
 fun r =>
 loK r (fun r => some r) fun j p =>
 br (j == 3) (some (CVal.str p.fst.snd.1, [])) none)
 none))
 none)
 none)
 (br (decide (0 < p.snd.fst.snd.snd.snd.snd.1))
 (br
 (decide
 ((p.fst.snd.1 ++ [(32 : UInt8)] ++ p.snd.fst.snd.snd.1).length + 1 ≤
 1152921504606846976))
 ((C f_s_l1Text
 [AVal.v
 (CVal.agg
 [CVal.int i64 p.snd.fst.snd.snd.snd.snd.1,
 CVal.int i64 p.snd.fst.snd.snd.snd.snd.snd.1,
 CVal.sl p.snd.fst.snd.snd.snd.snd.snd.snd.1])]
 []).bind
 fun r =>
 r.1.asStr.bind fun s =>
 br
 (decide
 ((p.fst.snd.1 ++ [(32 : UInt8)] ++ p.snd.fst.snd.snd.1 ++ [(32 : UInt8)]).length +
 s.length ≤
 1152921504606846976))
 ((L f_s_l2Text 1 lc_s_l2Text_1 [] k_s_l2Text_1
 (((),
 p.fst.snd.1 ++ [(32 : UInt8)] ++ p.snd.fst.snd.snd.1 ++ [(32 : UInt8)] ++ s,
 0, ()),
 (p.snd.fst.1, p.snd.fst.snd.1, p.snd.fst.snd.snd.1, p.snd.fst.snd.snd.snd.1,
 p.snd.fst.snd.snd.snd.snd.1, p.snd.fst.snd.snd.snd.snd.snd.1,
 p.snd.fst.snd.snd.snd.snd.snd.snd.1, p.snd.fst.snd.snd.snd.snd.snd.snd.snd.1,
 p.snd.fst.snd.snd.snd.snd.snd.snd.snd.snd.1, ()),
 ())).bind
 fun r =>
 loK r (fun r => some r) fun j p =>
 br (j == 1)
 ((L f_s_l2Text 3 lc_s_l2Text_3 [] k_s_l2Text_3
 (((), p.fst.snd.1, 0, ()),
 (p.snd.fst.1, p.snd.fst.snd.1, p.snd.fst.snd.snd.1,
 p.snd.fst.snd.snd.snd.1, p.snd.fst.snd.snd.snd.snd.1,
 p.snd.fst.snd.snd.snd.snd.snd.1, p.snd.fst.snd.snd.snd.snd.snd.snd.1,
 p.snd.fst.snd.snd.snd.snd.snd.snd.snd.1,
 p.snd.fst.snd.snd.snd.snd.snd.snd.snd.snd.1, ()),
 ())).bind
 fun r =>
 loK r (fun r => some r) fun j p =>
 br (j == 3) (some (CVal.str p.fst.snd.1, [])) none)
 none)
 none)
 none)
 ((L f_s_l2Text 1 lc_s_l2Text_1 [] k_s_l2Text_1
 (((), p.fst.snd.1 ++ [(32 : UInt8)] ++ p.snd.fst.snd.snd.1, 0,
 ()),
 (p.snd.fst.1, p.snd.fst.snd.1, p.snd.fst.snd.snd.1, p.snd.fst.snd.snd.snd.1,
 p.snd.fst.snd.snd.snd.snd.1, p.snd.fst.snd.snd.snd.snd.snd.1,
 p.snd.fst.snd.snd.snd.snd.snd.snd.1, p.snd.fst.snd.snd.snd.snd.snd.snd.snd.1,
 p.snd.fst.snd.snd.snd.snd.snd.snd.snd.snd.1, ()),
 ())).bind
 fun r =>
 loK r (fun r => some r) fun j p =>
 br (j == 1)
 ((L f_s_l2Text 3 lc_s_l2Text_3 [] k_s_l2Text_3
 (((), p.fst.snd.1, 0, ()),
 (p.snd.fst.1, p.snd.fst.snd.1, p.snd.fst.snd.snd.1, p.snd.fst.snd.snd.snd.1,
 p.snd.fst.snd.snd.snd.snd.1, p.snd.fst.snd.snd.snd.snd.snd.1,
 p.snd.fst.snd.snd.snd.snd.snd.snd.1, p.snd.fst.snd.snd.snd.snd.snd.snd.snd.1,
 p.snd.fst.snd.snd.snd.snd.snd.snd.snd.snd.1, ()),
 ())).bind
 fun r =>
 loK r (fun r => some r) fun j p =>
 br (j == 3) (some (CVal.str p.fst.snd.1, [])) none)
 none)))))
 none)
 none)
 (br (!decide (p.snd.fst.snd.snd.snd.1 = []))
 (br (decide (List.length p.fst.snd.1 + 1 ≤ 1152921504606846976))
 (br
 (decide
 ((p.fst.snd.1 ++ [(32 : UInt8)]).length + List.length p.snd.fst.snd.snd.snd.1 ≤
 1152921504606846976))
 ((br (decide (p.snd.fst.1 = 6)) (some (true, ()))
 (some (decide (p.snd.fst.1 = 7), ()))).bind
 fun y =>
 br y.1
 (br
 (decide
 ((p.fst.snd.1 ++ [(32 : UInt8)] ++ p.snd.fst.snd.snd.snd.1).length + 1 ≤
 1152921504606846976))
 ((C f_s_l2Int [AVal.v (CVal.int i64 p.snd.fst.snd.1)] []).bind fun r =>
 r.1.asStr.bind fun s =>
 br
 (decide
 ((p.fst.snd.1 ++ [(32 : UInt8)] ++ p.snd.fst.snd.snd.snd.1 ++ [(32 : UInt8)]).length +
 s.length ≤
 1152921504606846976))
 (br (decide (p.snd.fst.1 = 3))
 (br
 (decide
 ((p.fst.snd.1 ++ [(32 : UInt8)] ++ p.snd.fst.snd.snd.snd.1 ++ [(32 : UInt8)] ++
 s).length +
 1 ≤
 1152921504606846976))
 ((C f_s_l2Int
 [AVal.v
 (CVal.int i64
 (↑(List.length p.snd.fst.snd.snd.snd.snd.snd.snd.snd.1) : Int))]
 []).bind
 fun r =>
 r.1.asStr.bind fun s_1 =>
 br
 (decide
 ((p.fst.snd.1 ++ [(32 : UInt8)] ++ p.snd.fst.snd.snd.snd.1 ++ [(32 : UInt8)] ++
 s ++
 [(32 : UInt8)]).length +
 s_1.length ≤
 1152921504606846976))
 (br (decide (0 < p.snd.fst.snd.snd.snd.snd.1))
 (br
 (decide
 ((p.fst.snd.1 ++ [(32 : UInt8)] ++ p.snd.fst.snd.snd.snd.1 ++
 [(32 : UInt8)] ++
 s ++
 [(32 : UInt8)] ++
 s_1).length +
 1 ≤
 1152921504606846976))
 ((C f_s_l1Text
 [AVal.v
 (CVal.agg
 [CVal.int i64 p.snd.fst.snd.snd.snd.snd.1,
 CVal.int i64 p.snd.fst.snd.snd.snd.snd.snd.1,
 CVal.sl p.snd.fst.snd.snd.snd.snd.snd.snd.1])]
 []).bind
 fun r =>
 r.1.asStr.bind fun s_2 =>
 br
 (decide
 ((p.fst.snd.1 ++ [(32 : UInt8)] ++ p.snd.fst.snd.snd.snd.1 ++
 [(32 : UInt8)] ++
 s ++
 [(32 : UInt8)] ++
 s_1 ++
 [(32 : UInt8)]).length +
 s_2.length ≤
 1152921504606846976))
 ((L f_s_l2Text 1 lc_s_l2Text_1 [] k_s_l2Text_1
 (((),
 p.fst.snd.1 ++ [(32 : UInt8)] ++ p.snd.fst.snd.snd.snd.1 ++
 [(32 : UInt8)] ++
 s ++
 [(32 : UInt8)] ++
 s_1 ++
 [(32 : UInt8)] ++
 s_2,
 0, ()),
 (p.snd.fst.1, p.snd.fst.snd.1, p.snd.fst.snd.snd.1,
 p.snd.fst.snd.snd.snd.1, p.snd.fst.snd.snd.snd.snd.1,
 p.snd.fst.snd.snd.snd.snd.snd.1,
 p.snd.fst.snd.snd.snd.snd.snd.snd.1,
 p.snd.fst.snd.snd.snd.snd.snd.snd.snd.1,
 p.snd.fst.snd.snd.snd.snd.snd.snd.snd.snd.1, ()),
 ())).bind
 fun r =>
 loK r (fun r => some r) fun j p =>
 br (j == 1)
 ((L f_s_l2Text 3 lc_s_l2Text_3 [] k_s_l2Text_3
 (((), p.fst.snd.1, 0, ()),
 (p.snd.fst.1, p.snd.fst.snd.1, p.snd.fst.snd.snd.1,
 p.snd.fst.snd.snd.snd.1, p.snd.fst.snd.snd.snd.snd.1,
 p.snd.fst.snd.snd.snd.snd.snd.1,
 p.snd.fst.snd.snd.snd.snd.snd.snd.1,
 p.snd.fst.snd.snd.snd.snd.snd.snd.snd.1,
 p.snd.fst.snd.snd.snd.snd.snd.snd.snd.snd.1,
 ()),
 ())).bind
 fun r =>
 loK r (fun r => some r) fun j p =>
 br (j == 3) (some (CVal.str p.fst.snd.1, [])) none)
 none)
 none)
 none)
 ((L f_s_l2Text 1 lc_s_l2Text_1 [] k_s_l2Text_1
 (((),
 p.fst.snd.1 ++ [(32 : UInt8)] ++ p.snd.fst.snd.snd.snd.1 ++
 [(32 : UInt8)] ++
 s ++
 [(32 : UInt8)] ++
 s_1,
 0, ()),
 (p.snd.fst.1, p.snd.fst.snd.1, p.snd.fst.snd.snd.1,
 p.snd.fst.snd.snd.snd.1, p.snd.fst.snd.snd.snd.snd.1,
 p.snd.fst.snd.snd.snd.snd.snd.1, p.snd.fst.snd.snd.snd.snd.snd.snd.1,
 p.snd.fst.snd.snd.snd.snd.snd.snd.snd.1,
 p.snd.fst.snd.snd.snd.snd.snd.snd.snd.snd.1, ()),
 ())).bind
 fun r =>
 loK r (fun r => some r) fun j p =>
 br (j == 1)
 ((L f_s_l2Text 3 lc_s_l2Text_3 [] k_s_l2Text_3
 (((), p.fst.snd.1, 0, ()),
 (p.snd.fst.1, p.snd.fst.snd.1, p.snd.fst.snd.snd.1,
 p.snd.fst.snd.snd.snd.1, p.snd.fst.snd.snd.snd.snd.1,
 p.snd.fst.snd.snd.snd.snd.snd.1,
 p.snd.fst.snd.snd.snd.snd.snd.snd.1,
 p.snd.fst.snd.snd.snd.snd.snd.snd.snd.1,
 p.snd.fst.snd.snd.snd.snd.snd.snd.snd.snd.1, ()),
 ())).bind
 fun r =>
 loK r (fun r => some r) fun j p =>
 br (j == 3) (some (CVal.str p.fst.snd.1, [])) none)
 none))
 none)
 none)
 (br (decide (0 < p.snd.fst.snd.snd.snd.snd.1))
 (br
 (decide
 ((p.fst.snd.1 ++ [(32 : UInt8)] ++ p.snd.fst.snd.snd.snd.1 ++ [(32 : UInt8)] ++
 s).length +
 1 ≤
 1152921504606846976))
 ((C f_s_l1Text
 [AVal.v
 (CVal.agg
 [CVal.int i64 p.snd.fst.snd.snd.snd.snd.1,
 CVal.int i64 p.snd.fst.snd.snd.snd.snd.snd.1,
 CVal.sl p.snd.fst.snd.snd.snd.snd.snd.snd.1])]
 []).bind
 fun r =>
 r.1.asStr.bind fun s_1 =>
 br
 (decide
 ((p.fst.snd.1 ++ [(32 : UInt8)] ++ p.snd.fst.snd.snd.snd.1 ++
 [(32 : UInt8)] ++
 s ++
 [(32 : UInt8)]).length +
 s_1.length ≤
 1152921504606846976))
 ((L f_s_l2Text 1 lc_s_l2Text_1 [] k_s_l2Text_1
 (((),
 p.fst.snd.1 ++ [(32 : UInt8)] ++ p.snd.fst.snd.snd.snd.1 ++
 [(32 : UInt8)] ++
 s ++
 [(32 : UInt8)] ++
 s_1,
 0, ()),
 (p.snd.fst.1, p.snd.fst.snd.1, p.snd.fst.snd.snd.1,
 p.snd.fst.snd.snd.snd.1, p.snd.fst.snd.snd.snd.snd.1,
 p.snd.fst.snd.snd.snd.snd.snd.1, p.snd.fst.snd.snd.snd.snd.snd.snd.1,
 p.snd.fst.snd.snd.snd.snd.snd.snd.snd.1,
 p.snd.fst.snd.snd.snd.snd.snd.snd.snd.snd.1, ()),
 ())).bind
 fun r =>
 loK r (fun r => some r) fun j p =>
 br (j == 1)
 ((L f_s_l2Text 3 lc_s_l2Text_3 [] k_s_l2Text_3
 (((), p.fst.snd.1, 0, ()),
 (p.snd.fst.1, p.snd.fst.snd.1, p.snd.fst.snd.snd.1,
 p.snd.fst.snd.snd.snd.1, p.snd.fst.snd.snd.snd.snd.1,
 p.snd.fst.snd.snd.snd.snd.snd.1,
 p.snd.fst.snd.snd.snd.snd.snd.snd.1,
 p.snd.fst.snd.snd.snd.snd.snd.snd.snd.1,
 p.snd.fst.snd.snd.snd.snd.snd.snd.snd.snd.1, ()),
 ())).bind
 fun r =>
 loK r (fun r => some r) fun j p =>
 br (j == 3) (some (CVal.str p.fst.snd.1, [])) none)
 none)
 none)
 none)
 ((L f_s_l2Text 1 lc_s_l2Text_1 [] k_s_l2Text_1
 (((),
 p.fst.snd.1 ++ [(32 : UInt8)] ++ p.snd.fst.snd.snd.snd.1 ++ [(32 : UInt8)] ++
 s,
 0, ()),
 (p.snd.fst.1, p.snd.fst.snd.1, p.snd.fst.snd.snd.1, p.snd.fst.snd.snd.snd.1,
 p.snd.fst.snd.snd.snd.snd.1, p.snd.fst.snd.snd.snd.snd.snd.1,
 p.snd.fst.snd.snd.snd.snd.snd.snd.1, p.snd.fst.snd.snd.snd.snd.snd.snd.snd.1,
 p.snd.fst.snd.snd.snd.snd.snd.snd.snd.snd.1, ()),
 ())).bind
 fun r =>
 loK r (fun r => some r) fun j p =>
 br (j == 1)
 ((L f_s_l2Text 3 lc_s_l2Text_3 [] k_s_l2Text_3
 (((), p.fst.snd.1, 0, ()),
 (p.snd.fst.1, p.snd.fst.snd.1, p.snd.fst.snd.snd.1,
 p.snd.fst.snd.snd.snd.1, p.snd.fst.snd.snd.snd.snd.1,
 p.snd.fst.snd.snd.snd.snd.snd.1, p.snd.fst.snd.snd.snd.snd.snd.snd.1,
 p.snd.fst.snd.snd.snd.snd.snd.snd.snd.1,
 p.snd.fst.snd.snd.snd.snd.snd.snd.snd.snd.1, ()),
 ())).bind
 fun r =>
 loK r (fun r => some r) fun j p =>
 br (j == 3) (some (CVal.str p.fst.snd.1, [])) none)
 none)))
 none)
 none)
 (br (decide (p.snd.fst.1 = 3))
 (br
 (decide
 ((p.fst.snd.1 ++ [(32 : UInt8)] ++ p.snd.fst.snd.snd.snd.1).length + 1 ≤
 1152921504606846976))
 ((C f_s_l2Int
 [AVal.v
 (CVal.int i64 (↑(List.length p.snd.fst.snd.snd.snd.snd.snd.snd.snd.1) : Int))]
 []).bind
 fun r =>
 r.1.asStr.bind fun s =>
 br
 (decide
 ((p.fst.snd.1 ++ [(32 : UInt8)] ++ p.snd.fst.snd.snd.snd.1 ++ [(32 : UInt8)]).length +
 s.length ≤
 1152921504606846976))
 (br (decide (0 < p.snd.fst.snd.snd.snd.snd.1))
 (br
 (decide
 ((p.fst.snd.1 ++ [(32 : UInt8)] ++ p.snd.fst.snd.snd.snd.1 ++ [(32 : UInt8)] ++
 s).length +
 1 ≤
 1152921504606846976))
 ((C f_s_l1Text
 [AVal.v
 (CVal.agg
 [CVal.int i64 p.snd.fst.snd.snd.snd.snd.1,
 CVal.int i64 p.snd.fst.snd.snd.snd.snd.snd.1,
 CVal.sl p.snd.fst.snd.snd.snd.snd.snd.snd.1])]
 []).bind
 fun r =>
 r.1.asStr.bind fun s_1 =>
 br
 (decide
 ((p.fst.snd.1 ++ [(32 : UInt8)] ++ p.snd.fst.snd.snd.snd.1 ++
 [(32 : UInt8)] ++
 s ++
 [(32 : UInt8)]).length +
 s_1.length ≤
 1152921504606846976))
 ((L f_s_l2Text 1 lc_s_l2Text_1 [] k_s_l2Text_1
 (((),
 p.fst.snd.1 ++ [(32 : UInt8)] ++ p.snd.fst.snd.snd.snd.1 ++
 [(32 : UInt8)] ++
 s ++
 [(32 : UInt8)] ++
 s_1,
 0, ()),
 (p.snd.fst.1, p.snd.fst.snd.1, p.snd.fst.snd.snd.1,
 p.snd.fst.snd.snd.snd.1, p.snd.fst.snd.snd.snd.snd.1,
 p.snd.fst.snd.snd.snd.snd.snd.1, p.snd.fst.snd.snd.snd.snd.snd.snd.1,
 p.snd.fst.snd.snd.snd.snd.snd.snd.snd.1,
 p.snd.fst.snd.snd.snd.snd.snd.snd.snd.snd.1, ()),
 ())).bind
 fun r =>
 loK r (fun r => some r) fun j p =>
 br (j == 1)
 ((L f_s_l2Text 3 lc_s_l2Text_3 [] k_s_l2Text_3
 (((), p.fst.snd.1, 0, ()),
 (p.snd.fst.1, p.snd.fst.snd.1, p.snd.fst.snd.snd.1,
 p.snd.fst.snd.snd.snd.1, p.snd.fst.snd.snd.snd.snd.1,
 p.snd.fst.snd.snd.snd.snd.snd.1,
 p.snd.fst.snd.snd.snd.snd.snd.snd.1,
 p.snd.fst.snd.snd.snd.snd.snd.snd.snd.1,
 p.snd.fst.snd.snd.snd.snd.snd.snd.snd.snd.1, ()),
 ())).bind
 fun r =>
 loK r (fun r => some r) fun j p =>
 br (j == 3) (some (CVal.str p.fst.snd.1, [])) none)
 none)
 none)
 none)
 ((L f_s_l2Text 1 lc_s_l2Text_1 [] k_s_l2Text_1
 (((),
 p.fst.snd.1 ++ [(32 : UInt8)] ++ p.snd.fst.snd.snd.snd.1 ++ [(32 : UInt8)] ++
 s,
 0, ()),
 (p.snd.fst.1, p.snd.fst.snd.1, p.snd.fst.snd.snd.1, p.snd.fst.snd.snd.snd.1,
 p.snd.fst.snd.snd.snd.snd.1, p.snd.fst.snd.snd.snd.snd.snd.1,
 p.snd.fst.snd.snd.snd.snd.snd.snd.1, p.snd.fst.snd.snd.snd.snd.snd.snd.snd.1,
 p.snd.fst.snd.snd.snd.snd.snd.snd.snd.snd.1, ()),
 ())).bind
 fun r =>
 loK r (fun r => some r) fun j p =>
 br (j == 1)
 ((L f_s_l2Text 3 lc_s_l2Text_3 [] k_s_l2Text_3
 (((), p.fst.snd.1, 0, ()),
 (p.snd.fst.1, p.snd.fst.snd.1, p.snd.fst.snd.snd.1,
 p.snd.fst.snd.snd.snd.1, p.snd.fst.snd.snd.snd.snd.1,
 p.snd.fst.snd.snd.snd.snd.snd.1, p.snd.fst.snd.snd.snd.snd.snd.snd.1,
 p.snd.fst.snd.snd.snd.snd.snd.snd.snd.1,
 p.snd.fst.snd.snd.snd.snd.snd.snd.snd.snd.1, ()),
 ())).bind
 fun r =>
 loK r (fun r => some r) fun j p =>
 br (j == 3) (some (CVal.str p.fst.snd.1, [])) none)
 none))
 none)
 none)
 (br (decide (0 < p.snd.fst.snd.snd.snd.snd.1))
 (br
 (decide
 ((p.fst.snd.1 ++ [(32 : UInt8)] ++ p.snd.fst.snd.snd.snd.1).length + 1 ≤
 1152921504606846976))
 ((C f_s_l1Text
 [AVal.v
 (CVal.agg
 [CVal.int i64 p.snd.fst.snd.snd.snd.snd.1,
 CVal.int i64 p.snd.fst.snd.snd.snd.snd.snd.1,
 CVal.sl p.snd.fst.snd.snd.snd.snd.snd.snd.1])]
 []).bind
 fun r =>
 r.1.asStr.bind fun s =>
 br
 (decide
 ((p.fst.snd.1 ++ [(32 : UInt8)] ++ p.snd.fst.snd.snd.snd.1 ++ [(32 : UInt8)]).length +
 s.length ≤
 1152921504606846976))
 ((L f_s_l2Text 1 lc_s_l2Text_1 [] k_s_l2Text_1
 (((),
 p.fst.snd.1 ++ [(32 : UInt8)] ++ p.snd.fst.snd.snd.snd.1 ++ [(32 : UInt8)] ++
 s,
 0, ()),
 (p.snd.fst.1, p.snd.fst.snd.1, p.snd.fst.snd.snd.1, p.snd.fst.snd.snd.snd.1,
 p.snd.fst.snd.snd.snd.snd.1, p.snd.fst.snd.snd.snd.snd.snd.1,
 p.snd.fst.snd.snd.snd.snd.snd.snd.1, p.snd.fst.snd.snd.snd.snd.snd.snd.snd.1,
 p.snd.fst.snd.snd.snd.snd.snd.snd.snd.snd.1, ()),
 ())).bind
 fun r =>
 loK r (fun r => some r) fun j p =>
 br (j == 1)
 ((L f_s_l2Text 3 lc_s_l2Text_3 [] k_s_l2Text_3
 (((), p.fst.snd.1, 0, ()),
 (p.snd.fst.1, p.snd.fst.snd.1, p.snd.fst.snd.snd.1,
 p.snd.fst.snd.snd.snd.1, p.snd.fst.snd.snd.snd.snd.1,
 p.snd.fst.snd.snd.snd.snd.snd.1, p.snd.fst.snd.snd.snd.snd.snd.snd.1,
 p.snd.fst.snd.snd.snd.snd.snd.snd.snd.1,
 p.snd.fst.snd.snd.snd.snd.snd.snd.snd.snd.1, ()),
 ())).bind
 fun r =>
 loK r (fun r => some r) fun j p =>
 br (j == 3) (some (CVal.str p.fst.snd.1, [])) none)
 none)
 none)
 none)
 ((L f_s_l2Text 1 lc_s_l2Text_1 [] k_s_l2Text_1
 (((), p.fst.snd.1 ++ [(32 : UInt8)] ++ p.snd.fst.snd.snd.snd.1, 0,
 ()),
 (p.snd.fst.1, p.snd.fst.snd.1, p.snd.fst.snd.snd.1, p.snd.fst.snd.snd.snd.1,
 p.snd.fst.snd.snd.snd.snd.1, p.snd.fst.snd.snd.snd.snd.snd.1,
 p.snd.fst.snd.snd.snd.snd.snd.snd.1, p.snd.fst.snd.snd.snd.snd.snd.snd.snd.1,
 p.snd.fst.snd.snd.snd.snd.snd.snd.snd.snd.1, ()),
 ())).bind
 fun r =>
 loK r (fun r => some r) fun j p =>
 br (j == 1)
 ((L f_s_l2Text 3 lc_s_l2Text_3 [] k_s_l2Text_3
 (((), p.fst.snd.1, 0, ()),
 (p.snd.fst.1, p.snd.fst.snd.1, p.snd.fst.snd.snd.1, p.snd.fst.snd.snd.snd.1,
 p.snd.fst.snd.snd.snd.snd.1, p.snd.fst.snd.snd.snd.snd.snd.1,
 p.snd.fst.snd.snd.snd.snd.snd.snd.1, p.snd.fst.snd.snd.snd.snd.snd.snd.snd.1,
 p.snd.fst.snd.snd.snd.snd.snd.snd.snd.snd.1, ()),
 ())).bind
 fun r =>
 loK r (fun r => some r) fun j p =>
 br (j == 3) (some (CVal.str p.fst.snd.1, [])) none)
 none))))
 none)
 none)
 ((br (decide (p.snd.fst.1 = 6)) (some (true, ()))
 (some (decide (p.snd.fst.1 = 7), ()))).bind
 fun y =>
 br y.1
 (br (decide (List.length p.fst.snd.1 + 1 ≤ 1152921504606846976))
 ((C f_s_l2Int [AVal.v (CVal.int i64 p.snd.fst.snd.1)] []).bind fun r =>
 r.1.asStr.bind fun s =>
 br (decide ((p.fst.snd.1 ++ [(32 : UInt8)]).length + s.length ≤ 1152921504606846976))
 (br (decide (p.snd.fst.1 = 3))
 (br
 (decide
 ((p.fst.snd.1 ++ [(32 : UInt8)] ++ s).length + 1 ≤ 1152921504606846976))
 ((C f_s_l2Int
 [AVal.v
 (CVal.int i64
 (↑(List.length p.snd.fst.snd.snd.snd.snd.snd.snd.snd.1) : Int))]
 []).bind
 fun r =>
 r.1.asStr.bind fun s_1 =>
 br
 (decide
 ((p.fst.snd.1 ++ [(32 : UInt8)] ++ s ++ [(32 : UInt8)]).length + s_1.length ≤
 1152921504606846976))
 (br (decide (0 < p.snd.fst.snd.snd.snd.snd.1))
 (br
 (decide
 ((p.fst.snd.1 ++ [(32 : UInt8)] ++ s ++ [(32 : UInt8)] ++ s_1).length +
 1 ≤
 1152921504606846976))
 ((C f_s_l1Text
 [AVal.v
 (CVal.agg
 [CVal.int i64 p.snd.fst.snd.snd.snd.snd.1,
 CVal.int i64 p.snd.fst.snd.snd.snd.snd.snd.1,
 CVal.sl p.snd.fst.snd.snd.snd.snd.snd.snd.1])]
 []).bind
 fun r =>
 r.1.asStr.bind fun s_2 =>
 br
 (decide
 ((p.fst.snd.1 ++ [(32 : UInt8)] ++ s ++ [(32 : UInt8)] ++ s_1 ++
 [(32 : UInt8)]).length +
 s_2.length ≤
 1152921504606846976))
 ((L f_s_l2Text 1 lc_s_l2Text_1 [] k_s_l2Text_1
 (((),
 p.fst.snd.1 ++ [(32 : UInt8)] ++ s ++ [(32 : UInt8)] ++ s_1 ++
 [(32 : UInt8)] ++
 s_2,
 0, ()),
 (p.snd.fst.1, p.snd.fst.snd.1, p.snd.fst.snd.snd.1,
 p.snd.fst.snd.snd.snd.1, p.snd.fst.snd.snd.snd.snd.1,
 p.snd.fst.snd.snd.snd.snd.snd.1,
 p.snd.fst.snd.snd.snd.snd.snd.snd.1,
 p.snd.fst.snd.snd.snd.snd.snd.snd.snd.1,
 p.snd.fst.snd.snd.snd.snd.snd.snd.snd.snd.1, ()),
 ())).bind
 fun r =>
 loK r (fun r => some r) fun j p =>
 br (j == 1)
 ((L f_s_l2Text 3 lc_s_l2Text_3 [] k_s_l2Text_3
 (((), p.fst.snd.1, 0, ()),
 (p.snd.fst.1, p.snd.fst.snd.1, p.snd.fst.snd.snd.1,
 p.snd.fst.snd.snd.snd.1, p.snd.fst.snd.snd.snd.snd.1,
 p.snd.fst.snd.snd.snd.snd.snd.1,
 p.snd.fst.snd.snd.snd.snd.snd.snd.1,
 p.snd.fst.snd.snd.snd.snd.snd.snd.snd.1,
 p.snd.fst.snd.snd.snd.snd.snd.snd.snd.snd.1, ()),
 ())).bind
 fun r =>
 loK r (fun r => some r) fun j p =>
 br (j == 3) (some (CVal.str p.fst.snd.1, [])) none)
 none)
 none)
 none)
 ((L f_s_l2Text 1 lc_s_l2Text_1 [] k_s_l2Text_1
 (((), p.fst.snd.1 ++ [(32 : UInt8)] ++ s ++ [(32 : UInt8)] ++ s_1,
 0, ()),
 (p.snd.fst.1, p.snd.fst.snd.1, p.snd.fst.snd.snd.1, p.snd.fst.snd.snd.snd.1,
 p.snd.fst.snd.snd.snd.snd.1, p.snd.fst.snd.snd.snd.snd.snd.1,
 p.snd.fst.snd.snd.snd.snd.snd.snd.1,
 p.snd.fst.snd.snd.snd.snd.snd.snd.snd.1,
 p.snd.fst.snd.snd.snd.snd.snd.snd.snd.snd.1, ()),
 ())).bind
 fun r =>
 loK r (fun r => some r) fun j p =>
 br (j == 1)
 ((L f_s_l2Text 3 lc_s_l2Text_3 [] k_s_l2Text_3
 (((), p.fst.snd.1, 0, ()),
 (p.snd.fst.1, p.snd.fst.snd.1, p.snd.fst.snd.snd.1,
 p.snd.fst.snd.snd.snd.1, p.snd.fst.snd.snd.snd.snd.1,
 p.snd.fst.snd.snd.snd.snd.snd.1,
 p.snd.fst.snd.snd.snd.snd.snd.snd.1,
 p.snd.fst.snd.snd.snd.snd.snd.snd.snd.1,
 p.snd.fst.snd.snd.snd.snd.snd.snd.snd.snd.1, ()),
 ())).bind
 fun r =>
 loK r (fun r => some r) fun j p =>
 br (j == 3) (some (CVal.str p.fst.snd.1, [])) none)
 none))
 none)
 none)
 (br (decide (0 < p.snd.fst.snd.snd.snd.snd.1))
 (br
 (decide
 ((p.fst.snd.1 ++ [(32 : UInt8)] ++ s).length + 1 ≤ 1152921504606846976))
 ((C f_s_l1Text
 [AVal.v
 (CVal.agg
 [CVal.int i64 p.snd.fst.snd.snd.snd.snd.1,
 CVal.int i64 p.snd.fst.snd.snd.snd.snd.snd.1,
 CVal.sl p.snd.fst.snd.snd.snd.snd.snd.snd.1])]
 []).bind
 fun r =>
 r.1.asStr.bind fun s_1 =>
 br
 (decide
 ((p.fst.snd.1 ++ [(32 : UInt8)] ++ s ++ [(32 : UInt8)]).length + s_1.length ≤
 1152921504606846976))
 ((L f_s_l2Text 1 lc_s_l2Text_1 [] k_s_l2Text_1
 (((), p.fst.snd.1 ++ [(32 : UInt8)] ++ s ++ [(32 : UInt8)] ++ s_1,
 0, ()),
 (p.snd.fst.1, p.snd.fst.snd.1, p.snd.fst.snd.snd.1, p.snd.fst.snd.snd.snd.1,
 p.snd.fst.snd.snd.snd.snd.1, p.snd.fst.snd.snd.snd.snd.snd.1,
 p.snd.fst.snd.snd.snd.snd.snd.snd.1,
 p.snd.fst.snd.snd.snd.snd.snd.snd.snd.1,
 p.snd.fst.snd.snd.snd.snd.snd.snd.snd.snd.1, ()),
 ())).bind
 fun r =>
 loK r (fun r => some r) fun j p =>
 br (j == 1)
 ((L f_s_l2Text 3 lc_s_l2Text_3 [] k_s_l2Text_3
 (((), p.fst.snd.1, 0, ()),
 (p.snd.fst.1, p.snd.fst.snd.1, p.snd.fst.snd.snd.1,
 p.snd.fst.snd.snd.snd.1, p.snd.fst.snd.snd.snd.snd.1,
 p.snd.fst.snd.snd.snd.snd.snd.1,
 p.snd.fst.snd.snd.snd.snd.snd.snd.1,
 p.snd.fst.snd.snd.snd.snd.snd.snd.snd.1,
 p.snd.fst.snd.snd.snd.snd.snd.snd.snd.snd.1, ()),
 ())).bind
 fun r =>
 loK r (fun r => some r) fun j p =>
 br (j == 3) (some (CVal.str p.fst.snd.1, [])) none)
 none)
 none)
 none)
 ((L f_s_l2Text 1 lc_s_l2Text_1 [] k_s_l2Text_1
 (((), p.fst.snd.1 ++ [(32 : UInt8)] ++ s, 0, ()),
 (p.snd.fst.1, p.snd.fst.snd.1, p.snd.fst.snd.snd.1, p.snd.fst.snd.snd.snd.1,
 p.snd.fst.snd.snd.snd.snd.1, p.snd.fst.snd.snd.snd.snd.snd.1,
 p.snd.fst.snd.snd.snd.snd.snd.snd.1, p.snd.fst.snd.snd.snd.snd.snd.snd.snd.1,
 p.snd.fst.snd.snd.snd.snd.snd.snd.snd.snd.1, ()),
 ())).bind
 fun r =>
 loK r (fun r => some r) fun j p =>
 br (j == 1)
 ((L f_s_l2Text 3 lc_s_l2Text_3 [] k_s_l2Text_3
 (((), p.fst.snd.1, 0, ()),
 (p.snd.fst.1, p.snd.fst.snd.1, p.snd.fst.snd.snd.1, p.snd.fst.snd.snd.snd.1,
 p.snd.fst.snd.snd.snd.snd.1, p.snd.fst.snd.snd.snd.snd.snd.1,
 p.snd.fst.snd.snd.snd.snd.snd.snd.1,
 p.snd.fst.snd.snd.snd.snd.snd.snd.snd.1,
 p.snd.fst.snd.snd.snd.snd.snd.snd.snd.snd.1, ()),
 ())).bind
 fun r =>
 loK r (fun r => some r) fun j p =>
 br (j == 3) (some (CVal.str p.fst.snd.1, [])) none)
 none)))
 none)
 none)
 (br (decide (p.snd.fst.1 = 3))
 (br (decide (List.length p.fst.snd.1 + 1 ≤ 1152921504606846976))
 ((C f_s_l2Int
 [AVal.v (CVal.int i64 (↑(List.length p.snd.fst.snd.snd.snd.snd.snd.snd.snd.1) : Int))]
 []).bind
 fun r =>
 r.1.asStr.bind fun s =>
 br (decide ((p.fst.snd.1 ++ [(32 : UInt8)]).length + s.length ≤ 1152921504606846976))
 (br (decide (0 < p.snd.fst.snd.snd.snd.snd.1))
 (br
 (decide
 ((p.fst.snd.1 ++ [(32 : UInt8)] ++ s).length + 1 ≤ 1152921504606846976))
 ((C f_s_l1Text
 [AVal.v
 (CVal.agg
 [CVal.int i64 p.snd.fst.snd.snd.snd.snd.1,
 CVal.int i64 p.snd.fst.snd.snd.snd.snd.snd.1,
 CVal.sl p.snd.fst.snd.snd.snd.snd.snd.snd.1])]
 []).bind
 fun r =>
 r.1.asStr.bind fun s_1 =>
 br
 (decide
 ((p.fst.snd.1 ++ [(32 : UInt8)] ++ s ++ [(32 : UInt8)]).length + s_1.length ≤
 1152921504606846976))
 ((L f_s_l2Text 1 lc_s_l2Text_1 [] k_s_l2Text_1
 (((), p.fst.snd.1 ++ [(32 : UInt8)] ++ s ++ [(32 : UInt8)] ++ s_1,
 0, ()),
 (p.snd.fst.1, p.snd.fst.snd.1, p.snd.fst.snd.snd.1, p.snd.fst.snd.snd.snd.1,
 p.snd.fst.snd.snd.snd.snd.1, p.snd.fst.snd.snd.snd.snd.snd.1,
 p.snd.fst.snd.snd.snd.snd.snd.snd.1,
 p.snd.fst.snd.snd.snd.snd.snd.snd.snd.1,
 p.snd.fst.snd.snd.snd.snd.snd.snd.snd.snd.1, ()),
 ())).bind
 fun r =>
 loK r (fun r => some r) fun j p =>
 br (j == 1)
 ((L f_s_l2Text 3 lc_s_l2Text_3 [] k_s_l2Text_3
 (((), p.fst.snd.1, 0, ()),
 (p.snd.fst.1, p.snd.fst.snd.1, p.snd.fst.snd.snd.1,
 p.snd.fst.snd.snd.snd.1, p.snd.fst.snd.snd.snd.snd.1,
 p.snd.fst.snd.snd.snd.snd.snd.1,
 p.snd.fst.snd.snd.snd.snd.snd.snd.1,
 p.snd.fst.snd.snd.snd.snd.snd.snd.snd.1,
 p.snd.fst.snd.snd.snd.snd.snd.snd.snd.snd.1, ()),
 ())).bind
 fun r =>
 loK r (fun r => some r) fun j p =>
 br (j == 3) (some (CVal.str p.fst.snd.1, [])) none)
 none)
 none)
 none)
 ((L f_s_l2Text 1 lc_s_l2Text_1 [] k_s_l2Text_1
 (((), p.fst.snd.1 ++ [(32 : UInt8)] ++ s, 0, ()),
 (p.snd.fst.1, p.snd.fst.snd.1, p.snd.fst.snd.snd.1, p.snd.fst.snd.snd.snd.1,
 p.snd.fst.snd.snd.snd.snd.1, p.snd.fst.snd.snd.snd.snd.snd.1,
 p.snd.fst.snd.snd.snd.snd.snd.snd.1, p.snd.fst.snd.snd.snd.snd.snd.snd.snd.1,
 p.snd.fst.snd.snd.snd.snd.snd.snd.snd.snd.1, ()),
 ())).bind
 fun r =>
 loK r (fun r => some r) fun j p =>
 br (j == 1)
 ((L f_s_l2Text 3 lc_s_l2Text_3 [] k_s_l2Text_3
 (((), p.fst.snd.1, 0, ()),
 (p.snd.fst.1, p.snd.fst.snd.1, p.snd.fst.snd.snd.1, p.snd.fst.snd.snd.snd.1,
 p.snd.fst.snd.snd.snd.snd.1, p.snd.fst.snd.snd.snd.snd.snd.1,
 p.snd.fst.snd.snd.snd.snd.snd.snd.1,
 p.snd.fst.snd.snd.snd.snd.snd.snd.snd.1,
 p.snd.fst.snd.snd.snd.snd.snd.snd.snd.snd.1, ()),
 ())).bind
 fun r =>
 loK r (fun r => some r) fun j p =>
 br (j == 3) (some (CVal.str p.fst.snd.1, [])) none)
 none))
 none)
 none)
 (br (decide (0 < p.snd.fst.snd.snd.snd.snd.1))
 (br (decide (List.length p.fst.snd.1 + 1 ≤ 1152921504606846976))
 ((C f_s_l1Text
 [AVal.v
 (CVal.agg
 [CVal.int i64 p.snd.fst.snd.snd.snd.snd.1,
 CVal.int i64 p.snd.fst.snd.snd.snd.snd.snd.1,
 CVal.sl p.snd.fst.snd.snd.snd.snd.snd.snd.1])]
 []).bind
 fun r =>
 r.1.asStr.bind fun s =>
 br (decide ((p.fst.snd.1 ++ [(32 : UInt8)]).length + s.length ≤ 1152921504606846976))
 ((L f_s_l2Text 1 lc_s_l2Text_1 [] k_s_l2Text_1
 (((), p.fst.snd.1 ++ [(32 : UInt8)] ++ s, 0, ()),
 (p.snd.fst.1, p.snd.fst.snd.1, p.snd.fst.snd.snd.1, p.snd.fst.snd.snd.snd.1,
 p.snd.fst.snd.snd.snd.snd.1, p.snd.fst.snd.snd.snd.snd.snd.1,
 p.snd.fst.snd.snd.snd.snd.snd.snd.1, p.snd.fst.snd.snd.snd.snd.snd.snd.snd.1,
 p.snd.fst.snd.snd.snd.snd.snd.snd.snd.snd.1, ()),
 ())).bind
 fun r =>
 loK r (fun r => some r) fun j p =>
 br (j == 1)
 ((L f_s_l2Text 3 lc_s_l2Text_3 [] k_s_l2Text_3
 (((), p.fst.snd.1, 0, ()),
 (p.snd.fst.1, p.snd.fst.snd.1, p.snd.fst.snd.snd.1, p.snd.fst.snd.snd.snd.1,
 p.snd.fst.snd.snd.snd.snd.1, p.snd.fst.snd.snd.snd.snd.snd.1,
 p.snd.fst.snd.snd.snd.snd.snd.snd.1,
 p.snd.fst.snd.snd.snd.snd.snd.snd.snd.1,
 p.snd.fst.snd.snd.snd.snd.snd.snd.snd.snd.1, ()),
 ())).bind
 fun r =>
 loK r (fun r => some r) fun j p =>
 br (j == 3) (some (CVal.str p.fst.snd.1, [])) none)
 none)
 none)
 none)
 ((L f_s_l2Text 1 lc_s_l2Text_1 [] k_s_l2Text_1
 (((), p.fst.snd.1, 0, ()),
 (p.snd.fst.1, p.snd.fst.snd.1, p.snd.fst.snd.snd.1, p.snd.fst.snd.snd.snd.1,
 p.snd.fst.snd.snd.snd.snd.1, p.snd.fst.snd.snd.snd.snd.snd.1,
 p.snd.fst.snd.snd.snd.snd.snd.snd.1, p.snd.fst.snd.snd.snd.snd.snd.snd.snd.1,
 p.snd.fst.snd.snd.snd.snd.snd.snd.snd.snd.1, ()),
 ())).bind
 fun r =>
 loK r (fun r => some r) fun j p =>
 br (j == 1)
 ((L f_s_l2Text 3 lc_s_l2Text_3 [] k_s_l2Text_3
 (((), p.fst.snd.1, 0, ()),
 (p.snd.fst.1, p.snd.fst.snd.1, p.snd.fst.snd.snd.1, p.snd.fst.snd.snd.snd.1,
 p.snd.fst.snd.snd.snd.snd.1, p.snd.fst.snd.snd.snd.snd.snd.1,
 p.snd.fst.snd.snd.snd.snd.snd.snd.1, p.snd.fst.snd.snd.snd.snd.snd.snd.snd.1,
 p.snd.fst.snd.snd.snd.snd.snd.snd.snd.snd.1, ()),
 ())).bind
 fun r =>
 loK r (fun r => some r) fun j p =>
 br (j == 3) (some (CVal.str p.fst.snd.1, [])) none)
 none))))))
 none
theorem go_s_l2Text (a0 : Int) (a1 : Int) (a2 : List UInt8) (a3 : List UInt8) (a40 : Int) (a41 : Int) (a42 : List CVal) (a5 : List CVal) (a6 : List CVal) (R : Ret) (h : nf_s_l2Text CC LL a0 a1 a2 a3 a40 a41 a42 a5 a6 = some R) : CC f_s_l2Text [AVal.v
 (CVal.agg
 [CVal.int i64 a0, CVal.int i64 a1, CVal.str a2, CVal.str a3, CVal.int i64 a40,
 CVal.int i64 a41, CVal.sl a42, CVal.sl a5, CVal.sl a6])] [] = some R := fnW (by decide) rfl (Eq.trans (b := nf_s_l2Text CC LL a0 a1 a2 a3 a40 a41 a42 a5 a6) (by kernel_rfl) h)
noncomputable def nf_l_eqTyS (C : CallT) (L : LoopT) (a : List CVal) (b : List CVal) : Option Ret :=
 br (!decide ((↑a.length : Int) = (↑b.length : Int))) (some (CVal.bool false, []))
 ((L f_l_eqTyS 0 lc_l_eqTyS_0 [] k_l_eqTyS_0 ((a, b, 0, ()), ())).bind fun r =>
 loK r (fun r => some r) fun j p => br (j == 0) (some (CVal.bool true, [])) none)
theorem go_l_eqTyS (a : List CVal) (b : List CVal) (R : Ret) (h : nf_l_eqTyS CC LL a b = some R) : CC f_l_eqTyS [AVal.v (CVal.sl a), AVal.v (CVal.sl b)] [] = some R := fnW (by decide) rfl (Eq.trans (b := nf_l_eqTyS CC LL a b) (by kernel_rfl) h)
noncomputable def nf_s_l2Int (C : CallT) (L : LoopT) (a : Int) : Option Ret :=
 br (decide (a < 0))
 ((C f_s_l2Int [AVal.v (CVal.int i64 (i64.wrap (0 - a)))] []).bind fun r =>
 r.1.asStr.bind fun s =>
 br (decide (1 + s.length ≤ 1152921504606846976)) (some (CVal.str ([(45 : UInt8)] ++ s), [])) none)
 (br (decide (a < 10))
 (some (CVal.str [UInt8.ofNat (IntKind.u8.wrap (i64.wrap (48 + a))).toNat], []))
 ((C f_s_l2Int [AVal.v (CVal.int i64 (i64.wrap (a.tdiv 10)))] []).bind fun r =>
 r.1.asStr.bind fun s =>
 br (decide (s.length + 1 ≤ 1152921504606846976))
 (some
 (CVal.str (s ++ [UInt8.ofNat (IntKind.u8.wrap (i64.wrap (48 + a.tmod 10))).toNat]),
 []))
 none))
theorem go_s_l2Int (a : Int) (R : Ret) (h : nf_s_l2Int CC LL a = some R) : CC f_s_l2Int [AVal.v (CVal.int i64 a)] [] = some R := fnW (by decide) rfl (Eq.trans (b := nf_s_l2Int CC LL a) (by kernel_rfl) h)
noncomputable def nf_s_l2One (C : CallT) (L : LoopT) (a0 : Int) (a1 : Int) (a2 : List UInt8) (a3 : List UInt8) (a40 : Int) (a41 : Int) (a42 : List CVal) (a5 : List CVal) (a6 : List CVal) : Option Ret :=
 (C f_s_l2Of [AVal.v (CVal.int i64 a0)] []).bind fun r =>
 br (CVal.isAggN 5 r.1)
 ((r.1.cell 0).bind fun c =>
 (r.1.cell 1).bind fun c_1 =>
 (r.1.cell 2).bind fun c_2 =>
 (r.1.cell 3).bind fun c_3 =>
 (r.1.cell 4).bind fun c_4 =>
 ((CVal.asInt i64 c).bind fun n =>
 br (!decide ((↑a6.length : Int) = n)) (some (true, ()))
 ((C f_s_l2Number
 [AVal.v
 (CVal.agg
 [CVal.int i64 a0, CVal.int i64 a1, CVal.str a2, CVal.str a3,
 CVal.int i64 a40, CVal.int i64 a41, CVal.sl a42, CVal.sl a5,
 CVal.sl a6])]
 []).bind
 fun r =>
 r.1.asBool.bind fun b =>
 br (!b) (some (true, ()))
 ((C f_s_l2Name [AVal.v (CVal.str a2), AVal.v (CVal.bool false)] []).bind fun r =>
 c_2.asBool.bind fun b =>
 r.1.asBool.bind fun b_1 =>
 br (!b == b_1) (some (true, ()))
 (c_2.asBool.bind fun b =>
 br (!b)
 (br (!decide (a2 = [])) (some (true, ()))
 ((C f_s_l2Name [AVal.v (CVal.str a3), AVal.v (CVal.bool false)] []).bind
 fun r =>
 c_3.asBool.bind fun b =>
 r.1.asBool.bind fun b_2 =>
 br (!b == b_2) (some (true, ()))
 (c_3.asBool.bind fun b =>
 br (!b)
 (br (!decide (a3 = [])) (some (true, ()))
 (c_3.asBool.bind fun b =>
 br b (some (decide (a2 = a3), ()))
 (some (false, ()))))
 (c_3.asBool.bind fun b =>
 br b (some (decide (a2 = a3), ()))
 (some (false, ()))))))
 ((C f_s_l2Name [AVal.v (CVal.str a3), AVal.v (CVal.bool false)] []).bind
 fun r =>
 c_3.asBool.bind fun b =>
 r.1.asBool.bind fun b_2 =>
 br (!b == b_2) (some (true, ()))
 (c_3.asBool.bind fun b =>
 br (!b)
 (br (!decide (a3 = [])) (some (true, ()))
 (c_3.asBool.bind fun b =>
 br b (some (decide (a2 = a3), ()))
 (some (false, ()))))
 (c_3.asBool.bind fun b =>
 br b (some (decide (a2 = a3), ()))
 (some (false, ()))))))))).bind
 fun y =>
 br y.1 (some (CVal.bool false, []))
 (((C f_s_TyOk [AVal.v (CVal.agg [CVal.int i64 a40, CVal.int i64 a41, CVal.sl a42])]
 []).bind
 fun r =>
 c_4.asBool.bind fun b =>
 r.1.asBool.bind fun b_1 =>
 br (!b == b_1) (some (true, ()))
 (c_4.asBool.bind fun b =>
 br (!b)
 ((C f_s_SameTy
 [AVal.v
 (CVal.agg
 [CVal.int i64 a40, CVal.int i64 a41, CVal.sl a42]),
 AVal.v
 (CVal.agg
 [CVal.int i64 0, CVal.int i64 0,
 CVal.sl []])]
 []).bind
 fun r =>
 br (!scalar r.1) none
 (r.1.asBool.bind fun b =>
 br (!b) (some (true, ()))
 (br (decide (2 < (↑a5.length : Int))) (some (true, ()))
 (br (!decide (a0 = 3))
 (some (decide (0 < (↑a5.length : Int)), ()))
 (some (false, ()))))))
 (br (decide (2 < (↑a5.length : Int))) (some (true, ()))
 (br (!decide (a0 = 3))
 (some (decide (0 < (↑a5.length : Int)), ()))
 (some (false, ())))))).bind
 fun y =>
 br y.1 (some (CVal.bool false, []))
 ((L f_s_l2One 0 lc_s_l2One_0 [] k_s_l2One_0
 (((), 0, ()), (a0, a1, a2, a3, a40, a41, a42, a5, a6, ()),
 ())).bind
 fun r =>
 loK r (fun r => some r) fun j p =>
 br (j == 0)
 ((br (!decide (p.snd.fst.1 = 7)) (some (true, ()))
 (p.snd.fst.snd.snd.snd.snd.snd.snd.snd.snd.1[0]?.bind fun y =>
 br (CVal.fits true 9 y)
 ((y.cell 0).bind fun c =>
 (CVal.asInt i64 c).bind fun n =>
 some (decide (n = 4), ()))
 none)).bind
 fun y => some (CVal.bool y.1, []))
 none)))
 none
theorem go_s_l2One (a0 : Int) (a1 : Int) (a2 : List UInt8) (a3 : List UInt8) (a40 : Int) (a41 : Int) (a42 : List CVal) (a5 : List CVal) (a6 : List CVal) (R : Ret) (h : nf_s_l2One CC LL a0 a1 a2 a3 a40 a41 a42 a5 a6 = some R) : CC f_s_l2One [AVal.v
 (CVal.agg
 [CVal.int i64 a0, CVal.int i64 a1, CVal.str a2, CVal.str a3, CVal.int i64 a40,
 CVal.int i64 a41, CVal.sl a42, CVal.sl a5, CVal.sl a6])] [] = some R := fnW (by decide) rfl (Eq.trans (b := nf_s_l2One CC LL a0 a1 a2 a3 a40 a41 a42 a5 a6) (by kernel_rfl) h)
noncomputable def nf_i_opSigns (C : CallT) (L : LoopT) : Option Ret :=
 some
 (CVal.sl
 [CVal.str [], CVal.str [(43 : UInt8)], CVal.str [(45 : UInt8)], CVal.str [(42 : UInt8)], CVal.str [(60 : UInt8)],
 CVal.str [(61 : UInt8)]],
 [])
theorem go_i_opSigns (R : Ret) (h : nf_i_opSigns CC LL = some R) : CC f_i_opSigns [] [] = some R := fnW (by decide) rfl (Eq.trans (b := nf_i_opSigns CC LL) (by kernel_rfl) h)
noncomputable def nf_s_l2Number (C : CallT) (L : LoopT) (a0 : Int) (a1 : Int) (a2 : List UInt8) (a3 : List UInt8) (a40 : Int) (a41 : Int) (a42 : List CVal) (a5 : List CVal) (a6 : List CVal) : Option Ret :=
 br (decide (a0 = 1))
 ((C f_s_l1In
 [AVal.v (CVal.int i64 a1), AVal.v (CVal.int i64 (-1000000 : Int)),
 AVal.v (CVal.int i64 1000000)]
 []).bind
 fun r => some (r.1, []))
 (br (decide (a0 = 2))
 ((C f_s_l1In
 [AVal.v (CVal.int i64 a1), AVal.v (CVal.int i64 0),
 AVal.v (CVal.int i64 1)]
 []).bind
 fun r => some (r.1, []))
 (br (decide (a0 = 6))
 ((C f_s_l1In
 [AVal.v (CVal.int i64 a1), AVal.v (CVal.int i64 0),
 AVal.v (CVal.int i64 2)]
 []).bind
 fun r => some (r.1, []))
 (br (decide (a0 = 7))
 ((C f_s_l1In
 [AVal.v (CVal.int i64 a1), AVal.v (CVal.int i64 0),
 AVal.v (CVal.int i64 2)]
 []).bind
 fun r => some (r.1, []))
 (br (decide (a0 = 15))
 ((C f_s_l1In
 [AVal.v (CVal.int i64 a1), AVal.v (CVal.int i64 1),
 AVal.v (CVal.int i64 5)]
 []).bind
 fun r => some (r.1, []))
 (some (CVal.bool (decide (a1 = 0)), []))))))
theorem go_s_l2Number (a0 : Int) (a1 : Int) (a2 : List UInt8) (a3 : List UInt8) (a40 : Int) (a41 : Int) (a42 : List CVal) (a5 : List CVal) (a6 : List CVal) (R : Ret) (h : nf_s_l2Number CC LL a0 a1 a2 a3 a40 a41 a42 a5 a6 = some R) : CC f_s_l2Number [AVal.v
 (CVal.agg
 [CVal.int i64 a0, CVal.int i64 a1, CVal.str a2, CVal.str a3, CVal.int i64 a40,
 CVal.int i64 a41, CVal.sl a42, CVal.sl a5, CVal.sl a6])] [] = some R := fnW (by decide) rfl (Eq.trans (b := nf_s_l2Number CC LL a0 a1 a2 a3 a40 a41 a42 a5 a6) (by kernel_rfl) h)
noncomputable def nf_i_parts (C : CallT) (L : LoopT) (a : Int) : Option Ret :=
 br (decide (a = 1)) (some (CVal.int i64 0, []))
 (br (decide (a = 2)) (some (CVal.int i64 0, []))
 (br (decide (a = 3)) (some (CVal.int i64 0, []))
 (br (decide (a = 12)) (some (CVal.int i64 0, []))
 (br (decide (a = 4)) (some (CVal.int i64 1, []))
 (br (decide (a = 10)) (some (CVal.int i64 1, []))
 (br (decide (a = 11)) (some (CVal.int i64 1, []))
 (br (decide (a = 16)) (some (CVal.int i64 1, []))
 (br (decide (a = 5)) (some (CVal.int i64 2, []))
 (br (decide (a = 6)) (some (CVal.int i64 2, []))
 (br (decide (a = 7)) (some (CVal.int i64 2, []))
 (br (decide (a = 9)) (some (CVal.int i64 2, []))
 (br (decide (a = 13)) (some (CVal.int i64 2, []))
 (br (decide (a = 15)) (some (CVal.int i64 2, []))
 (br (decide (a = 17)) (some (CVal.int i64 2, []))
 (br (decide (a = 8)) (some (CVal.int i64 3, []))
 (br (decide (a = 14)) (some (CVal.int i64 3, []))
 (some (CVal.int i64 (-1 : Int), []))))))))))))))))))
theorem go_i_parts (a : Int) (R : Ret) (h : nf_i_parts CC LL a = some R) : CC f_i_parts [AVal.v (CVal.int i64 a)] [] = some R := fnW (by decide) rfl (Eq.trans (b := nf_i_parts CC LL a) (by kernel_rfl) h)
noncomputable def nf_i_SameTy (C : CallT) (L : LoopT) (a0 : Int) (a1 : Int) (a2 : List CVal) (b0 : Int) (b1 : Int) (b2 : List CVal) : Option Ret :=
 (br (decide (a0 = b0))
 (br (decide (a1 = b1))
 ((C f_slices_EqualFunc_Ty [AVal.v (CVal.sl a2), AVal.v (CVal.sl b2), AVal.v (CVal.func f_i_SameTy [])] []).bind
 fun r => (bif true then r.1 else CVal.bool false).asBool.bind fun b => some (b, ()))
 (some (false, ())))
 (some (false, ()))).bind
 fun y => some (CVal.bool y.1, [])
theorem go_i_SameTy (a0 : Int) (a1 : Int) (a2 : List CVal) (b0 : Int) (b1 : Int) (b2 : List CVal) (R : Ret) (h : nf_i_SameTy CC LL a0 a1 a2 b0 b1 b2 = some R) : CC f_i_SameTy [AVal.v (CVal.agg [CVal.int i64 a0, CVal.int i64 a1, CVal.sl a2]),
 AVal.v (CVal.agg [CVal.int i64 b0, CVal.int i64 b1, CVal.sl b2])] [] = some R := fnW (by decide) rfl (Eq.trans (b := nf_i_SameTy CC LL a0 a1 a2 b0 b1 b2) (by kernel_rfl) h)
noncomputable def nf_s_l1Look (C : CallT) (L : LoopT) (a0 : Int) (a1 : Int) (a2 : List CVal) (b : Int) (c : Int) : Option Ret :=
 (br (decide (b = 0)) (some (true, ()))
 (br (decide (60 < i64.wrap (c + 1))) (some (true, ()))
 ((C f_s_l1Args [AVal.v (CVal.int i64 a0)] []).bind fun r =>
 (CVal.asInt i64 r.1).bind fun n =>
 br (!decide ((↑a2.length : Int) = n)) (some (true, ()))
 (br (decide (a0 = 3))
 ((C f_s_l1In
 [AVal.v (CVal.int i64 a1), AVal.v (CVal.int i64 0),
 AVal.v (CVal.int i64 1)]
 []).bind
 fun r =>
 r.1.asBool.bind fun b =>
 br (!b) (some (true, ()))
 (br (!decide (a0 = 3)) (some (!decide (a1 = 0), ()))
 (some (false, ()))))
 (br (!decide (a0 = 3)) (some (!decide (a1 = 0), ()))
 (some (false, ()))))))).bind
 fun y =>
 br y.1 (some (CVal.bool false, [[CVal.int i64 (i64.wrap (c + 1))]]))
 ((L f_s_l1Look 0 lc_s_l1Look_0 [PSh.box [none]] k_s_l1Look_0
 ((b, (), (), 0, ()), (i64.wrap (c + 1), ()),
 (a0, a1, a2, ()), ())).bind
 fun r =>
 loK r (fun r => some r) fun j p =>
 br (j == 0) (some (CVal.bool true, [[CVal.int i64 p.snd.fst.1]])) none)
theorem go_s_l1Look (a0 : Int) (a1 : Int) (a2 : List CVal) (b : Int) (c : Int) (R : Ret) (h : nf_s_l1Look CC LL a0 a1 a2 b c = some R) : CC f_s_l1Look [AVal.v (CVal.agg [CVal.int i64 a0, CVal.int i64 a1, CVal.sl a2]), AVal.v (CVal.int i64 b),
 AVal.lptr 0 0] [PB.box [AVal.v (CVal.int i64 c)]] = some R := fnW (by decide) rfl (Eq.trans (b := nf_s_l1Look CC LL a0 a1 a2 b c) (by kernel_rfl) h)
noncomputable def nf_i_measure (C : CallT) (L : LoopT) (a0 : Int) (a1 : Int) (a2 : List CVal) : Option Ret :=
 ((C f_i_tyParts [AVal.v (CVal.int i64 a0)] []).bind fun r =>
 (CVal.asInt i64 r.1).bind fun n =>
 br (!decide ((↑a2.length : Int) = n)) (some (true, ()))
 (br (!decide (a1 = 0))
 (br (!decide (a0 = 3)) (some (true, ())) (some (!decide (a1 = 1), ())))
 (some (false, ())))).bind
 fun y =>
 br y.1 (some (CVal.tup [CVal.int i64 0, CVal.int i64 0, CVal.bool false], []))
 ((L f_i_measure 0 lc_i_measure_0 [] k_i_measure_0
 ((0, 1, a2, (↑a2.length : Int), 0, ()), ())).bind
 fun r =>
 loK r (fun r => some r) fun j p =>
 br (j == 0)
 (some
 (CVal.tup
 [CVal.int i64 (i64.wrap (p.fst.1 + 1)), CVal.int i64 p.fst.snd.1,
 CVal.bool true],
 []))
 none)
theorem go_i_measure (a0 : Int) (a1 : Int) (a2 : List CVal) (R : Ret) (h : nf_i_measure CC LL a0 a1 a2 = some R) : CC f_i_measure [AVal.v (CVal.agg [CVal.int i64 a0, CVal.int i64 a1, CVal.sl a2])] [] = some R := fnW (by decide) rfl (Eq.trans (b := nf_i_measure CC LL a0 a1 a2) (by kernel_rfl) h)
noncomputable def nf_i_tyParts (C : CallT) (L : LoopT) (a : Int) : Option Ret :=
 br (decide (a = 1)) (some (CVal.int i64 0, []))
 (br (decide (a = 2)) (some (CVal.int i64 0, []))
 (br (decide (a = 3)) (some (CVal.int i64 0, []))
 (br (decide (a = 6)) (some (CVal.int i64 1, []))
 (br (decide (a = 4)) (some (CVal.int i64 2, []))
 (br (decide (a = 5)) (some (CVal.int i64 2, []))
 (some (CVal.int i64 (-1 : Int), [])))))))
theorem go_i_tyParts (a : Int) (R : Ret) (h : nf_i_tyParts CC LL a = some R) : CC f_i_tyParts [AVal.v (CVal.int i64 a)] [] = some R := fnW (by decide) rfl (Eq.trans (b := nf_i_tyParts CC LL a) (by kernel_rfl) h)
noncomputable def nl_l_toTermS_0 (C : CallT) (L : LoopT) (x00 : List CVal) (x02 : Int) (x1 : List CVal) : Option (LO k_l_toTermS_0.T) :=
 br (decide (x02 < (↑x00.length : Int)))
 (br (decide (0 ≤ x02) && true)
 (x00[x02.toNat]?.bind fun y =>
 br (CVal.fits true 9 y)
 ((y.sub 0 9).bind fun y =>
 (C f_l_toTerm [AVal.v y] []).bind fun r =>
 br (CVal.isAggN 9 r.1)
 ((r.1.cell 0).bind fun c =>
 (r.1.cell 1).bind fun c_1 =>
 (r.1.cell 2).bind fun c_2 =>
 (r.1.cell 3).bind fun c_3 =>
 (r.1.cell 4).bind fun c_4 =>
 (r.1.cell 5).bind fun c_5 =>
 (r.1.cell 6).bind fun c_6 =>
 (r.1.cell 7).bind fun c_7 =>
 (r.1.cell 8).bind fun c_8 =>
 c_6.asSl.bind fun xs =>
 c_7.asSl.bind fun xs_1 =>
 c_8.asSl.bind fun xs_2 =>
 br (decide (0 ≤ x02) && true)
 (br (decide (x02.toNat < x1.length) && true)
 ((CVal.asInt i64 c).bind fun n =>
 (CVal.asInt i64 c_1).bind fun n_1 =>
 c_2.asStr.bind fun s =>
 c_3.asStr.bind fun s_1 =>
 (CVal.asInt i64 c_4).bind fun n_2 =>
 (CVal.asInt i64 c_5).bind fun n_3 =>
 x1[x02.toNat]?.bind fun y =>
 br (CVal.fits true 9 y)
 (L f_l_toTermS 0 lc_l_toTermS_0 [] k_l_toTermS_0
 ((x00, (), i64.wrap (x02 + 1),
 ()),
 x1.set x02.toNat
 (CVal.agg
 [CVal.int i64 n, CVal.int i64 n_1,
 CVal.str s, CVal.str s_1, CVal.int i64 n_2,
 CVal.int i64 n_3, CVal.sl xs, CVal.sl xs_1,
 CVal.sl xs_2]),
 ()))
 (br (y.isAgg && decide (9 ≤ y.cells.length))
 (L f_l_toTermS 0 lc_l_toTermS_0 [] k_l_toTermS_0
 ((x00, (), i64.wrap (x02 + 1),
 ()),
 x1.set x02.toNat
 (CVal.agg
 (CVal.int i64 n ::
 CVal.int i64 n_1 ::
 CVal.str s ::
 CVal.str s_1 ::
 CVal.int i64 n_2 ::
 CVal.int i64 n_3 ::
 CVal.sl xs ::
 CVal.sl xs_1 ::
 CVal.sl xs_2 ::
 List.drop 9 y.cells)),
 ()))
 none))
 none)
 none)
 none)
 none)
 none)
 (some (LO.out 0 ((x00, (), x02, ()), x1, ())))
theorem gl_l_toTermS_0 (x00 : List CVal) (x02 : Int) (x1 : List CVal) (R : LO k_l_toTermS_0.T) (h : nl_l_toTermS_0 CC LL x00 x02 x1 = some R) : LL f_l_toTermS 0 lc_l_toTermS_0 [] k_l_toTermS_0 ((x00, (), x02, ()), x1, ()) = some R := loopW (Eq.trans (b := nl_l_toTermS_0 CC LL x00 x02 x1) (by kernel_rfl) h)
noncomputable def nl_l_eqTyS_0 (C : CallT) (L : LoopT) (x00 : List CVal) (x01 : List CVal) (x02 : Int) : Option (LO k_l_eqTyS_0.T) :=
 br (decide (x02 < (↑x00.length : Int)))
 (br (decide (0 ≤ x02) && true)
 (x00[x02.toNat]?.bind fun y =>
 br (CVal.fits true 3 y)
 ((y.sub 0 3).bind fun y =>
 br (decide (0 ≤ x02) && true)
 (x01[x02.toNat]?.bind fun y_1 =>
 br (CVal.fits true 3 y_1)
 ((y_1.sub 0 3).bind fun y_2 =>
 (C f_l_eqTy [AVal.v y, AVal.v y_2] []).bind fun r =>
 r.1.asBool.bind fun b =>
 br (!b) (some (LO.ret (CVal.bool false, [])))
 (L f_l_eqTyS 0 lc_l_eqTyS_0 [] k_l_eqTyS_0
 ((x00, x01, i64.wrap (x02 + 1), ()), ())))
 none)
 none)
 none)
 none)
 (some (LO.out 0 ((x00, x01, x02, ()), ())))
theorem gl_l_eqTyS_0 (x00 : List CVal) (x01 : List CVal) (x02 : Int) (R : LO k_l_eqTyS_0.T) (h : nl_l_eqTyS_0 CC LL x00 x01 x02 = some R) : LL f_l_eqTyS 0 lc_l_eqTyS_0 [] k_l_eqTyS_0 ((x00, x01, x02, ()), ()) = some R := loopW (Eq.trans (b := nl_l_eqTyS_0 CC LL x00 x01 x02) (by kernel_rfl) h)
noncomputable def nl_i_termSize_0 (C : CallT) (L : LoopT) (x00 : Int) (x01 : Int) (x02 : List CVal) (x03 : Int) (x04 : Int) : Option (LO k_i_termSize_0.T) :=
 br (decide (x04 < x03))
 (br (decide (0 ≤ x04) && true)
 (x02[x04.toNat]?.bind fun y =>
 br (CVal.fits true 9 y)
 ((y.sub 0 9).bind fun y =>
 br (CVal.isAggN 9 y)
 ((y.cell 0).bind fun c =>
 (y.cell 1).bind fun c_1 =>
 (y.cell 2).bind fun c_2 =>
 (y.cell 3).bind fun c_3 =>
 (y.cell 4).bind fun c_4 =>
 (y.cell 5).bind fun c_5 =>
 (y.cell 6).bind fun c_6 =>
 (y.cell 7).bind fun c_7 =>
 (y.cell 8).bind fun c_8 =>
 (C f_i_termSize [AVal.v (CVal.agg [c, c_1, c_2, c_3, c_4, c_5, c_6, c_7, c_8])] []).bind
 fun r =>
 r.1.asTup.bind fun y =>
 y[0]?.bind fun y =>
 r.1.asTup.bind fun y_1 =>
 y_1[1]?.bind fun y_2 =>
 r.1.asTup.bind fun y_3 =>
 y_3[2]?.bind fun y_4 =>
 y_4.asBool.bind fun b =>
 br (!b)
 (some
 (LO.ret
 (CVal.tup
 [CVal.int i64 0, CVal.int i64 0,
 CVal.bool false],
 [])))
 ((CVal.asInt i64 y).bind fun n =>
 (CVal.asInt i64 y_2).bind fun n_1 =>
 L f_i_termSize 0 lc_i_termSize_0 [] k_i_termSize_0
 ((bif decide (x00 < n) then n else x00,
 i64.wrap (x01 + n_1), x02, x03,
 i64.wrap (x04 + 1), ()),
 ())))
 none)
 none)
 none)
 (some (LO.out 0 ((x00, x01, x02, x03, x04, ()), ())))
theorem gl_i_termSize_0 (x00 : Int) (x01 : Int) (x02 : List CVal) (x03 : Int) (x04 : Int) (R : LO k_i_termSize_0.T) (h : nl_i_termSize_0 CC LL x00 x01 x02 x03 x04 = some R) : LL f_i_termSize 0 lc_i_termSize_0 [] k_i_termSize_0 ((x00, x01, x02, x03, x04, ()), ()) = some R := loopW (Eq.trans (b := nl_i_termSize_0 CC LL x00 x01 x02 x03 x04) (by kernel_rfl) h)
noncomputable def nl_s_l2Name_0 (C : CallT) (L : LoopT) (x00 : List UInt8) (x01 : Bool) (x02 : Int) : Option (LO k_s_l2Name_0.T) :=
 br (decide (x02 < (↑x00.length : Int)))
 (br (decide (0 ≤ x02))
 (x00[x02.toNat]?.bind fun y =>
 ((C f_s_l1In
 [AVal.v (CVal.int i64 (i64.wrap (↑y.toNat : Int))),
 AVal.v (CVal.int i64 97), AVal.v (CVal.int i64 122)]
 []).bind
 fun r =>
 r.1.asBool.bind fun b =>
 br (!b)
 ((C f_s_l1In
 [AVal.v (CVal.int i64 (i64.wrap (↑y.toNat : Int))),
 AVal.v (CVal.int i64 48), AVal.v (CVal.int i64 57)]
 []).bind
 fun r =>
 r.1.asBool.bind fun b =>
 br (!b)
 (br x01 (some (true, ()))
 (some (!decide (i64.wrap (↑y.toNat : Int) = 46), ())))
 (some (false, ())))
 (some (false, ()))).bind
 fun y =>
 br y.1 (some (LO.ret (CVal.bool false, [])))
 (L f_s_l2Name 0 lc_s_l2Name_0 [] k_s_l2Name_0
 ((x00, x01, i64.wrap (x02 + 1), ()), ())))
 none)
 (some (LO.out 0 ((x00, x01, x02, ()), ())))
theorem gl_s_l2Name_0 (x00 : List UInt8) (x01 : Bool) (x02 : Int) (R : LO k_s_l2Name_0.T) (h : nl_s_l2Name_0 CC LL x00 x01 x02 = some R) : LL f_s_l2Name 0 lc_s_l2Name_0 [] k_s_l2Name_0 ((x00, x01, x02, ()), ()) = some R := loopW (Eq.trans (b := nl_s_l2Name_0 CC LL x00 x01 x02) (by kernel_rfl) h)
noncomputable def nl_i_measure_0 (C : CallT) (L : LoopT) (x00 : Int) (x01 : Int) (x02 : List CVal) (x03 : Int) (x04 : Int) : Option (LO k_i_measure_0.T) :=
 br (decide (x04 < x03))
 (br (decide (0 ≤ x04) && true)
 (x02[x04.toNat]?.bind fun y =>
 br (CVal.fits true 3 y)
 ((y.sub 0 3).bind fun y =>
 br (CVal.isAggN 3 y)
 ((y.cell 0).bind fun c =>
 (y.cell 1).bind fun c_1 =>
 (y.cell 2).bind fun c_2 =>
 (C f_i_measure [AVal.v (CVal.agg [c, c_1, c_2])] []).bind fun r =>
 r.1.asTup.bind fun y =>
 y[0]?.bind fun y =>
 r.1.asTup.bind fun y_1 =>
 y_1[1]?.bind fun y_2 =>
 r.1.asTup.bind fun y_3 =>
 y_3[2]?.bind fun y_4 =>
 y_4.asBool.bind fun b =>
 br (!b)
 (some
 (LO.ret
 (CVal.tup
 [CVal.int i64 0, CVal.int i64 0,
 CVal.bool false],
 [])))
 ((CVal.asInt i64 y).bind fun n =>
 (CVal.asInt i64 y_2).bind fun n_1 =>
 L f_i_measure 0 lc_i_measure_0 [] k_i_measure_0
 ((bif decide (x00 < n) then n else x00, i64.wrap (x01 + n_1), x02,
 x03, i64.wrap (x04 + 1), ()),
 ())))
 none)
 none)
 none)
 (some (LO.out 0 ((x00, x01, x02, x03, x04, ()), ())))
theorem gl_i_measure_0 (x00 : Int) (x01 : Int) (x02 : List CVal) (x03 : Int) (x04 : Int) (R : LO k_i_measure_0.T) (h : nl_i_measure_0 CC LL x00 x01 x02 x03 x04 = some R) : LL f_i_measure 0 lc_i_measure_0 [] k_i_measure_0 ((x00, x01, x02, x03, x04, ()), ()) = some R := loopW (Eq.trans (b := nl_i_measure_0 CC LL x00 x01 x02 x03 x04) (by kernel_rfl) h)
end Go.Proofs.YtegbnddjgifcdaaDoor.Abs
