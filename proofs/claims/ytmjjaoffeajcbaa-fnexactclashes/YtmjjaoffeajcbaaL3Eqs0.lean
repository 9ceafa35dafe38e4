/- What the functions come to in the abstract machine. -/
import Derived.Test.YtmjjaoffeajcbaaL3Ann
import Derived.KernelRfl
set_option linter.unusedVariables false
set_option maxRecDepth 100000
namespace Go.Proofs.Ytmjjaoffeajcbaa.Abs
open Go Go.Proofs Go.IntKind
noncomputable def nf_l_FnExactClashes (C : CallT) (L : LoopT) (a0 : Int) (a1 : Int) (a2 : Int) (a3 : List CVal) : Option Ret :=
 (C f_l_szPiece
 [AVal.v (CVal.agg [CVal.int i64 a0, CVal.int i64 a1, CVal.int i64 a2, CVal.sl a3]),
 AVal.v (CVal.int i64 1048576)]
 []).bind
 fun r =>
 (CVal.asInt i64 r.1).bind fun n =>
 br (decide (n < 0)) (some (CVal.bool true, []))
 ((C f_l_toPiece
 [AVal.v (CVal.agg [CVal.int i64 a0, CVal.int i64 a1, CVal.int i64 a2, CVal.sl a3])]
 []).bind
 fun r =>
 (C f_s_Clashes [AVal.v r.1] []).bind fun r =>
 (C f_l_toPiece
 [AVal.v
 (CVal.agg [CVal.int i64 a0, CVal.int i64 a1, CVal.int i64 a2, CVal.sl a3])]
 []).bind
 fun r_1 =>
 br (CVal.isAggN 4 r_1.1)
 ((r_1.1.cell 0).bind fun c =>
 (r_1.1.cell 1).bind fun c_1 =>
 (r_1.1.cell 2).bind fun c_2 =>
 (r_1.1.cell 3).bind fun c_3 =>
 c_3.asSl.bind fun xs =>
 (C f_i_Clashes [AVal.v (CVal.agg [c, c_1, c_2, CVal.sl xs])] []).bind fun r_2 =>
 br (!r_2.1.plain) none
 (br r_2.1.isFlat
 (r_2.1.asSl.bind fun xs_1 =>
 (C f_l_eqIntA2S [AVal.v (CVal.sl xs_1), AVal.v r.1] []).bind fun r_3 =>
 br (!scalar r_3.1) none
 (r_3.1.asBool.bind fun b =>
 br (!b) (some (CVal.bool false, []))
 ((C f_l_toPiece
 [AVal.v
 (CVal.agg
 [CVal.int i64 a0, CVal.int i64 a1,
 CVal.int i64 a2, CVal.sl a3])]
 []).bind
 fun r_4 =>
 (C f_l_eqPiece [AVal.v (CVal.agg [c, c_1, c_2, CVal.sl xs]), AVal.v r_4.1]
 []).bind
 fun r_5 =>
 br (!scalar r_5.1) none
 (r_5.1.asBool.bind fun b =>
 br (!b) (some (CVal.bool false, []))
 ((C f_l_markPiece
 [AVal.agg
 [AVal.v c, AVal.v c_1, AVal.v c_2,
 AVal.lref 0 0],
 AVal.v (CVal.int i64 1)]
 [PB.arr (Md.mk true true 0) false 7 xs]).bind
 fun r_6 =>
 r_6.2[0]?.bind fun y =>
 ((CVal.asInt i64 r_6.1).bind fun n =>
 br (decide (n < 0)) (some (true, ()))
 ((C f_l_eqIntA2S [AVal.v (CVal.sl xs_1), AVal.v r.1]
 []).bind
 fun r =>
 br (!scalar r.1) none
 (r.1.asBool.bind fun b =>
 some (!b, ())))).bind
 fun y =>
 br y.1 (some (CVal.bool false, []))
 ((C f_l_markIntA2S
 [AVal.lref 0 0,
 AVal.v (CVal.int i64 1)]
 [PB.arr (Md.mk true true 0) false 2
 xs_1]).bind
 fun r_7 =>
 r_7.2[0]?.bind fun y =>
 (C f_l_heldIntA2S
 [AVal.v (CVal.sl y),
 AVal.v (CVal.int i64 1)]
 []).bind
 fun r_8 =>
 br (!scalar r_8.1) none
 ((CVal.asInt i64 r_8.1).bind fun n =>
 br (decide (n < 0))
 (some (CVal.bool false, []))
 ((CVal.asInt i64 r_8.1).bind fun n =>
 (CVal.asInt i64 r_7.1).bind fun n_1 =>
 br (!decide (n = n_1))
 (some (CVal.bool false, []))
 ((C f_l_toPiece
 [AVal.v
 (CVal.agg
 [CVal.int i64 a0,
 CVal.int i64 a1,
 CVal.int i64 a2,
 CVal.sl a3])]
 []).bind
 fun r_9 =>
 (C f_i_Clashes [AVal.v r_9.1] []).bind
 fun r_10 =>
 br r_10.1.isFlat
 (r_10.1.asSl.bind fun xs =>
 (C f_l_eqIntA2S
 [AVal.v (CVal.sl xs),
 AVal.v r.1]
 []).bind
 fun r =>
 br (!scalar r.1) none
 (r.1.asBool.bind fun b =>
 br (!b)
 (some (CVal.bool false, []))
 ((C f_l_heldIntA2S
 [AVal.v (CVal.sl y),
 AVal.v
 (CVal.int
 i64
 1)]
 []).bind
 fun r =>
 br (!scalar r.1) none
 ((CVal.asInt i64
 r.1).bind
 fun n =>
 br
 (decide
 (n < 0))
 (some
 (CVal.bool false,
 []))
 ((CVal.asInt
 i64
 r.1).bind
 fun n =>
 (CVal.asInt
 i64
 r_7.1).bind
 fun n_2 =>
 br
 (!decide
 (n = n_2))
 (some
 (CVal.bool
 false,
 []))
 (some
 (CVal.bool
 true,
 [])))))))
 none)))))))))
 none))
 none)
theorem go_l_FnExactClashes (a0 : Int) (a1 : Int) (a2 : Int) (a3 : List CVal) (R : Ret) (h : nf_l_FnExactClashes CC LL a0 a1 a2 a3 = some R) : CC f_l_FnExactClashes [AVal.v (CVal.agg [CVal.int i64 a0, CVal.int i64 a1, CVal.int i64 a2, CVal.sl a3])] [] = some R := fnW (by decide) rfl (Eq.trans (b := nf_l_FnExactClashes CC LL a0 a1 a2 a3) (by kernel_rfl) h)
noncomputable def nf_l_eqIntA2S (C : CallT) (L : LoopT) (a : List CVal) (b : List CVal) : Option Ret :=
 br (!decide ((↑a.length : Int) = (↑b.length : Int))) (some (CVal.bool false, []))
 ((L f_l_eqIntA2S 0 lc_l_eqIntA2S_0 [] k_l_eqIntA2S_0 ((a, b, 0, ()), ())).bind
 fun r => loK r (fun r => some r) fun j p => br (j == 0) (some (CVal.bool true, [])) none)
theorem go_l_eqIntA2S (a : List CVal) (b : List CVal) (R : Ret) (h : nf_l_eqIntA2S CC LL a b = some R) : CC f_l_eqIntA2S [AVal.v (CVal.sl a), AVal.v (CVal.sl b)] [] = some R := fnW (by decide) rfl (Eq.trans (b := nf_l_eqIntA2S CC LL a b) (by kernel_rfl) h)
noncomputable def nf_l_szInsS (C : CallT) (L : LoopT) (a : List CVal) (b : Int) : Option Ret :=
 br (decide (i64.wrap (b - (↑a.length : Int)) < 0)) (some (CVal.int i64 (-1 : Int), []))
 ((L f_l_szInsS 0 lc_l_szInsS_0 [] k_l_szInsS_0
 ((a, i64.wrap (b - (↑a.length : Int)), 0, ()), ())).bind
 fun r => loK r (fun r => some r) fun j p => br (j == 0) (some (CVal.int i64 p.fst.snd.1, [])) none)
theorem go_l_szInsS (a : List CVal) (b : Int) (R : Ret) (h : nf_l_szInsS CC LL a b = some R) : CC f_l_szInsS [AVal.v (CVal.sl a), AVal.v (CVal.int i64 b)] [] = some R := fnW (by decide) rfl (Eq.trans (b := nf_l_szInsS CC LL a b) (by kernel_rfl) h)
noncomputable def nf_i_clashes (C : CallT) (L : LoopT) (a0 : Int) (a1 : Int) (a2 : Int) (a3 : List CVal) : Option Ret :=
 (L f_i_clashes 0 lc_i_clashes_0 [] k_i_clashes_0
 (((CVal.agg [CVal.int i64 a0, CVal.int i64 a1, CVal.int i64 a2, CVal.sl a3]).fp 0,
 (), a2, 0, ()),
 ((), ()), [], ())).bind
 fun r =>
 loK r (fun r => some r) fun j p =>
 br (j == 0)
 ((CVal.asFp p.fst.1).bind fun y =>
 (y.1.sub y.2 4).bind fun y =>
 (C f_i_liveSets [AVal.v y] []).bind fun r =>
 (CVal.asFp p.fst.1).bind fun y =>
 (y.1.cell (y.2 + 3)).bind fun c =>
 c.asSl.bind fun xs =>
 r.1.asSl.bind fun xs_1 =>
 c.asSl.bind fun xs_2 =>
 (L f_i_clashes 2 lc_i_clashes_2 [] k_i_clashes_2
 ((p.fst.1, (), (), xs_1, xs_2, (↑xs.length : Int), 0, ()),
 ((), ()), p.snd.snd.1, ())).bind
 fun r =>
 loK r (fun r => some r) fun j p =>
 br (j == 2)
 ((CVal.asFp p.fst.1).bind fun y =>
 (y.1.cell (y.2 + 1)).bind fun c =>
 (CVal.asInt i64 c).bind fun n =>
 (L f_i_clashes 12 lc_i_clashes_12 [] k_i_clashes_12
 ((p.fst.1, (), (), n, 0, ()),
 ((), ()), p.snd.snd.1, ())).bind
 fun r =>
 loK r (fun r => some r) fun j p =>
 br (j == 12) (some (CVal.sl p.snd.snd.1, [])) none)
 none)
 none
theorem go_i_clashes (a0 : Int) (a1 : Int) (a2 : Int) (a3 : List CVal) (R : Ret) (h : nf_i_clashes CC LL a0 a1 a2 a3 = some R) : CC f_i_clashes [AVal.v (CVal.agg [CVal.int i64 a0, CVal.int i64 a1, CVal.int i64 a2, CVal.sl a3])] [] = some R := fnW (by decide) rfl (Eq.trans (b := nf_i_clashes CC LL a0 a1 a2 a3) (by kernel_rfl) h)
noncomputable def nf_l_toIns (C : CallT) (L : LoopT) (a0 : Int) (a1 : Int) (a2 : Int) (a3 : Int) (a4 : Int) (a5 : List CVal) (a6 : Int) : Option Ret :=
 (C f_l_toIntS [AVal.v (CVal.sl a5)] []).bind fun r =>
 br r.1.isFlat
 (r.1.asSl.bind fun xs =>
 some
 (CVal.agg
 [CVal.int i64 a0, CVal.int i64 a1, CVal.int i64 a2, CVal.int i64 a3,
 CVal.int i64 a4, CVal.sl xs, CVal.int i64 a6],
 []))
 none
theorem go_l_toIns (a0 : Int) (a1 : Int) (a2 : Int) (a3 : Int) (a4 : Int) (a5 : List CVal) (a6 : Int) (R : Ret) (h : nf_l_toIns CC LL a0 a1 a2 a3 a4 a5 a6 = some R) : CC f_l_toIns [AVal.v
 (CVal.agg
 [CVal.int i64 a0, CVal.int i64 a1, CVal.int i64 a2, CVal.int i64 a3,
 CVal.int i64 a4, CVal.sl a5, CVal.int i64 a6])] [] = some R := fnW (by decide) rfl (Eq.trans (b := nf_l_toIns CC LL a0 a1 a2 a3 a4 a5 a6) (by kernel_rfl) h)
noncomputable def nf_s_l11All (C : CallT) (L : LoopT) (a : List CVal) (b : List CVal) : Option Ret :=
 (L f_s_l11All 0 lc_s_l11All_0 [PSh.arr (Md.mk true true 0) false 1] k_s_l11All_0
 (((), b, 0, ()), a, ())).bind
 fun r => loK r (fun r => some r) fun j p => br (j == 0) (some (CVal.tup [], [p.snd.1])) none
theorem go_s_l11All (a : List CVal) (b : List CVal) (R : Ret) (h : nf_s_l11All CC LL a b = some R) : CC f_s_l11All [AVal.lref 0 0, AVal.v (CVal.sl b)] [PB.arr (Md.mk true true 0) false 1 a] = some R := fnW (by decide) rfl (Eq.trans (b := nf_s_l11All CC LL a b) (by kernel_rfl) h)
noncomputable def nf_slices_ContainsFunc_Ins (C : CallT) (L : LoopT) (a : List CVal) (b : CVal) : Option Ret :=
 (C f_slices_IndexFunc_Ins [AVal.v (CVal.sl a), AVal.v b] []).bind fun r =>
 (CVal.asInt i64 r.1).bind fun n => some (CVal.bool (decide (0 ≤ n)), [])
theorem go_slices_ContainsFunc_Ins (a : List CVal) (b : CVal) (R : Ret) (h : nf_slices_ContainsFunc_Ins CC LL a b = some R) : CC f_slices_ContainsFunc_Ins [AVal.v (CVal.sl a), AVal.v b] [] = some R := fnW (by decide) rfl (Eq.trans (b := nf_slices_ContainsFunc_Ins CC LL a b) (by kernel_rfl) h)
noncomputable def nf_i_behind (C : CallT) (L : LoopT) (a0 : Int) (a1 : Int) (a2 : Int) (a3 : List CVal) (b : Int) (c : List CVal) : Option Ret :=
 br (decide (0 ≤ a2) && decide (a2 = a2) && decide (a2 ≤ 1048576))
 ((C f_i_ways
 [AVal.v (CVal.agg [CVal.int i64 a0, CVal.int i64 a1, CVal.int i64 a2, CVal.sl a3]),
 AVal.v (CVal.int i64 b)]
 []).bind
 fun r =>
 r.1.asSl.bind fun xs =>
 r.1.asSl.bind fun xs_1 =>
 (L f_i_behind 0 lc_i_behind_0 [] k_i_behind_0
 ((c, (), xs_1, (↑xs.length : Int), 0, ()),
 List.replicate a2.toNat (CVal.bool false), ())).bind
 fun r =>
 loK r (fun r => some r) fun j p =>
 br (j == 0)
 ((C f_i_things [AVal.v (CVal.sl p.snd.1)] []).bind fun r =>
 br (!r.1.plain) none (br r.1.isFlat (r.1.asSl.bind fun xs => some (CVal.sl xs, [])) none))
 none)
 none
theorem go_i_behind (a0 : Int) (a1 : Int) (a2 : Int) (a3 : List CVal) (b : Int) (c : List CVal) (R : Ret) (h : nf_i_behind CC LL a0 a1 a2 a3 b c = some R) : CC f_i_behind [AVal.v (CVal.agg [CVal.int i64 a0, CVal.int i64 a1, CVal.int i64 a2, CVal.sl a3]),
 AVal.v (CVal.int i64 b), AVal.v (CVal.sl c)] [] = some R := fnW (by decide) rfl (Eq.trans (b := nf_i_behind CC LL a0 a1 a2 a3 b c) (by kernel_rfl) h)
noncomputable def nf_l_toIntS (C : CallT) (L : LoopT) (a : List CVal) : Option Ret :=
 br (decide ((↑a.length : Int) = (↑a.length : Int)) && decide ((↑a.length : Int) ≤ 1048576))
 ((L f_l_toIntS 0 lc_l_toIntS_0 [] k_l_toIntS_0
 ((a, (), 0, ()),
 List.replicate (↑a.length : Int).toNat (CVal.int i64 0), ())).bind
 fun r => loK r (fun r => some r) fun j p => br (j == 0) (some (CVal.sl p.snd.1, [])) none)
 none
theorem go_l_toIntS (a : List CVal) (R : Ret) (h : nf_l_toIntS CC LL a = some R) : CC f_l_toIntS [AVal.v (CVal.sl a)] [] = some R := fnW (by decide) rfl (Eq.trans (b := nf_l_toIntS CC LL a) (by kernel_rfl) h)
noncomputable def nf_slices_IndexFunc_Ins (C : CallT) (L : LoopT) (a : List CVal) (b : CVal) : Option Ret :=
 (L f_slices_IndexFunc_Ins 0 lc_slices_IndexFunc_Ins_0 [] k_slices_IndexFunc_Ins_0
 ((a, b, (↑a.length : Int), 0, ()), ())).bind
 fun r => loK r (fun r => some r) fun j p => br (j == 0) (some (CVal.int i64 (-1 : Int), [])) none
theorem go_slices_IndexFunc_Ins (a : List CVal) (b : CVal) (R : Ret) (h : nf_slices_IndexFunc_Ins CC LL a b = some R) : CC f_slices_IndexFunc_Ins [AVal.v (CVal.sl a), AVal.v b] [] = some R := fnW (by decide) rfl (Eq.trans (b := nf_slices_IndexFunc_Ins CC LL a b) (by kernel_rfl) h)
noncomputable def nf_i_ways (C : CallT) (L : LoopT) (a0 : Int) (a1 : Int) (a2 : Int) (a3 : List CVal) (b : Int) : Option Ret :=
 br (decide (0 ≤ b) && true)
 (a3[b.toNat]?.bind fun y =>
 br (CVal.fits true 7 y)
 ((y.sub 0 7).bind fun y =>
 br (CVal.isAggN 7 y)
 ((y.cell 0).bind fun c =>
 (y.cell 1).bind fun c_1 =>
 (y.cell 2).bind fun c_2 =>
 (y.cell 3).bind fun c_3 =>
 (y.cell 4).bind fun c_4 =>
 (y.cell 5).bind fun c_5 =>
 (y.cell 6).bind fun c_6 =>
 ((CVal.asInt i64 c).bind fun n =>
 br (decide (n = 13)) (some (true, ()))
 ((CVal.asInt i64 c).bind fun n =>
 br (decide (n = 11)) (some (true, ()))
 ((CVal.asInt i64 c).bind fun n =>
 some (decide (n = 12), ())))).bind
 fun y =>
 br y.1
 (br (c_6.isFlat && true)
 ((CVal.asInt i64 c_6).bind fun n =>
 ((CVal.asInt i64 c).bind fun n =>
 br (!decide (n = 13))
 ((CVal.asInt i64 c).bind fun n =>
 br (!decide (n = 15))
 ((CVal.asInt i64 c).bind fun n =>
 some (!decide (n = 16), ()))
 (some (false, ())))
 (some (false, ()))).bind
 fun y =>
 br y.1
 (some
 (CVal.sl
 [CVal.int i64 n,
 CVal.int i64 (i64.wrap (b + 1))],
 []))
 (some (CVal.sl [CVal.int i64 n], [])))
 none)
 (((CVal.asInt i64 c).bind fun n =>
 br (!decide (n = 13))
 ((CVal.asInt i64 c).bind fun n =>
 br (!decide (n = 15))
 ((CVal.asInt i64 c).bind fun n =>
 some (!decide (n = 16), ()))
 (some (false, ())))
 (some (false, ()))).bind
 fun y =>
 br y.1 (some (CVal.sl [CVal.int i64 (i64.wrap (b + 1))], []))
 (some (CVal.sl [], []))))
 none)
 none)
 none
theorem go_i_ways (a0 : Int) (a1 : Int) (a2 : Int) (a3 : List CVal) (b : Int) (R : Ret) (h : nf_i_ways CC LL a0 a1 a2 a3 b = some R) : CC f_i_ways [AVal.v (CVal.agg [CVal.int i64 a0, CVal.int i64 a1, CVal.int i64 a2, CVal.sl a3]),
 AVal.v (CVal.int i64 b)] [] = some R := fnW (by decide) rfl (Eq.trans (b := nf_i_ways CC LL a0 a1 a2 a3 b) (by kernel_rfl) h)
noncomputable def nf_s_l10Guard (C : CallT) (L : LoopT) (a0 : Int) (a1 : Int) (a2 : Int) (a3 : List CVal) (b : Int) : Option Ret :=
 (L f_s_l10Guard 0 lc_s_l10Guard_0 [] k_s_l10Guard_0
 ((b, (), (), 0, ()), (a0, a1, a2, a3, ()), [], ())).bind
 fun r =>
 loK r (fun r => some r) fun j p =>
 br (j == 0)
 ((br (decide ((↑(List.length p.snd.snd.1) : Int) = 0)) (some (true, ()))
 ((C f_s_l1In
 [AVal.v (CVal.int i64 p.fst.1), AVal.v (CVal.int i64 0),
 AVal.v
 (CVal.int i64
 (i64.wrap ((↑(List.length p.snd.fst.snd.snd.snd.1) : Int) - 1)))]
 []).bind
 fun r => r.1.asBool.bind fun b => some (!b, ()))).bind
 fun y =>
 br y.1 (some (CVal.int i64 (-1 : Int), []))
 (br (decide (0 ≤ i64.wrap ((↑(List.length p.snd.snd.1) : Int) - 1)) && true)
 (br
 (decide
 ((i64.wrap ((↑(List.length p.snd.snd.1) : Int) - 1)).toNat <
 List.length p.snd.snd.1) &&
 true)
 (p.snd.snd.1[(i64.wrap ((↑(List.length p.snd.snd.1) : Int) - 1)).toNat]?.bind fun y =>
 (y.cell 0).bind fun c =>
 (CVal.asInt i64 c).bind fun n => some (CVal.int i64 n, []))
 none)
 none))
 none
theorem go_s_l10Guard (a0 : Int) (a1 : Int) (a2 : Int) (a3 : List CVal) (b : Int) (R : Ret) (h : nf_s_l10Guard CC LL a0 a1 a2 a3 b = some R) : CC f_s_l10Guard [AVal.v (CVal.agg [CVal.int i64 a0, CVal.int i64 a1, CVal.int i64 a2, CVal.sl a3]),
 AVal.v (CVal.int i64 b)] [] = some R := fnW (by decide) rfl (Eq.trans (b := nf_s_l10Guard CC LL a0 a1 a2 a3 b) (by kernel_rfl) h)
noncomputable def nf_slices_ContainsFunc_int (C : CallT) (L : LoopT) (a : List CVal) (b : CVal) : Option Ret :=
 (C f_slices_IndexFunc_int [AVal.v (CVal.sl a), AVal.v b] []).bind fun r =>
 (CVal.asInt i64 r.1).bind fun n => some (CVal.bool (decide (0 ≤ n)), [])
theorem go_slices_ContainsFunc_int (a : List CVal) (b : CVal) (R : Ret) (h : nf_slices_ContainsFunc_int CC LL a b = some R) : CC f_slices_ContainsFunc_int [AVal.v (CVal.sl a), AVal.v b] [] = some R := fnW (by decide) rfl (Eq.trans (b := nf_slices_ContainsFunc_int CC LL a b) (by kernel_rfl) h)
noncomputable def nf_i_wanted_1 (C : CallT) (L : LoopT) (a : Int) (b : Int) (c : List CVal) (d : List CVal) : Option Ret :=
 br (decide (0 ≤ a) && true)
 (c[a.toNat]?.bind fun y =>
 br (CVal.fits false 1 y)
 ((y.cell 0).bind fun c =>
 c.asSl.bind fun xs =>
 c.asSl.bind fun xs_1 =>
 (L f_i_wanted_1 0 lc_i_wanted_1_0
 [PSh.box [some 1], PSh.arr (Md.mk true false 0) true 1] k_i_wanted_1_0
 ((b, (), xs_1, (↑xs.length : Int), 0, ()), ((), ()),
 (), d, ())).bind
 fun r =>
 loK r (fun r => some r) fun j p =>
 br (j == 0) (some (CVal.tup [], [[CVal.sl p.snd.snd.snd.1], []])) none)
 none)
 none
theorem go_i_wanted_1 (a : Int) (b : Int) (c : List CVal) (d : List CVal) (R : Ret) (h : nf_i_wanted_1 CC LL a b c d = some R) : CC f_i_wanted_1 [AVal.v (CVal.int i64 a), AVal.v (CVal.int i64 b), AVal.v ((CVal.sl c).fp 0),
 AVal.lptr 0 0] [PB.box [AVal.lref 1 0], PB.arr (Md.mk true false 0) true 1 d] = some R := fnW (by decide) rfl (Eq.trans (b := nf_i_wanted_1 CC LL a b c d) (by kernel_rfl) h)
noncomputable def nl_s_Clashes_2 (C : CallT) (L : LoopT) (x00 : CVal) (x02 : List CVal) (x03 : Int) (x04 : Int) (x1 : List CVal) : Option (LO k_s_Clashes_2.T) :=
 x00.asFp.bind fun y =>
 (y.1.cell (y.2 + 2)).bind fun c =>
 (CVal.asInt i64 c).bind fun n =>
 br (decide (x04 < n))
 (br (decide (0 ≤ x03) && true)
 (x02[x03.toNat]?.bind fun y =>
 br (CVal.fits false 1 y)
 ((y.cell 0).bind fun c =>
 br (decide (0 ≤ x04) && true)
 (c.asSl.bind fun xs =>
 xs[x04.toNat]?.bind fun y =>
 br (CVal.fits false 1 y)
 ((y.cell 0).bind fun c =>
 c.asBool.bind fun b =>
 br b
 (br (decide (x1.length + 1 ≤ 4294967296) && true && true)
 (L f_s_Clashes 2 lc_s_Clashes_2 [] k_s_Clashes_2
 ((x00, (), x02, x03, i64.wrap (x04 + 1), ()),
 x1 ++ [CVal.agg [CVal.int i64 x03, CVal.int i64 x04]], ()))
 none)
 (L f_s_Clashes 2 lc_s_Clashes_2 [] k_s_Clashes_2
 ((x00, (), x02, x03, i64.wrap (x04 + 1), ()), x1,
 ())))
 none)
 none)
 none)
 none)
 (some (LO.out 2 ((x00, (), x02, x03, x04, ()), x1, ())))
theorem gl_s_Clashes_2 (x00 : CVal) (x02 : List CVal) (x03 : Int) (x04 : Int) (x1 : List CVal) (R : LO k_s_Clashes_2.T) (h : nl_s_Clashes_2 CC LL x00 x02 x03 x04 x1 = some R) : LL f_s_Clashes 2 lc_s_Clashes_2 [] k_s_Clashes_2 ((x00, (), x02, x03, x04, ()), x1, ()) = some R := loopW (Eq.trans (b := nl_s_Clashes_2 CC LL x00 x02 x03 x04 x1) (by kernel_rfl) h)
noncomputable def nl_l_markIntA2S_2 (C : CallT) (L : LoopT) (x01 : Int) (x02 : Int) (x03 : Int) (x1 : List CVal) : Option (LO k_l_markIntA2S_2.T) :=
 br (decide (x03 < 2))
 (br (decide (0 ≤ x02) && true)
 (br (decide (x02.toNat < x1.length) && true)
 (br (decide (0 ≤ x03) && decide (x03 < 2) && true)
 (x1[x02.toNat]?.bind fun y =>
 br (decide (0 + x03.toNat * 1 = 0) && CVal.fits false 1 y)
 (L f_l_markIntA2S 2 lc_l_markIntA2S_2 [PSh.arr (Md.mk true true 0) false 2]
 k_l_markIntA2S_2
 (((), i64.wrap (x01 + 1), x02, i64.wrap (x03 + 1), ()),
 x1.set x02.toNat (CVal.int i64 x01), ()))
 (br (y.isAgg && decide (0 + x03.toNat * 1 + 1 ≤ y.cells.length))
 (L f_l_markIntA2S 2 lc_l_markIntA2S_2 [PSh.arr (Md.mk true true 0) false 2]
 k_l_markIntA2S_2
 (((), i64.wrap (x01 + 1), x02, i64.wrap (x03 + 1), ()),
 x1.set x02.toNat
 (CVal.agg (splice y.cells (0 + x03.toNat * 1) [CVal.int i64 x01])),
 ()))
 none))
 none)
 none)
 none)
 (some (LO.out 2 (((), x01, x02, x03, ()), x1, ())))
theorem gl_l_markIntA2S_2 (x01 : Int) (x02 : Int) (x03 : Int) (x1 : List CVal) (R : LO k_l_markIntA2S_2.T) (h : nl_l_markIntA2S_2 CC LL x01 x02 x03 x1 = some R) : LL f_l_markIntA2S 2 lc_l_markIntA2S_2 [PSh.arr (Md.mk true true 0) false 2] k_l_markIntA2S_2 (((), x01, x02, x03, ()), x1, ()) = some R := loopW (Eq.trans (b := nl_l_markIntA2S_2 CC LL x01 x02 x03 x1) (by kernel_rfl) h)
noncomputable def nl_l_toInsS_0 (C : CallT) (L : LoopT) (x00 : List CVal) (x02 : Int) (x1 : List CVal) : Option (LO k_l_toInsS_0.T) :=
 br (decide (x02 < (↑x00.length : Int)))
 (br (decide (0 ≤ x02) && true)
 (x00[x02.toNat]?.bind fun y =>
 br (CVal.fits true 7 y)
 ((y.sub 0 7).bind fun y =>
 (C f_l_toIns [AVal.v y] []).bind fun r =>
 br (CVal.isAggN 7 r.1)
 ((r.1.cell 0).bind fun c =>
 (r.1.cell 1).bind fun c_1 =>
 (r.1.cell 2).bind fun c_2 =>
 (r.1.cell 3).bind fun c_3 =>
 (r.1.cell 4).bind fun c_4 =>
 (r.1.cell 5).bind fun c_5 =>
 (r.1.cell 6).bind fun c_6 =>
 c_5.asSl.bind fun xs =>
 br (decide (0 ≤ x02) && true)
 (br (decide (x02.toNat < x1.length) && true)
 ((CVal.asInt i64 c).bind fun n =>
 (CVal.asInt i64 c_1).bind fun n_1 =>
 (CVal.asInt i64 c_2).bind fun n_2 =>
 (CVal.asInt i64 c_3).bind fun n_3 =>
 (CVal.asInt i64 c_4).bind fun n_4 =>
 (CVal.asInt i64 c_6).bind fun n_5 =>
 x1[x02.toNat]?.bind fun y =>
 br (CVal.fits true 7 y)
 (L f_l_toInsS 0 lc_l_toInsS_0 [] k_l_toInsS_0
 ((x00, (), i64.wrap (x02 + 1), ()),
 x1.set x02.toNat
 (CVal.agg
 [CVal.int i64 n, CVal.int i64 n_1,
 CVal.int i64 n_2, CVal.int i64 n_3,
 CVal.int i64 n_4, CVal.sl xs,
 CVal.int i64 n_5]),
 ()))
 (br (y.isAgg && decide (7 ≤ y.cells.length))
 (L f_l_toInsS 0 lc_l_toInsS_0 [] k_l_toInsS_0
 ((x00, (), i64.wrap (x02 + 1),
 ()),
 x1.set x02.toNat
 (CVal.agg
 (CVal.int i64 n ::
 CVal.int i64 n_1 ::
 CVal.int i64 n_2 ::
 CVal.int i64 n_3 ::
 CVal.int i64 n_4 ::
 CVal.sl xs ::
 CVal.int i64 n_5 ::
 List.drop 7 y.cells)),
 ()))
 none))
 none)
 none)
 none)
 none)
 none)
 (some (LO.out 0 ((x00, (), x02, ()), x1, ())))
theorem gl_l_toInsS_0 (x00 : List CVal) (x02 : Int) (x1 : List CVal) (R : LO k_l_toInsS_0.T) (h : nl_l_toInsS_0 CC LL x00 x02 x1 = some R) : LL f_l_toInsS 0 lc_l_toInsS_0 [] k_l_toInsS_0 ((x00, (), x02, ()), x1, ()) = some R := loopW (Eq.trans (b := nl_l_toInsS_0 CC LL x00 x02 x1) (by kernel_rfl) h)
noncomputable def nl_s_l11Table_4 (C : CallT) (L : LoopT) (x00 : CVal) (x01 : List CVal) (x03 : Int) (x04 : Int) (x1 : List CVal) : Option (LO k_s_l11Table_4.T) :=
 br (decide (x04 < x03))
 ((C f_s_l11Pair [AVal.lref 0 0, AVal.v (CVal.int i64 x03), AVal.v (CVal.int i64 x04)]
 [PB.arr (Md.mk true true 0) false 1 x1]).bind
 fun r =>
 r.2[0]?.bind fun y =>
 L f_s_l11Table 4 lc_s_l11Table_4 [] k_s_l11Table_4
 ((x00, x01, (), x03, i64.wrap (x04 + 1), ()), y, ()))
 (some (LO.out 4 ((x00, x01, (), x03, x04, ()), x1, ())))
theorem gl_s_l11Table_4 (x00 : CVal) (x01 : List CVal) (x03 : Int) (x04 : Int) (x1 : List CVal) (R : LO k_s_l11Table_4.T) (h : nl_s_l11Table_4 CC LL x00 x01 x03 x04 x1 = some R) : LL f_s_l11Table 4 lc_s_l11Table_4 [] k_s_l11Table_4 ((x00, x01, (), x03, x04, ()), x1, ()) = some R := loopW (Eq.trans (b := nl_s_l11Table_4 CC LL x00 x01 x03 x04 x1) (by kernel_rfl) h)
noncomputable def nl_i_clashes_10 (C : CallT) (L : LoopT) (x00 : CVal) (x03 : List CVal) (x05 : List CVal) (x06 : Int) (x07 : Int) (x08 : List CVal) (x09 : Int) (x010 : Int) (x2 : List CVal) (x30 : Int) (x31 : Int) (x32 : Int) (x33 : Int) (x34 : Int) (x35 : List CVal) (x36 : Int) : Option (LO k_i_clashes_10.T) :=
 br (decide (x010 < x09))
 (br (decide (0 ≤ x010) && true)
 (x08[x010.toNat]?.bind fun y =>
 br (CVal.fits false 1 y)
 ((y.cell 0).bind fun c =>
 (C f_i_clashes_1 [AVal.v (CVal.int i64 x31), AVal.v c, AVal.lptr 0 0]
 [PB.box [AVal.lref 1 0], PB.arr (Md.mk true false 0) true 1 x2]).bind
 fun r =>
 r.2[0]?.bind fun y =>
 r.2[1]?.bind fun y_1 =>
 y[0]?.bind fun y =>
 y.asSl.bind fun xs =>
 L f_i_clashes 10 lc_i_clashes_10 [] k_i_clashes_10
 ((x00, (), (), x03, (), x05, x06, x07, x08, x09,
 i64.wrap (x010 + 1), ()),
 ((), ()), xs, (x30, x31, x32, x33, x34, x35, x36, ()), ()))
 none)
 none)
 (some
 (LO.out 10
 ((x00, (), (), x03, (), x05, x06, x07, x08, x09, x010, ()),
 ((), ()), x2, (x30, x31, x32, x33, x34, x35, x36, ()), ())))
theorem gl_i_clashes_10 (x00 : CVal) (x03 : List CVal) (x05 : List CVal) (x06 : Int) (x07 : Int) (x08 : List CVal) (x09 : Int) (x010 : Int) (x2 : List CVal) (x30 : Int) (x31 : Int) (x32 : Int) (x33 : Int) (x34 : Int) (x35 : List CVal) (x36 : Int) (R : LO k_i_clashes_10.T) (h : nl_i_clashes_10 CC LL x00 x03 x05 x06 x07 x08 x09 x010 x2 x30 x31 x32 x33 x34 x35 x36 = some R) : LL f_i_clashes 10 lc_i_clashes_10 [] k_i_clashes_10 ((x00, (), (), x03, (), x05, x06, x07, x08, x09, x010, ()), ((), ()), x2, (x30, x31, x32, x33, x34, x35, x36, ()), ()) = some R := loopW (Eq.trans (b := nl_i_clashes_10 CC LL x00 x03 x05 x06 x07 x08 x09 x010 x2 x30 x31 x32 x33 x34 x35 x36) (by kernel_rfl) h)
noncomputable def nl_i_clashes_0 (C : CallT) (L : LoopT) (x00 : CVal) (x02 : Int) (x03 : Int) (x2 : List CVal) : Option (LO k_i_clashes_0.T) :=
 br (decide (x03 < x02))
 (x00.asFp.bind fun y =>
 (y.1.cell (y.2 + 2)).bind fun c =>
 c.asIdx.bind fun y =>
 c.asIdx.bind fun y_1 =>
 br (decide (0 ≤ y) && decide (y = y_1) && decide (y ≤ 1048576))
 (br (decide (x2.length + 1 ≤ 4294967296) && true && true)
 (L f_i_clashes 0 lc_i_clashes_0 [] k_i_clashes_0
 ((x00, (), x02, i64.wrap (x03 + 1), ()), ((), ()),
 x2 ++ [CVal.sl (List.replicate y.toNat (CVal.bool false))], ()))
 none)
 none)
 (some (LO.out 0 ((x00, (), x02, x03, ()), ((), ()), x2, ())))
theorem gl_i_clashes_0 (x00 : CVal) (x02 : Int) (x03 : Int) (x2 : List CVal) (R : LO k_i_clashes_0.T) (h : nl_i_clashes_0 CC LL x00 x02 x03 x2 = some R) : LL f_i_clashes 0 lc_i_clashes_0 [] k_i_clashes_0 ((x00, (), x02, x03, ()), ((), ()), x2, ()) = some R := loopW (Eq.trans (b := nl_i_clashes_0 CC LL x00 x02 x03 x2) (by kernel_rfl) h)
noncomputable def nl_s_l9Ins_3 (C : CallT) (L : LoopT) (x01 : Int) (x10 : Int) (x11 : Int) (x12 : Int) (x13 : Int) (x14 : Int) (x15 : List CVal) (x16 : Int) : Option (LO k_s_l9Ins_3.T) :=
 br (decide (x01 < (↑x15.length : Int)))
 (br (decide (0 ≤ i64.wrap (x01 - 1)) && true)
 (x15[(i64.wrap (x01 - 1)).toNat]?.bind fun y =>
 br (CVal.fits false 1 y)
 ((y.cell 0).bind fun c =>
 br (decide (0 ≤ x01) && true)
 (x15[x01.toNat]?.bind fun y =>
 br (CVal.fits false 1 y)
 ((y.cell 0).bind fun c_1 =>
 (CVal.asInt i64 c).bind fun n =>
 (CVal.asInt i64 c_1).bind fun n_1 =>
 br (decide (n_1 ≤ n)) (some (LO.ret (CVal.bool false, [])))
 (L f_s_l9Ins 3 lc_s_l9Ins_3 [] k_s_l9Ins_3
 (((), i64.wrap (x01 + 1), ()),
 (x10, x11, x12, x13, x14, x15, x16, ()), ())))
 none)
 none)
 none)
 none)
 (some (LO.out 3 (((), x01, ()), (x10, x11, x12, x13, x14, x15, x16, ()), ())))
theorem gl_s_l9Ins_3 (x01 : Int) (x10 : Int) (x11 : Int) (x12 : Int) (x13 : Int) (x14 : Int) (x15 : List CVal) (x16 : Int) (R : LO k_s_l9Ins_3.T) (h : nl_s_l9Ins_3 CC LL x01 x10 x11 x12 x13 x14 x15 x16 = some R) : LL f_s_l9Ins 3 lc_s_l9Ins_3 [] k_s_l9Ins_3 (((), x01, ()), (x10, x11, x12, x13, x14, x15, x16, ()), ()) = some R := loopW (Eq.trans (b := nl_s_l9Ins_3 CC LL x01 x10 x11 x12 x13 x14 x15 x16) (by kernel_rfl) h)
noncomputable def nl_i_liveSets_4 (C : CallT) (L : LoopT) (x00 : CVal) (x02 : Bool) (x03 : Int) (x1 : List CVal) : Option (LO k_i_liveSets_4.T) :=
 br (decide (0 ≤ x03))
 (x00.asFp.bind fun y =>
 (y.1.sub y.2 4).bind fun y =>
 (C f_i_wanted [AVal.v y, AVal.v (CVal.int i64 x03), AVal.v (CVal.sl x1)] []).bind fun r =>
 br (!r.1.plain) none
 (br r.1.isFlat
 (r.1.asSl.bind fun xs =>
 br (decide (0 ≤ x03) && true)
 (br (decide (x03.toNat < x1.length) && true)
 (x1[x03.toNat]?.bind fun y =>
 (y.cell 0).bind fun c =>
 c.asSl.bind fun xs_1 =>
 (x1[x03.toNat]?.bind fun y => (y.cell 0).bind fun c => c.asSl).bind fun y =>
 (C f_slices_Equal_bool [AVal.v (CVal.sl xs), AVal.v (CVal.sl y)] []).bind fun r =>
 br (!scalar r.1) none
 (r.1.asBool.bind fun b =>
 br (!b)
 (br (decide (0 ≤ x03) && true)
 (br (decide (x03.toNat < x1.length) && true)
 (x1[x03.toNat]?.bind fun y =>
 br (CVal.fits false 1 y)
 (L f_i_liveSets 4 lc_i_liveSets_4 [] k_i_liveSets_4
 ((x00, (), true, i64.wrap (x03 - 1), ()),
 x1.set x03.toNat (CVal.sl xs), ()))
 (br (y.isAgg && decide (1 ≤ y.cells.length))
 (L f_i_liveSets 4 lc_i_liveSets_4 [] k_i_liveSets_4
 ((x00, (), true, i64.wrap (x03 - 1), ()),
 x1.set x03.toNat (CVal.agg (CVal.sl xs :: List.drop 1 y.cells)),
 ()))
 none))
 none)
 none)
 (L f_i_liveSets 4 lc_i_liveSets_4 [] k_i_liveSets_4
 ((x00, (), x02, i64.wrap (x03 - 1), ()), x1,
 ()))))
 none)
 none)
 none))
 (some (LO.out 4 ((x00, (), x02, x03, ()), x1, ())))
theorem gl_i_liveSets_4 (x00 : CVal) (x02 : Bool) (x03 : Int) (x1 : List CVal) (R : LO k_i_liveSets_4.T) (h : nl_i_liveSets_4 CC LL x00 x02 x03 x1 = some R) : LL f_i_liveSets 4 lc_i_liveSets_4 [] k_i_liveSets_4 ((x00, (), x02, x03, ()), x1, ()) = some R := loopW (Eq.trans (b := nl_i_liveSets_4 CC LL x00 x02 x03 x1) (by kernel_rfl) h)
noncomputable def nl_i_behind_0 (C : CallT) (L : LoopT) (x00 : List CVal) (x02 : List CVal) (x03 : Int) (x04 : Int) (x1 : List CVal) : Option (LO k_i_behind_0.T) :=
 br (decide (x04 < x03))
 (br (decide (0 ≤ x04) && true)
 (x02[x04.toNat]?.bind fun y =>
 br (CVal.fits false 1 y)
 ((y.cell 0).bind fun c =>
 c.asIdx.bind fun y =>
 br (decide (0 ≤ y) && true)
 (x00[y.toNat]?.bind fun y =>
 br (CVal.fits false 1 y)
 ((y.cell 0).bind fun c =>
 c.asSl.bind fun xs =>
 c.asSl.bind fun xs_1 =>
 (L f_i_behind 2 lc_i_behind_2 [] k_i_behind_2
 ((x00, (), x02, x03, x04, xs_1, (↑xs.length : Int), 0, ()), x1,
 ())).bind
 fun r =>
 loK r (fun r => some (LO.ret r)) fun j p =>
 br (j == 2)
 (L f_i_behind 0 lc_i_behind_0 [] k_i_behind_0
 ((p.fst.1, (), p.fst.snd.snd.1, p.fst.snd.snd.snd.1,
 i64.wrap (p.fst.snd.snd.snd.snd.1 + 1), ()),
 p.snd.1, ()))
 (br (j == 1)
 (L f_i_behind 0 lc_i_behind_0 [] k_i_behind_0
 ((p.fst.1, (), p.fst.snd.snd.1, p.fst.snd.snd.snd.1,
 i64.wrap (p.fst.snd.snd.snd.snd.1 + 1), ()),
 p.snd.1, ()))
 (some
 (LO.out j
 ((p.fst.1, (), p.fst.snd.snd.1, p.fst.snd.snd.snd.1,
 p.fst.snd.snd.snd.snd.1, ()),
 p.snd.1, ())))))
 none)
 none)
 none)
 none)
 (some (LO.out 0 ((x00, (), x02, x03, x04, ()), x1, ())))
theorem gl_i_behind_0 (x00 : List CVal) (x02 : List CVal) (x03 : Int) (x04 : Int) (x1 : List CVal) (R : LO k_i_behind_0.T) (h : nl_i_behind_0 CC LL x00 x02 x03 x04 x1 = some R) : LL f_i_behind 0 lc_i_behind_0 [] k_i_behind_0 ((x00, (), x02, x03, x04, ()), x1, ()) = some R := loopW (Eq.trans (b := nl_i_behind_0 CC LL x00 x02 x03 x04 x1) (by kernel_rfl) h)
noncomputable def nl_s_l10Node_0 (C : CallT) (L : LoopT) (x01 : Int) (x02 : List CVal) (x03 : Int) (x10 : Int) (x11 : Int) (x12 : Int) (x13 : List CVal) (x15 : Bool) (x3 : List CVal) : Option (LO k_s_l10Node_0.T) :=
 br (decide (x03 < (↑x02.length : Int)))
 (br (decide (0 ≤ x03) && true)
 (x02[x03.toNat]?.bind fun y =>
 br (CVal.fits false 1 y)
 ((y.cell 0).bind fun c =>
 (C f_s_l10Set [AVal.lptr 0 0, AVal.v (CVal.int i64 x01), AVal.v c]
 [PB.box
 [AVal.v (CVal.int i64 x10), AVal.v (CVal.int i64 x11),
 AVal.v (CVal.int i64 x12), AVal.v (CVal.sl x13), AVal.lref 1 0,
 AVal.v (CVal.bool x15)],
 PB.arr (Md.mk true false 0) true 1 x3]).bind
 fun r =>
 r.2[0]?.bind fun y =>
 r.2[1]?.bind fun y_1 =>
 y[0]?.bind fun y_2 =>
 y[1]?.bind fun y_3 =>
 y[2]?.bind fun y_4 =>
 y[3]?.bind fun y_5 =>
 y[4]?.bind fun y_6 =>
 y[5]?.bind fun y =>
 y_6.asSl.bind fun xs =>
 (CVal.asInt i64 y_2).bind fun n =>
 (CVal.asInt i64 y_3).bind fun n_1 =>
 (CVal.asInt i64 y_4).bind fun n_2 =>
 y_5.asSl.bind fun xs_1 =>
 y.asBool.bind fun b =>
 L f_s_l10Node 0 lc_s_l10Node_0
 [PSh.box [none, none, none, none, some 1, none],
 PSh.arr (Md.mk true false 0) true 1]
 k_s_l10Node_0
 (((), x01, x02, i64.wrap (x03 + 1), ()),
 (n, n_1, n_2, xs_1, (), b, ()), (), xs, ()))
 none)
 none)
 (some
 (LO.out 0
 (((), x01, x02, x03, ()), (x10, x11, x12, x13, (), x15, ()), (), x3,
 ())))
theorem gl_s_l10Node_0 (x01 : Int) (x02 : List CVal) (x03 : Int) (x10 : Int) (x11 : Int) (x12 : Int) (x13 : List CVal) (x15 : Bool) (x3 : List CVal) (R : LO k_s_l10Node_0.T) (h : nl_s_l10Node_0 CC LL x01 x02 x03 x10 x11 x12 x13 x15 x3 = some R) : LL f_s_l10Node 0 lc_s_l10Node_0 [PSh.box [none, none, none, none, some 1, none], PSh.arr (Md.mk true false 0) true 1] k_s_l10Node_0 (((), x01, x02, x03, ()), (x10, x11, x12, x13, (), x15, ()), (), x3, ()) = some R := loopW (Eq.trans (b := nl_s_l10Node_0 CC LL x01 x02 x03 x10 x11 x12 x13 x15 x3) (by kernel_rfl) h)
noncomputable def nl_slices_Equal_bool_0 (C : CallT) (L : LoopT) (x00 : List CVal) (x01 : List CVal) (x02 : Int) (x03 : Int) : Option (LO k_slices_Equal_bool_0.T) :=
 br (decide (x03 < x02))
 (br (decide (0 ≤ x03) && true)
 (x00[x03.toNat]?.bind fun y =>
 br (CVal.fits false 1 y)
 ((y.cell 0).bind fun c =>
 br (decide (0 ≤ x03) && true)
 (x01[x03.toNat]?.bind fun y =>
 br (CVal.fits false 1 y)
 ((y.cell 0).bind fun c_1 =>
 c.asBool.bind fun b =>
 c_1.asBool.bind fun b_1 =>
 br (!b == b_1) (some (LO.ret (CVal.bool false, [])))
 (L f_slices_Equal_bool 0 lc_slices_Equal_bool_0 [] k_slices_Equal_bool_0
 ((x00, x01, x02, i64.wrap (x03 + 1), ()), ())))
 none)
 none)
 none)
 none)
 (some (LO.out 0 ((x00, x01, x02, x03, ()), ())))
theorem gl_slices_Equal_bool_0 (x00 : List CVal) (x01 : List CVal) (x02 : Int) (x03 : Int) (R : LO k_slices_Equal_bool_0.T) (h : nl_slices_Equal_bool_0 CC LL x00 x01 x02 x03 = some R) : LL f_slices_Equal_bool 0 lc_slices_Equal_bool_0 [] k_slices_Equal_bool_0 ((x00, x01, x02, x03, ()), ()) = some R := loopW (Eq.trans (b := nl_slices_Equal_bool_0 CC LL x00 x01 x02 x03) (by kernel_rfl) h)
noncomputable def nl_i_guardOf_0 (C : CallT) (L : LoopT) (x01 : List CVal) (x02 : Int) (x03 : Int) (x1 : List CVal) : Option (LO k_i_guardOf_0.T) :=
 br (decide (x03 < x02))
 (br (decide (0 ≤ x03) && true)
 (x01[x03.toNat]?.bind fun y =>
 br (CVal.fits true 7 y)
 ((y.sub 0 7).bind fun y =>
 br (CVal.isAggN 7 y)
 ((y.cell 0).bind fun c =>
 (y.cell 1).bind fun c_1 =>
 (y.cell 2).bind fun c_2 =>
 (y.cell 3).bind fun c_3 =>
 (y.cell 4).bind fun c_4 =>
 (y.cell 5).bind fun c_5 =>
 (y.cell 6).bind fun c_6 =>
 (CVal.asInt i64 c).bind fun n =>
 br (decide (n = 17))
 (br (decide (x1.length + 1 ≤ 4294967296) && true && true)
 (L f_i_guardOf 0 lc_i_guardOf_0 [] k_i_guardOf_0
 (((), x01, x02, i64.wrap (x03 + 1), ()),
 x1 ++ [CVal.int i64 x03], ()))
 none)
 ((CVal.asInt i64 c).bind fun n =>
 br (decide (n = 18))
 (br
 (decide
 (0 ≤
 bif
 decide
 (0 < i64.wrap ((↑x1.length : Int) - 1)) then
 i64.wrap ((↑x1.length : Int) - 1)
 else 0) &&
 decide
 ((bif
 decide
 (0 < i64.wrap ((↑x1.length : Int) - 1)) then
 i64.wrap ((↑x1.length : Int) - 1)
 else 0) ≤
 (↑x1.length : Int)) &&
 true)
 (L f_i_guardOf 0 lc_i_guardOf_0 [] k_i_guardOf_0
 (((), x01, x02, i64.wrap (x03 + 1), ()),
 List.take
 (bif
 decide
 (0 < i64.wrap ((↑x1.length : Int) - 1)) then
 i64.wrap ((↑x1.length : Int) - 1)
 else 0).toNat
 x1,
 ()))
 none)
 (L f_i_guardOf 0 lc_i_guardOf_0 [] k_i_guardOf_0
 (((), x01, x02, i64.wrap (x03 + 1), ()), x1,
 ()))))
 none)
 none)
 none)
 (some (LO.out 0 (((), x01, x02, x03, ()), x1, ())))
theorem gl_i_guardOf_0 (x01 : List CVal) (x02 : Int) (x03 : Int) (x1 : List CVal) (R : LO k_i_guardOf_0.T) (h : nl_i_guardOf_0 CC LL x01 x02 x03 x1 = some R) : LL f_i_guardOf 0 lc_i_guardOf_0 [] k_i_guardOf_0 (((), x01, x02, x03, ()), x1, ()) = some R := loopW (Eq.trans (b := nl_i_guardOf_0 CC LL x01 x02 x03 x1) (by kernel_rfl) h)
end Go.Proofs.Ytmjjaoffeajcbaa.Abs
