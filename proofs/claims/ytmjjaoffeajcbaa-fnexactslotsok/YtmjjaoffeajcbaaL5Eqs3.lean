/- What the functions come to in the abstract machine. -/
import Derived.Test.YtmjjaoffeajcbaaL5Ann
import Derived.KernelRfl
set_option linter.unusedVariables false
set_option maxRecDepth 100000
namespace Go.Proofs.Ytmjjaoffeajcbaa.Abs
open Go Go.Proofs Go.IntKind
noncomputable def nf_l_toIntS (C : CallT) (L : LoopT) (a : List CVal) : Option Ret :=
 br (decide ((↑a.length : Int) = (↑a.length : Int)) && decide ((↑a.length : Int) ≤ 1048576))
 ((L f_l_toIntS 0 lc_l_toIntS_0 [] k_l_toIntS_0
 ((a, (), 0, ()),
 List.replicate (↑a.length : Int).toNat (CVal.int i64 0), ())).bind
 fun r => loK r (fun r => some r) fun j p => br (j == 0) (some (CVal.sl p.snd.1, [])) none)
 none
theorem go_l_toIntS (a : List CVal) (R : Ret) (h : nf_l_toIntS CC LL a = some R) : CC f_l_toIntS [AVal.v (CVal.sl a)] [] = some R := fnW (by decide) rfl (Eq.trans (b := nf_l_toIntS CC LL a) (by kernel_rfl) h)
noncomputable def nf_l_eqIntS (C : CallT) (L : LoopT) (a : List CVal) (b : List CVal) : Option Ret :=
 br (!decide ((↑a.length : Int) = (↑b.length : Int))) (some (CVal.bool false, []))
 ((L f_l_eqIntS 0 lc_l_eqIntS_0 [] k_l_eqIntS_0 ((a, b, 0, ()), ())).bind fun r =>
 loK r (fun r => some r) fun j p => br (j == 0) (some (CVal.bool true, [])) none)
theorem go_l_eqIntS (a : List CVal) (b : List CVal) (R : Ret) (h : nf_l_eqIntS CC LL a b = some R) : CC f_l_eqIntS [AVal.v (CVal.sl a), AVal.v (CVal.sl b)] [] = some R := fnW (by decide) rfl (Eq.trans (b := nf_l_eqIntS CC LL a b) (by kernel_rfl) h)
noncomputable def nf_s_l11Table (C : CallT) (L : LoopT) (a0 : Int) (a1 : Int) (a2 : Int) (a3 : List CVal) : Option Ret :=
 (C f_s_l10Solve
 [AVal.v (CVal.agg [CVal.int i64 a0, CVal.int i64 a1, CVal.int i64 a2, CVal.sl a3])]
 []).bind
 fun r =>
 r.1.asFp.bind fun y =>
 (y.1.cell (y.2 + 4)).bind fun c =>
 c.asSl.bind fun xs =>
 (L f_s_l11Table 0 lc_s_l11Table_0 [] k_s_l11Table_0
 (((CVal.agg [CVal.int i64 a0, CVal.int i64 a1, CVal.int i64 a2, CVal.sl a3]).fp
 0,
 xs, (), 0, ()),
 [], ())).bind
 fun r =>
 loK r (fun r => some r) fun j p =>
 br (j == 0)
 ((L f_s_l11Table 2 lc_s_l11Table_2 [] k_s_l11Table_2
 ((p.fst.1, p.fst.snd.1, (), 0, ()), p.snd.1, ())).bind
 fun r =>
 loK r (fun r => some r) fun j p =>
 br (j == 2)
 ((L f_s_l11Table 6 lc_s_l11Table_6 [] k_s_l11Table_6
 ((p.fst.1, p.fst.snd.1, (), 0, ()), p.snd.1, ())).bind
 fun r => loK r (fun r => some r) fun j p => br (j == 6) (some (CVal.sl p.snd.1, [])) none)
 none)
 none
theorem go_s_l11Table (a0 : Int) (a1 : Int) (a2 : Int) (a3 : List CVal) (R : Ret) (h : nf_s_l11Table CC LL a0 a1 a2 a3 = some R) : CC f_s_l11Table [AVal.v (CVal.agg [CVal.int i64 a0, CVal.int i64 a1, CVal.int i64 a2, CVal.sl a3])] [] = some R := fnW (by decide) rfl (Eq.trans (b := nf_s_l11Table CC LL a0 a1 a2 a3) (by kernel_rfl) h)
noncomputable def nf_i_SlotsOk_1 (C : CallT) (L : LoopT) (a0 : Int) (a1 : Int) (b : List CVal) : Option Ret :=
 br (decide (0 ≤ a0) && true)
 (b[a0.toNat]?.bind fun y =>
 br (CVal.fits false 1 y)
 ((y.cell 0).bind fun c =>
 br (decide (0 ≤ a1) && true)
 (b[a1.toNat]?.bind fun y =>
 br (CVal.fits false 1 y)
 ((y.cell 0).bind fun c_1 =>
 (CVal.asInt i64 c).bind fun n =>
 (CVal.asInt i64 c_1).bind fun n_1 => some (CVal.bool (decide (n = n_1)), []))
 none)
 none)
 none)
 none
theorem go_i_SlotsOk_1 (a0 : Int) (a1 : Int) (b : List CVal) (R : Ret) (h : nf_i_SlotsOk_1 CC LL a0 a1 b = some R) : CC f_i_SlotsOk_1 [AVal.v (CVal.agg [CVal.int i64 a0, CVal.int i64 a1]), AVal.v ((CVal.sl b).fp 0)] [] = some R := fnW (by decide) rfl (Eq.trans (b := nf_i_SlotsOk_1 CC LL a0 a1 b) (by kernel_rfl) h)
noncomputable def nf_s_l1In (C : CallT) (L : LoopT) (a : Int) (b : Int) (c : Int) : Option Ret :=
 (br (decide (b ≤ a)) (some (decide (a ≤ c), ())) (some (false, ()))).bind fun y =>
 some (CVal.bool y.1, [])
theorem go_s_l1In (a : Int) (b : Int) (c : Int) (R : Ret) (h : nf_s_l1In CC LL a b c = some R) : CC f_s_l1In [AVal.v (CVal.int i64 a), AVal.v (CVal.int i64 b), AVal.v (CVal.int i64 c)] [] = some R := fnW (by decide) rfl (Eq.trans (b := nf_s_l1In CC LL a b c) (by kernel_rfl) h)
noncomputable def nf_s_l11All (C : CallT) (L : LoopT) (a : List CVal) (b : List CVal) : Option Ret :=
 (L f_s_l11All 0 lc_s_l11All_0 [PSh.arr (Md.mk true true 0) false 1] k_s_l11All_0
 (((), b, 0, ()), a, ())).bind
 fun r => loK r (fun r => some r) fun j p => br (j == 0) (some (CVal.tup [], [p.snd.1])) none
theorem go_s_l11All (a : List CVal) (b : List CVal) (R : Ret) (h : nf_s_l11All CC LL a b = some R) : CC f_s_l11All [AVal.lref 0 0, AVal.v (CVal.sl b)] [PB.arr (Md.mk true true 0) false 1 a] = some R := fnW (by decide) rfl (Eq.trans (b := nf_s_l11All CC LL a b) (by kernel_rfl) h)
noncomputable def nf_i_lamOk (C : CallT) (L : LoopT) (a0 : Int) (a1 : Int) (a2 : Int) (a3 : List CVal) : Option Ret :=
 (br (decide (a0 = (-1 : Int)))
 (br (decide (a1 = 0)) (some (true, ()))
 ((C f_i_in
 [AVal.v (CVal.int i64 a0), AVal.v (CVal.int i64 0),
 AVal.v (CVal.int i64 149)]
 []).bind
 fun r =>
 r.1.asBool.bind fun b => br b (some (decide (1 ≤ a1), ())) (some (false, ()))))
 ((C f_i_in
 [AVal.v (CVal.int i64 a0), AVal.v (CVal.int i64 0),
 AVal.v (CVal.int i64 149)]
 []).bind
 fun r =>
 r.1.asBool.bind fun b => br b (some (decide (1 ≤ a1), ())) (some (false, ())))).bind
 fun y => some (CVal.bool y.1, [])
theorem go_i_lamOk (a0 : Int) (a1 : Int) (a2 : Int) (a3 : List CVal) (R : Ret) (h : nf_i_lamOk CC LL a0 a1 a2 a3 = some R) : CC f_i_lamOk [AVal.v (CVal.agg [CVal.int i64 a0, CVal.int i64 a1, CVal.int i64 a2, CVal.sl a3])] [] = some R := fnW (by decide) rfl (Eq.trans (b := nf_i_lamOk CC LL a0 a1 a2 a3) (by kernel_rfl) h)
noncomputable def nf_slices_IndexFunc_2_int (C : CallT) (L : LoopT) (a : List CVal) (b : CVal) : Option Ret :=
 (L f_slices_IndexFunc_2_int 0 lc_slices_IndexFunc_2_int_0 [] k_slices_IndexFunc_2_int_0
 ((a, b, (↑a.length : Int), 0, ()), ())).bind
 fun r => loK r (fun r => some r) fun j p => br (j == 0) (some (CVal.int i64 (-1 : Int), [])) none
theorem go_slices_IndexFunc_2_int (a : List CVal) (b : CVal) (R : Ret) (h : nf_slices_IndexFunc_2_int CC LL a b = some R) : CC f_slices_IndexFunc_2_int [AVal.v (CVal.sl a), AVal.v b] [] = some R := fnW (by decide) rfl (Eq.trans (b := nf_slices_IndexFunc_2_int CC LL a b) (by kernel_rfl) h)
noncomputable def nf_s_l9Reg (C : CallT) (L : LoopT) (a : Bool) (b : Int) (c : Int) : Option Ret :=
 br (!a) (some (CVal.bool (decide (b = 0)), []))
 ((C f_s_l1In
 [AVal.v (CVal.int i64 b), AVal.v (CVal.int i64 0),
 AVal.v (CVal.int i64 (i64.wrap (c - 1)))]
 []).bind
 fun r => some (r.1, []))
theorem go_s_l9Reg (a : Bool) (b : Int) (c : Int) (R : Ret) (h : nf_s_l9Reg CC LL a b c = some R) : CC f_s_l9Reg [AVal.v (CVal.bool a), AVal.v (CVal.int i64 b), AVal.v (CVal.int i64 c)] [] = some R := fnW (by decide) rfl (Eq.trans (b := nf_s_l9Reg CC LL a b c) (by kernel_rfl) h)
noncomputable def nf_i_insOk (C : CallT) (L : LoopT) (a0 : Int) (a1 : Int) (a2 : Int) (a3 : List CVal) (b0 : Int) (b1 : Int) (b2 : Int) (b3 : Int) (b4 : Int) (b5 : List CVal) (b6 : Int) : Option Ret :=
 (C f_i_insForm [AVal.v (CVal.int i64 b0)] []).bind fun r =>
 r.1.asTup.bind fun y =>
 y[0]?.bind fun y =>
 r.1.asTup.bind fun y =>
 y[1]?.bind fun y =>
 (y.asBool.bind fun b =>
 br (!b) (some (true, ()))
 ((C f_i_numOk
 [AVal.v
 (CVal.agg
 [CVal.int i64 b0, CVal.int i64 b1, CVal.int i64 b2,
 CVal.int i64 b3, CVal.int i64 b4, CVal.sl b5, CVal.int i64 b6])]
 []).bind
 fun r =>
 r.1.asBool.bind fun b =>
 br (!b) (some (true, ()))
 ((C f_i_hasPart [AVal.v (CVal.int i64 b0), AVal.v (CVal.int IntKind.u8 84)]
 []).bind
 fun r =>
 (C f_i_fieldOk
 [AVal.v (CVal.int i64 b6), AVal.v r.1,
 AVal.v (CVal.int i64 (↑a3.length : Int))]
 []).bind
 fun r => r.1.asBool.bind fun b => some (!b, ())))).bind
 fun y =>
 br y.1 (some (CVal.bool false, []))
 (((C f_i_hasPart [AVal.v (CVal.int i64 b0), AVal.v (CVal.int IntKind.u8 68)] []).bind
 fun r =>
 (C f_i_fieldOk [AVal.v (CVal.int i64 b1), AVal.v r.1, AVal.v (CVal.int i64 a2)]
 []).bind
 fun r =>
 r.1.asBool.bind fun b =>
 br (!b) (some (true, ()))
 ((C f_i_hasPart [AVal.v (CVal.int i64 b0), AVal.v (CVal.int IntKind.u8 88)]
 []).bind
 fun r =>
 (C f_i_fieldOk
 [AVal.v (CVal.int i64 b2), AVal.v r.1, AVal.v (CVal.int i64 a2)]
 []).bind
 fun r =>
 r.1.asBool.bind fun b =>
 br (!b) (some (true, ()))
 ((C f_i_hasPart
 [AVal.v (CVal.int i64 b0), AVal.v (CVal.int IntKind.u8 89)]
 []).bind
 fun r =>
 (C f_i_fieldOk
 [AVal.v (CVal.int i64 b3), AVal.v r.1,
 AVal.v (CVal.int i64 a2)]
 []).bind
 fun r => r.1.asBool.bind fun b => some (!b, ())))).bind
 fun y =>
 br y.1 (some (CVal.bool false, []))
 (br (decide (b0 = 8))
 ((C f_slices_ContainsFunc_int
 [AVal.v (CVal.sl b5),
 AVal.v
 (CVal.func f_i_insOk_1
 [(CVal.agg
 [CVal.int i64 a0, CVal.int i64 a1, CVal.int i64 a2,
 CVal.sl a3]).fp
 0])]
 []).bind
 fun r => r.1.asBool.bind fun b => some (CVal.bool !b, []))
 ((L f_i_insOk 0 lc_i_insOk_0 [] k_i_insOk_0
 (((), b5, (↑b5.length : Int), 0, ()),
 (b0, b1, b2, b3, b4, b5, b6, ()), ())).bind
 fun r =>
 loK r (fun r => some r) fun j p => br (j == 0) (some (CVal.bool true, [])) none)))
theorem go_i_insOk (a0 : Int) (a1 : Int) (a2 : Int) (a3 : List CVal) (b0 : Int) (b1 : Int) (b2 : Int) (b3 : Int) (b4 : Int) (b5 : List CVal) (b6 : Int) (R : Ret) (h : nf_i_insOk CC LL a0 a1 a2 a3 b0 b1 b2 b3 b4 b5 b6 = some R) : CC f_i_insOk [AVal.v (CVal.agg [CVal.int i64 a0, CVal.int i64 a1, CVal.int i64 a2, CVal.sl a3]),
 AVal.v
 (CVal.agg
 [CVal.int i64 b0, CVal.int i64 b1, CVal.int i64 b2, CVal.int i64 b3,
 CVal.int i64 b4, CVal.sl b5, CVal.int i64 b6])] [] = some R := fnW (by decide) rfl (Eq.trans (b := nf_i_insOk CC LL a0 a1 a2 a3 b0 b1 b2 b3 b4 b5 b6) (by kernel_rfl) h)
noncomputable def nf_i_behind (C : CallT) (L : LoopT) (a0 : Int) (a1 : Int) (a2 : Int) (a3 : List CVal) (b : Int) (c : List CVal) : Option Ret :=
 br (decide (0 ≤ a2) && decide (a2 = a2) && decide (a2 ≤ 1048576))
 ((C f_i_ways
 [AVal.v (CVal.agg [CVal.int i64 a0, CVal.int i64 a1, CVal.int i64 a2, CVal.sl a3]),
 AVal.v (CVal.int i64 b)]
 []).bind
 fun r =>
 r.1.asSl.bind fun xs =>
 r.1.asSl.bind fun xs_1 =>
 (L f_i_behind 0 lc_i_behind_0 [] k_i_behind_0
 ((c, (), xs_1, (↑xs.length : Int), 0, ()),
 List.replicate a2.toNat (CVal.bool false), ())).bind
 fun r =>
 loK r (fun r => some r) fun j p =>
 br (j == 0)
 ((C f_i_things [AVal.v (CVal.sl p.snd.1)] []).bind fun r =>
 br (!r.1.plain) none (br r.1.isFlat (r.1.asSl.bind fun xs => some (CVal.sl xs, [])) none))
 none)
 none
theorem go_i_behind (a0 : Int) (a1 : Int) (a2 : Int) (a3 : List CVal) (b : Int) (c : List CVal) (R : Ret) (h : nf_i_behind CC LL a0 a1 a2 a3 b c = some R) : CC f_i_behind [AVal.v (CVal.agg [CVal.int i64 a0, CVal.int i64 a1, CVal.int i64 a2, CVal.sl a3]),
 AVal.v (CVal.int i64 b), AVal.v (CVal.sl c)] [] = some R := fnW (by decide) rfl (Eq.trans (b := nf_i_behind CC LL a0 a1 a2 a3 b c) (by kernel_rfl) h)
noncomputable def nf_s_l10From (C : CallT) (L : LoopT) (a00 : Int) (a01 : Int) (a02 : Int) (a03 : List CVal) (a1 : List CVal) (a2 : Bool) (b : Int) (c : Int) (d : Int) : Option Ret :=
 (L f_s_l10From 0 lc_s_l10From_0
 [PSh.box [none, none, none, none, some 1, none], PSh.arr (Md.mk true false 0) true 1]
 k_s_l10From_0
 (((), b, c, d, 0, ()), (a00, a01, a02, a03, (), a2, ()), (), a1,
 ())).bind
 fun r =>
 loK r (fun r => some r) fun j p =>
 br (j == 0)
 (some
 (CVal.tup [],
 [[CVal.int i64 p.snd.fst.1, CVal.int i64 p.snd.fst.snd.1,
 CVal.int i64 p.snd.fst.snd.snd.1, CVal.sl p.snd.fst.snd.snd.snd.1, CVal.sl p.snd.snd.snd.1,
 CVal.bool p.snd.fst.snd.snd.snd.snd.snd.1],
 []]))
 none
theorem go_s_l10From (a00 : Int) (a01 : Int) (a02 : Int) (a03 : List CVal) (a1 : List CVal) (a2 : Bool) (b : Int) (c : Int) (d : Int) (R : Ret) (h : nf_s_l10From CC LL a00 a01 a02 a03 a1 a2 b c d = some R) : CC f_s_l10From [AVal.lptr 0 0, AVal.v (CVal.int i64 b), AVal.v (CVal.int i64 c),
 AVal.v (CVal.int i64 d)] [PB.box
 [AVal.v (CVal.int i64 a00), AVal.v (CVal.int i64 a01), AVal.v (CVal.int i64 a02),
 AVal.v (CVal.sl a03), AVal.lref 1 0, AVal.v (CVal.bool a2)],
 PB.arr (Md.mk true false 0) true 1 a1] = some R := fnW (by decide) rfl (Eq.trans (b := nf_s_l10From CC LL a00 a01 a02 a03 a1 a2 b c d) (by kernel_rfl) h)
noncomputable def nf_i_numOk (C : CallT) (L : LoopT) (a0 : Int) (a1 : Int) (a2 : Int) (a3 : Int) (a4 : Int) (a5 : List CVal) (a6 : Int) : Option Ret :=
 br (decide (a0 = 1))
 ((C f_i_in
 [AVal.v (CVal.int i64 a4), AVal.v (CVal.int i64 (-1000000 : Int)),
 AVal.v (CVal.int i64 1000000)]
 []).bind
 fun r => some (r.1, []))
 (br (decide (a0 = 2))
 ((C f_i_in
 [AVal.v (CVal.int i64 a4), AVal.v (CVal.int i64 0),
 AVal.v (CVal.int i64 1)]
 []).bind
 fun r => some (r.1, []))
 (br (decide (a0 = 5))
 ((C f_i_in
 [AVal.v (CVal.int i64 a4), AVal.v (CVal.int i64 1),
 AVal.v (CVal.int i64 5)]
 []).bind
 fun r => some (r.1, []))
 (br (decide (a0 = 8))
 (((C f_i_in
 [AVal.v (CVal.int i64 a4), AVal.v (CVal.int i64 0),
 AVal.v (CVal.int i64 149)]
 []).bind
 fun r =>
 r.1.asBool.bind fun b =>
 br b (some (decide ((↑a5.length : Int) < 100), ())) (some (false, ()))).bind
 fun y => some (CVal.bool y.1, []))
 (some (CVal.bool (decide (a4 = 0)), [])))))
theorem go_i_numOk (a0 : Int) (a1 : Int) (a2 : Int) (a3 : Int) (a4 : Int) (a5 : List CVal) (a6 : Int) (R : Ret) (h : nf_i_numOk CC LL a0 a1 a2 a3 a4 a5 a6 = some R) : CC f_i_numOk [AVal.v
 (CVal.agg
 [CVal.int i64 a0, CVal.int i64 a1, CVal.int i64 a2, CVal.int i64 a3,
 CVal.int i64 a4, CVal.sl a5, CVal.int i64 a6])] [] = some R := fnW (by decide) rfl (Eq.trans (b := nf_i_numOk CC LL a0 a1 a2 a3 a4 a5 a6) (by kernel_rfl) h)
noncomputable def nf_i_insOk_1 (C : CallT) (L : LoopT) (a : Int) (b0 : Int) (b1 : Int) (b2 : Int) (b3 : List CVal) : Option Ret :=
 (C f_i_in
 [AVal.v (CVal.int i64 a), AVal.v (CVal.int i64 0),
 AVal.v (CVal.int i64 (i64.wrap (b2 - 1)))]
 []).bind
 fun r => r.1.asBool.bind fun b => some (CVal.bool !b, [])
theorem go_i_insOk_1 (a : Int) (b0 : Int) (b1 : Int) (b2 : Int) (b3 : List CVal) (R : Ret) (h : nf_i_insOk_1 CC LL a b0 b1 b2 b3 = some R) : CC f_i_insOk_1 [AVal.v (CVal.int i64 a),
 AVal.v
 ((CVal.agg [CVal.int i64 b0, CVal.int i64 b1, CVal.int i64 b2, CVal.sl b3]).fp 0)] [] = some R := fnW (by decide) rfl (Eq.trans (b := nf_i_insOk_1 CC LL a b0 b1 b2 b3) (by kernel_rfl) h)
noncomputable def nf_s_l10Add (C : CallT) (L : LoopT) (a : List CVal) (b : Int) : Option Ret :=
 (L f_s_l10Add 0 lc_s_l10Add_0 [] k_s_l10Add_0
 ((a, b, (), false, 0, ()), [], ())).bind
 fun r =>
 loK r (fun r => some r) fun j p =>
 br (j == 0)
 (br (!p.fst.snd.snd.snd.1)
 (br (decide (List.length p.snd.1 + 1 ≤ 4294967296) && true && true)
 (some (CVal.sl (p.snd.1 ++ [CVal.int i64 p.fst.snd.1]), [])) none)
 (some (CVal.sl p.snd.1, [])))
 none
theorem go_s_l10Add (a : List CVal) (b : Int) (R : Ret) (h : nf_s_l10Add CC LL a b = some R) : CC f_s_l10Add [AVal.v (CVal.sl a), AVal.v (CVal.int i64 b)] [] = some R := fnW (by decide) rfl (Eq.trans (b := nf_s_l10Add CC LL a b) (by kernel_rfl) h)
noncomputable def nf_i_raises (C : CallT) (L : LoopT) (a : Int) : Option Ret :=
 br (decide (a = 5)) (some (CVal.bool true, []))
 (br (decide (a = 14)) (some (CVal.bool true, []))
 (br (decide (a = 16)) (some (CVal.bool true, []))
 (br (decide (a = 9)) (some (CVal.bool true, []))
 (br (decide (a = 10)) (some (CVal.bool true, []))
 (br (decide (a = 11)) (some (CVal.bool true, []))
 (br (decide (a = 12)) (some (CVal.bool true, [])) (some (CVal.bool false, []))))))))
theorem go_i_raises (a : Int) (R : Ret) (h : nf_i_raises CC LL a = some R) : CC f_i_raises [AVal.v (CVal.int i64 a)] [] = some R := fnW (by decide) rfl (Eq.trans (b := nf_i_raises CC LL a) (by kernel_rfl) h)
noncomputable def nl_l_toIntS_0 (C : CallT) (L : LoopT) (x00 : List CVal) (x02 : Int) (x1 : List CVal) : Option (LO k_l_toIntS_0.T) :=
 br (decide (x02 < (↑x00.length : Int)))
 (br (decide (0 ≤ x02) && true)
 (x00[x02.toNat]?.bind fun y =>
 br (CVal.fits false 1 y)
 ((y.cell 0).bind fun c =>
 br (decide (0 ≤ x02) && true)
 (br (decide (x02.toNat < x1.length) && true)
 (br (c.isFlat && true)
 ((CVal.asInt i64 c).bind fun n =>
 x1[x02.toNat]?.bind fun y =>
 br (CVal.fits false 1 y)
 (L f_l_toIntS 0 lc_l_toIntS_0 [] k_l_toIntS_0
 ((x00, (), i64.wrap (x02 + 1), ()),
 x1.set x02.toNat (CVal.int i64 n), ()))
 (br (y.isAgg && decide (1 ≤ y.cells.length))
 (L f_l_toIntS 0 lc_l_toIntS_0 [] k_l_toIntS_0
 ((x00, (), i64.wrap (x02 + 1), ()),
 x1.set x02.toNat (CVal.agg (CVal.int i64 n :: List.drop 1 y.cells)),
 ()))
 none))
 none)
 none)
 none)
 none)
 none)
 (some (LO.out 0 ((x00, (), x02, ()), x1, ())))
theorem gl_l_toIntS_0 (x00 : List CVal) (x02 : Int) (x1 : List CVal) (R : LO k_l_toIntS_0.T) (h : nl_l_toIntS_0 CC LL x00 x02 x1 = some R) : LL f_l_toIntS 0 lc_l_toIntS_0 [] k_l_toIntS_0 ((x00, (), x02, ()), x1, ()) = some R := loopW (Eq.trans (b := nl_l_toIntS_0 CC LL x00 x02 x1) (by kernel_rfl) h)
noncomputable def nl_l_eqIntS_0 (C : CallT) (L : LoopT) (x00 : List CVal) (x01 : List CVal) (x02 : Int) : Option (LO k_l_eqIntS_0.T) :=
 br (decide (x02 < (↑x00.length : Int)))
 (br (decide (0 ≤ x02) && true)
 (x00[x02.toNat]?.bind fun y =>
 br (CVal.fits false 1 y)
 ((y.cell 0).bind fun c =>
 br (decide (0 ≤ x02) && true)
 (x01[x02.toNat]?.bind fun y =>
 br (CVal.fits false 1 y)
 ((y.cell 0).bind fun c_1 =>
 (CVal.asInt i64 c).bind fun n =>
 (CVal.asInt i64 c_1).bind fun n_1 =>
 br (!decide (n = n_1)) (some (LO.ret (CVal.bool false, [])))
 (L f_l_eqIntS 0 lc_l_eqIntS_0 [] k_l_eqIntS_0
 ((x00, x01, i64.wrap (x02 + 1), ()), ())))
 none)
 none)
 none)
 none)
 (some (LO.out 0 ((x00, x01, x02, ()), ())))
theorem gl_l_eqIntS_0 (x00 : List CVal) (x01 : List CVal) (x02 : Int) (R : LO k_l_eqIntS_0.T) (h : nl_l_eqIntS_0 CC LL x00 x01 x02 = some R) : LL f_l_eqIntS 0 lc_l_eqIntS_0 [] k_l_eqIntS_0 ((x00, x01, x02, ()), ()) = some R := loopW (Eq.trans (b := nl_l_eqIntS_0 CC LL x00 x01 x02) (by kernel_rfl) h)
noncomputable def nl_s_l11Table_10 (C : CallT) (L : LoopT) (x00 : CVal) (x01 : List CVal) (x03 : Int) (x04 : Int) (x06 : Int) (x07 : Int) (x1 : List CVal) (x2 : List CVal) : Option (LO k_s_l11Table_10.T) :=
 x00.asFp.bind fun y =>
 (y.1.cell (y.2 + 2)).bind fun c =>
 (CVal.asInt i64 c).bind fun n =>
 br (decide (x07 < n))
 (br (decide (0 ≤ x06) && true)
 (br (decide (x06.toNat < x2.length) && true)
 (x2[x06.toNat]?.bind fun y =>
 (y.cell 0).bind fun c =>
 (CVal.asInt i64 c).bind fun n =>
 br (decide (0 ≤ n) && true)
 (x01[n.toNat]?.bind fun y =>
 br (CVal.fits false 1 y)
 ((y.cell 0).bind fun c =>
 br (decide (0 ≤ x07) && true)
 (c.asSl.bind fun xs =>
 xs[x07.toNat]?.bind fun y =>
 br (CVal.fits false 1 y)
 ((y.cell 0).bind fun c =>
 c.asBool.bind fun b =>
 br b
 ((C f_s_l11Pair
 [AVal.lref 0 0, AVal.v (CVal.int i64 x04),
 AVal.v (CVal.int i64 x07)]
 [PB.arr (Md.mk true true 0) false 1 x1]).bind
 fun r =>
 r.2[0]?.bind fun y =>
 L f_s_l11Table 10 lc_s_l11Table_10 [] k_s_l11Table_10
 ((x00, x01, (), x03, x04, (), x06,
 i64.wrap (x07 + 1), ()),
 y, x2, ()))
 (L f_s_l11Table 10 lc_s_l11Table_10 [] k_s_l11Table_10
 ((x00, x01, (), x03, x04, (), x06,
 i64.wrap (x07 + 1), ()),
 x1, x2, ())))
 none)
 none)
 none)
 none)
 none)
 none)
 (some
 (LO.out 10 ((x00, x01, (), x03, x04, (), x06, x07, ()), x1, x2, ())))
theorem gl_s_l11Table_10 (x00 : CVal) (x01 : List CVal) (x03 : Int) (x04 : Int) (x06 : Int) (x07 : Int) (x1 : List CVal) (x2 : List CVal) (R : LO k_s_l11Table_10.T) (h : nl_s_l11Table_10 CC LL x00 x01 x03 x04 x06 x07 x1 x2 = some R) : LL f_s_l11Table 10 lc_s_l11Table_10 [] k_s_l11Table_10 ((x00, x01, (), x03, x04, (), x06, x07, ()), x1, x2, ()) = some R := loopW (Eq.trans (b := nl_s_l11Table_10 CC LL x00 x01 x03 x04 x06 x07 x1 x2) (by kernel_rfl) h)
noncomputable def nl_s_l11Table_2 (C : CallT) (L : LoopT) (x00 : CVal) (x01 : List CVal) (x03 : Int) (x1 : List CVal) : Option (LO k_s_l11Table_2.T) :=
 x00.asFp.bind fun y =>
 (y.1.cell (y.2 + 1)).bind fun c =>
 (CVal.asInt i64 c).bind fun n =>
 br (decide (x03 < n))
 ((L f_s_l11Table 4 lc_s_l11Table_4 [] k_s_l11Table_4
 ((x00, x01, (), x03, 0, ()), x1, ())).bind
 fun r =>
 loK r (fun r => some (LO.ret r)) fun j p =>
 br (j == 4)
 (L f_s_l11Table 2 lc_s_l11Table_2 [] k_s_l11Table_2
 ((p.fst.1, p.fst.snd.1, (), i64.wrap (p.fst.snd.snd.snd.1 + 1), ()),
 p.snd.1, ()))
 (br (j == 3)
 (L f_s_l11Table 2 lc_s_l11Table_2 [] k_s_l11Table_2
 ((p.fst.1, p.fst.snd.1, (), i64.wrap (p.fst.snd.snd.snd.1 + 1), ()),
 p.snd.1, ()))
 (some
 (LO.out j
 ((p.fst.1, p.fst.snd.1, (), p.fst.snd.snd.snd.1, ()), p.snd.1, ())))))
 (some (LO.out 2 ((x00, x01, (), x03, ()), x1, ())))
theorem gl_s_l11Table_2 (x00 : CVal) (x01 : List CVal) (x03 : Int) (x1 : List CVal) (R : LO k_s_l11Table_2.T) (h : nl_s_l11Table_2 CC LL x00 x01 x03 x1 = some R) : LL f_s_l11Table 2 lc_s_l11Table_2 [] k_s_l11Table_2 ((x00, x01, (), x03, ()), x1, ()) = some R := loopW (Eq.trans (b := nl_s_l11Table_2 CC LL x00 x01 x03 x1) (by kernel_rfl) h)
noncomputable def nl_l_eqInsS_0 (C : CallT) (L : LoopT) (x00 : List CVal) (x01 : List CVal) (x02 : Int) : Option (LO k_l_eqInsS_0.T) :=
 br (decide (x02 < (↑x00.length : Int)))
 (br (decide (0 ≤ x02) && true)
 (x00[x02.toNat]?.bind fun y =>
 br (CVal.fits true 7 y)
 ((y.sub 0 7).bind fun y =>
 br (decide (0 ≤ x02) && true)
 (x01[x02.toNat]?.bind fun y_1 =>
 br (CVal.fits true 7 y_1)
 ((y_1.sub 0 7).bind fun y_2 =>
 (C f_l_eqIns [AVal.v y, AVal.v y_2] []).bind fun r =>
 r.1.asBool.bind fun b =>
 br (!b) (some (LO.ret (CVal.bool false, [])))
 (L f_l_eqInsS 0 lc_l_eqInsS_0 [] k_l_eqInsS_0
 ((x00, x01, i64.wrap (x02 + 1), ()), ())))
 none)
 none)
 none)
 none)
 (some (LO.out 0 ((x00, x01, x02, ()), ())))
theorem gl_l_eqInsS_0 (x00 : List CVal) (x01 : List CVal) (x02 : Int) (R : LO k_l_eqInsS_0.T) (h : nl_l_eqInsS_0 CC LL x00 x01 x02 = some R) : LL f_l_eqInsS 0 lc_l_eqInsS_0 [] k_l_eqInsS_0 ((x00, x01, x02, ()), ()) = some R := loopW (Eq.trans (b := nl_l_eqInsS_0 CC LL x00 x01 x02) (by kernel_rfl) h)
noncomputable def nl_s_l10Solve_0 (C : CallT) (L : LoopT) (x00 : CVal) (x10 : Int) (x11 : Int) (x12 : Int) (x13 : List CVal) (x15 : Bool) (x2 : List CVal) : Option (LO k_s_l10Solve_0.T) :=
 br x15
 (x00.asFp.bind fun y =>
 (y.1.cell (y.2 + 3)).bind fun c =>
 c.asSl.bind fun xs =>
 (L f_s_l10Solve 2 lc_s_l10Solve_2 [] k_s_l10Solve_2
 ((x00, (), i64.wrap ((↑xs.length : Int) - 1), ()),
 (x10, x11, x12, x13, (), false, ()), x2, ())).bind
 fun r =>
 loK r (fun r => some (LO.ret r)) fun j p =>
 br (j == 2)
 (L f_s_l10Solve 0 lc_s_l10Solve_0 [] k_s_l10Solve_0
 ((p.fst.1, (), ()),
 (p.snd.fst.1, p.snd.fst.snd.1, p.snd.fst.snd.snd.1, p.snd.fst.snd.snd.snd.1, (),
 p.snd.fst.snd.snd.snd.snd.snd.1, ()),
 p.snd.snd.1, ()))
 (br (j == 1)
 (L f_s_l10Solve 0 lc_s_l10Solve_0 [] k_s_l10Solve_0
 ((p.fst.1, (), ()),
 (p.snd.fst.1, p.snd.fst.snd.1, p.snd.fst.snd.snd.1, p.snd.fst.snd.snd.snd.1, (),
 p.snd.fst.snd.snd.snd.snd.snd.1, ()),
 p.snd.snd.1, ()))
 (some
 (LO.out j
 ((p.fst.1, (), ()),
 (p.snd.fst.1, p.snd.fst.snd.1, p.snd.fst.snd.snd.1, p.snd.fst.snd.snd.snd.1, (),
 p.snd.fst.snd.snd.snd.snd.snd.1, ()),
 p.snd.snd.1, ())))))
 (some
 (LO.out 0
 ((x00, (), ()), (x10, x11, x12, x13, (), x15, ()), x2, ())))
theorem gl_s_l10Solve_0 (x00 : CVal) (x10 : Int) (x11 : Int) (x12 : Int) (x13 : List CVal) (x15 : Bool) (x2 : List CVal) (R : LO k_s_l10Solve_0.T) (h : nl_s_l10Solve_0 CC LL x00 x10 x11 x12 x13 x15 x2 = some R) : LL f_s_l10Solve 0 lc_s_l10Solve_0 [] k_s_l10Solve_0 ((x00, (), ()), (x10, x11, x12, x13, (), x15, ()), x2, ()) = some R := loopW (Eq.trans (b := nl_s_l10Solve_0 CC LL x00 x10 x11 x12 x13 x15 x2) (by kernel_rfl) h)
noncomputable def nl_i_clashes_12 (C : CallT) (L : LoopT) (x00 : CVal) (x03 : Int) (x04 : Int) (x2 : List CVal) : Option (LO k_i_clashes_12.T) :=
 br (decide (x04 < x03))
 (x00.asFp.bind fun y =>
 (y.1.cell (y.2 + 1)).bind fun c =>
 (CVal.asInt i64 c).bind fun n =>
 (L f_i_clashes 14 lc_i_clashes_14 [] k_i_clashes_14
 ((x00, (), (), x04, x03, x04, n, 0, ()), ((), ()), x2,
 ())).bind
 fun r =>
 loK r (fun r => some (LO.ret r)) fun j p =>
 br (j == 14)
 (L f_i_clashes 12 lc_i_clashes_12 [] k_i_clashes_12
 ((p.fst.1, (), (), p.fst.snd.snd.snd.snd.1,
 i64.wrap (p.fst.snd.snd.snd.snd.snd.1 + 1), ()),
 ((), ()), p.snd.snd.1, ()))
 (br (j == 13)
 (L f_i_clashes 12 lc_i_clashes_12 [] k_i_clashes_12
 ((p.fst.1, (), (), p.fst.snd.snd.snd.snd.1,
 i64.wrap (p.fst.snd.snd.snd.snd.snd.1 + 1), ()),
 ((), ()), p.snd.snd.1, ()))
 (some
 (LO.out j
 ((p.fst.1, (), (), p.fst.snd.snd.snd.snd.1, p.fst.snd.snd.snd.snd.snd.1,
 ()),
 ((), ()), p.snd.snd.1, ())))))
 (some
 (LO.out 12 ((x00, (), (), x03, x04, ()), ((), ()), x2, ())))
theorem gl_i_clashes_12 (x00 : CVal) (x03 : Int) (x04 : Int) (x2 : List CVal) (R : LO k_i_clashes_12.T) (h : nl_i_clashes_12 CC LL x00 x03 x04 x2 = some R) : LL f_i_clashes 12 lc_i_clashes_12 [] k_i_clashes_12 ((x00, (), (), x03, x04, ()), ((), ()), x2, ()) = some R := loopW (Eq.trans (b := nl_i_clashes_12 CC LL x00 x03 x04 x2) (by kernel_rfl) h)
noncomputable def nl_i_clashes_4 (C : CallT) (L : LoopT) (x00 : CVal) (x03 : List CVal) (x04 : Int) (x06 : List CVal) (x07 : List CVal) (x08 : Int) (x09 : Int) (x010 : List CVal) (x011 : Int) (x012 : Int) (x2 : List CVal) (x30 : Int) (x31 : Int) (x32 : Int) (x33 : Int) (x34 : Int) (x35 : List CVal) (x36 : Int) : Option (LO k_i_clashes_4.T) :=
 br (decide (x012 < x011))
 (br (decide (0 ≤ x012) && true)
 (x010[x012.toNat]?.bind fun y =>
 br (CVal.fits false 1 y)
 ((y.cell 0).bind fun c =>
 (CVal.asInt i64 c).bind fun n =>
 (L f_i_clashes 6 lc_i_clashes_6 [] k_i_clashes_6
 ((x00, (), (), x03, x04, (), x06, n, x07, x08, x09, x010, x011, x012, x06,
 (↑x06.length : Int), 0, ()),
 ((), ()), x2, (x30, x31, x32, x33, x34, x35, x36, ()), ())).bind
 fun r =>
 loK r (fun r => some (LO.ret r)) fun j p =>
 br (j == 6)
 (L f_i_clashes 4 lc_i_clashes_4 [] k_i_clashes_4
 ((p.fst.1, (), (), p.fst.snd.snd.snd.1, p.fst.snd.snd.snd.snd.1, (),
 p.fst.snd.snd.snd.snd.snd.snd.1, p.fst.snd.snd.snd.snd.snd.snd.snd.snd.1,
 p.fst.snd.snd.snd.snd.snd.snd.snd.snd.snd.1, p.fst.snd.snd.snd.snd.snd.snd.snd.snd.snd.snd.1,
 p.fst.snd.snd.snd.snd.snd.snd.snd.snd.snd.snd.snd.1,
 p.fst.snd.snd.snd.snd.snd.snd.snd.snd.snd.snd.snd.snd.1,
 i64.wrap (p.fst.snd.snd.snd.snd.snd.snd.snd.snd.snd.snd.snd.snd.snd.1 + 1),
 ()),
 ((), ()), p.snd.snd.1,
 (p.snd.snd.snd.fst.1, p.snd.snd.snd.fst.snd.1, p.snd.snd.snd.fst.snd.snd.1,
 p.snd.snd.snd.fst.snd.snd.snd.1, p.snd.snd.snd.fst.snd.snd.snd.snd.1,
 p.snd.snd.snd.fst.snd.snd.snd.snd.snd.1, p.snd.snd.snd.fst.snd.snd.snd.snd.snd.snd.1,
 ()),
 ()))
 (br (j == 5)
 (L f_i_clashes 4 lc_i_clashes_4 [] k_i_clashes_4
 ((p.fst.1, (), (), p.fst.snd.snd.snd.1, p.fst.snd.snd.snd.snd.1, (),
 p.fst.snd.snd.snd.snd.snd.snd.1, p.fst.snd.snd.snd.snd.snd.snd.snd.snd.1,
 p.fst.snd.snd.snd.snd.snd.snd.snd.snd.snd.1, p.fst.snd.snd.snd.snd.snd.snd.snd.snd.snd.snd.1,
 p.fst.snd.snd.snd.snd.snd.snd.snd.snd.snd.snd.snd.1,
 p.fst.snd.snd.snd.snd.snd.snd.snd.snd.snd.snd.snd.snd.1,
 i64.wrap (p.fst.snd.snd.snd.snd.snd.snd.snd.snd.snd.snd.snd.snd.snd.1 + 1),
 ()),
 ((), ()), p.snd.snd.1,
 (p.snd.snd.snd.fst.1, p.snd.snd.snd.fst.snd.1, p.snd.snd.snd.fst.snd.snd.1,
 p.snd.snd.snd.fst.snd.snd.snd.1, p.snd.snd.snd.fst.snd.snd.snd.snd.1,
 p.snd.snd.snd.fst.snd.snd.snd.snd.snd.1, p.snd.snd.snd.fst.snd.snd.snd.snd.snd.snd.1,
 ()),
 ()))
 (some
 (LO.out j
 ((p.fst.1, (), (), p.fst.snd.snd.snd.1, p.fst.snd.snd.snd.snd.1, (),
 p.fst.snd.snd.snd.snd.snd.snd.1, p.fst.snd.snd.snd.snd.snd.snd.snd.snd.1,
 p.fst.snd.snd.snd.snd.snd.snd.snd.snd.snd.1,
 p.fst.snd.snd.snd.snd.snd.snd.snd.snd.snd.snd.1,
 p.fst.snd.snd.snd.snd.snd.snd.snd.snd.snd.snd.snd.1,
 p.fst.snd.snd.snd.snd.snd.snd.snd.snd.snd.snd.snd.snd.1,
 p.fst.snd.snd.snd.snd.snd.snd.snd.snd.snd.snd.snd.snd.snd.1, ()),
 ((), ()), p.snd.snd.1,
 (p.snd.snd.snd.fst.1, p.snd.snd.snd.fst.snd.1, p.snd.snd.snd.fst.snd.snd.1,
 p.snd.snd.snd.fst.snd.snd.snd.1, p.snd.snd.snd.fst.snd.snd.snd.snd.1,
 p.snd.snd.snd.fst.snd.snd.snd.snd.snd.1, p.snd.snd.snd.fst.snd.snd.snd.snd.snd.snd.1,
 ()),
 ())))))
 none)
 none)
 (some
 (LO.out 4
 ((x00, (), (), x03, x04, (), x06, x07, x08, x09, x010, x011, x012, ()),
 ((), ()), x2, (x30, x31, x32, x33, x34, x35, x36, ()), ())))
theorem gl_i_clashes_4 (x00 : CVal) (x03 : List CVal) (x04 : Int) (x06 : List CVal) (x07 : List CVal) (x08 : Int) (x09 : Int) (x010 : List CVal) (x011 : Int) (x012 : Int) (x2 : List CVal) (x30 : Int) (x31 : Int) (x32 : Int) (x33 : Int) (x34 : Int) (x35 : List CVal) (x36 : Int) (R : LO k_i_clashes_4.T) (h : nl_i_clashes_4 CC LL x00 x03 x04 x06 x07 x08 x09 x010 x011 x012 x2 x30 x31 x32 x33 x34 x35 x36 = some R) : LL f_i_clashes 4 lc_i_clashes_4 [] k_i_clashes_4 ((x00, (), (), x03, x04, (), x06, x07, x08, x09, x010, x011, x012, ()), ((), ()), x2,
 (x30, x31, x32, x33, x34, x35, x36, ()), ()) = some R := loopW (Eq.trans (b := nl_i_clashes_4 CC LL x00 x03 x04 x06 x07 x08 x09 x010 x011 x012 x2 x30 x31 x32 x33 x34 x35 x36) (by kernel_rfl) h)
noncomputable def nl_s_l10New_0 (C : CallT) (L : LoopT) (x00 : CVal) (x02 : Int) (x10 : Int) (x11 : Int) (x12 : Int) (x13 : List CVal) (x15 : Bool) (x2 : List CVal) : Option (LO k_s_l10New_0.T) :=
 x00.asFp.bind fun y =>
 (y.1.cell (y.2 + 3)).bind fun c =>
 c.asSl.bind fun xs =>
 br (decide (x02 < (↑xs.length : Int)))
 (x00.asFp.bind fun y =>
 (y.1.cell (y.2 + 2)).bind fun c =>
 c.asIdx.bind fun y =>
 c.asIdx.bind fun y_1 =>
 br (decide (0 ≤ y) && decide (y = y_1) && decide (y ≤ 1048576))
 (br (decide (x2.length + 1 ≤ 4294967296) && true && true)
 (L f_s_l10New 0 lc_s_l10New_0 [] k_s_l10New_0
 ((x00, (), i64.wrap (x02 + 1), ()),
 (x10, x11, x12, x13, (), x15, ()),
 x2 ++ [CVal.sl (List.replicate y.toNat (CVal.bool false))], ()))
 none)
 none)
 (some
 (LO.out 0
 ((x00, (), x02, ()), (x10, x11, x12, x13, (), x15, ()), x2, ())))
theorem gl_s_l10New_0 (x00 : CVal) (x02 : Int) (x10 : Int) (x11 : Int) (x12 : Int) (x13 : List CVal) (x15 : Bool) (x2 : List CVal) (R : LO k_s_l10New_0.T) (h : nl_s_l10New_0 CC LL x00 x02 x10 x11 x12 x13 x15 x2 = some R) : LL f_s_l10New 0 lc_s_l10New_0 [] k_s_l10New_0 ((x00, (), x02, ()), (x10, x11, x12, x13, (), x15, ()), x2, ()) = some R := loopW (Eq.trans (b := nl_s_l10New_0 CC LL x00 x02 x10 x11 x12 x13 x15 x2) (by kernel_rfl) h)
noncomputable def nl_i_insOk_0 (C : CallT) (L : LoopT) (x01 : List CVal) (x02 : Int) (x03 : Int) (x10 : Int) (x11 : Int) (x12 : Int) (x13 : Int) (x14 : Int) (x15 : List CVal) (x16 : Int) : Option (LO k_i_insOk_0.T) :=
 br (decide (x03 < x02))
 (br (decide (0 ≤ x03) && true)
 (x01[x03.toNat]?.bind fun y =>
 br (CVal.fits false 1 y)
 ((y.cell 0).bind fun c =>
 (br (!decide (x10 = 14)) (some (true, ()))
 (br (decide (200 < (↑x15.length : Int))) (some (true, ()))
 (br (decide (0 < x03))
 (br (decide (0 ≤ i64.wrap (x03 - 1)) && true)
 (x15[(i64.wrap (x03 - 1)).toNat]?.bind fun y =>
 br (CVal.fits false 1 y)
 ((y.cell 0).bind fun c_1 =>
 (CVal.asInt i64 c_1).bind fun n =>
 (CVal.asInt i64 c).bind fun n_1 => some (decide (n_1 ≤ n), ()))
 none)
 none)
 (some (false, ()))))).bind
 fun y =>
 br y.1 (some (LO.ret (CVal.bool false, [])))
 (L f_i_insOk 0 lc_i_insOk_0 [] k_i_insOk_0
 (((), x01, x02, i64.wrap (x03 + 1), ()),
 (x10, x11, x12, x13, x14, x15, x16, ()), ())))
 none)
 none)
 (some
 (LO.out 0
 (((), x01, x02, x03, ()), (x10, x11, x12, x13, x14, x15, x16, ()), ())))
theorem gl_i_insOk_0 (x01 : List CVal) (x02 : Int) (x03 : Int) (x10 : Int) (x11 : Int) (x12 : Int) (x13 : Int) (x14 : Int) (x15 : List CVal) (x16 : Int) (R : LO k_i_insOk_0.T) (h : nl_i_insOk_0 CC LL x01 x02 x03 x10 x11 x12 x13 x14 x15 x16 = some R) : LL f_i_insOk 0 lc_i_insOk_0 [] k_i_insOk_0 (((), x01, x02, x03, ()), (x10, x11, x12, x13, x14, x15, x16, ()), ()) = some R := loopW (Eq.trans (b := nl_i_insOk_0 CC LL x01 x02 x03 x10 x11 x12 x13 x14 x15 x16) (by kernel_rfl) h)
noncomputable def nl_i_things_0 (C : CallT) (L : LoopT) (x01 : List CVal) (x02 : Int) (x03 : Int) (x1 : List CVal) : Option (LO k_i_things_0.T) :=
 br (decide (x03 < x02))
 (br (decide (0 ≤ x03) && true)
 (x01[x03.toNat]?.bind fun y =>
 br (CVal.fits false 1 y)
 ((y.cell 0).bind fun c =>
 c.asBool.bind fun b =>
 br b
 (br (decide (x1.length + 1 ≤ 4294967296) && true && true)
 (L f_i_things 0 lc_i_things_0 [] k_i_things_0
 (((), x01, x02, i64.wrap (x03 + 1), ()),
 x1 ++ [CVal.int i64 x03], ()))
 none)
 (L f_i_things 0 lc_i_things_0 [] k_i_things_0
 (((), x01, x02, i64.wrap (x03 + 1), ()), x1, ())))
 none)
 none)
 (some (LO.out 0 (((), x01, x02, x03, ()), x1, ())))
theorem gl_i_things_0 (x01 : List CVal) (x02 : Int) (x03 : Int) (x1 : List CVal) (R : LO k_i_things_0.T) (h : nl_i_things_0 CC LL x01 x02 x03 x1 = some R) : LL f_i_things 0 lc_i_things_0 [] k_i_things_0 (((), x01, x02, x03, ()), x1, ()) = some R := loopW (Eq.trans (b := nl_i_things_0 CC LL x01 x02 x03 x1) (by kernel_rfl) h)
noncomputable def nl_s_l10From_0 (C : CallT) (L : LoopT) (x01 : Int) (x02 : Int) (x03 : Int) (x04 : Int) (x10 : Int) (x11 : Int) (x12 : Int) (x13 : List CVal) (x15 : Bool) (x3 : List CVal) : Option (LO k_s_l10From_0.T) :=
 br (decide (x04 < x12))
 ((br (decide (0 ≤ x02) && true)
 (br (decide (x02.toNat < x3.length) && true)
 (x3[x02.toNat]?.bind fun y =>
 (y.cell 0).bind fun c =>
 c.asSl.bind fun xs =>
 br (decide (0 ≤ x04) && true)
 ((x3[x02.toNat]?.bind fun y => (y.cell 0).bind fun c => c.asSl).bind fun y =>
 br (decide (x04.toNat < y.length))
 ((x3[x02.toNat]?.bind fun y => (y.cell 0).bind fun c => c.asSl).bind fun y =>
 y[x04.toNat]?.bind fun y =>
 y.asBool.bind fun b =>
 br b (some (!decide (x04 = x03), ())) (some (false, ())))
 none)
 none)
 none)
 none).bind
 fun y =>
 br y.1
 ((C f_s_l10Set
 [AVal.lptr 0 0, AVal.v (CVal.int i64 x01), AVal.v (CVal.int i64 x04)]
 [PB.box
 [AVal.v (CVal.int i64 x10), AVal.v (CVal.int i64 x11),
 AVal.v (CVal.int i64 x12), AVal.v (CVal.sl x13), AVal.lref 1 0,
 AVal.v (CVal.bool x15)],
 PB.arr (Md.mk true false 0) true 1 x3]).bind
 fun r =>
 r.2[0]?.bind fun y =>
 r.2[1]?.bind fun y_1 =>
 y[0]?.bind fun y_2 =>
 y[1]?.bind fun y_3 =>
 y[2]?.bind fun y_4 =>
 y[3]?.bind fun y_5 =>
 y[4]?.bind fun y_6 =>
 y[5]?.bind fun y =>
 y_6.asSl.bind fun xs =>
 (CVal.asInt i64 y_2).bind fun n =>
 (CVal.asInt i64 y_3).bind fun n_1 =>
 (CVal.asInt i64 y_4).bind fun n_2 =>
 y_5.asSl.bind fun xs_1 =>
 y.asBool.bind fun b =>
 L f_s_l10From 0 lc_s_l10From_0
 [PSh.box [none, none, none, none, some 1, none],
 PSh.arr (Md.mk true false 0) true 1]
 k_s_l10From_0
 (((), x01, x02, x03, i64.wrap (x04 + 1), ()),
 (n, n_1, n_2, xs_1, (), b, ()), (), xs, ()))
 (L f_s_l10From 0 lc_s_l10From_0
 [PSh.box [none, none, none, none, some 1, none], PSh.arr (Md.mk true false 0) true 1]
 k_s_l10From_0
 (((), x01, x02, x03, i64.wrap (x04 + 1), ()),
 (x10, x11, x12, x13, (), x15, ()), (), x3, ())))
 (some
 (LO.out 0
 (((), x01, x02, x03, x04, ()), (x10, x11, x12, x13, (), x15, ()), (), x3,
 ())))
theorem gl_s_l10From_0 (x01 : Int) (x02 : Int) (x03 : Int) (x04 : Int) (x10 : Int) (x11 : Int) (x12 : Int) (x13 : List CVal) (x15 : Bool) (x3 : List CVal) (R : LO k_s_l10From_0.T) (h : nl_s_l10From_0 CC LL x01 x02 x03 x04 x10 x11 x12 x13 x15 x3 = some R) : LL f_s_l10From 0 lc_s_l10From_0 [PSh.box [none, none, none, none, some 1, none], PSh.arr (Md.mk true false 0) true 1] k_s_l10From_0 (((), x01, x02, x03, x04, ()), (x10, x11, x12, x13, (), x15, ()), (), x3, ()) = some R := loopW (Eq.trans (b := nl_s_l10From_0 CC LL x01 x02 x03 x04 x10 x11 x12 x13 x15 x3) (by kernel_rfl) h)
noncomputable def nl_slices_Equal_bool_0 (C : CallT) (L : LoopT) (x00 : List CVal) (x01 : List CVal) (x02 : Int) (x03 : Int) : Option (LO k_slices_Equal_bool_0.T) :=
 br (decide (x03 < x02))
 (br (decide (0 ≤ x03) && true)
 (x00[x03.toNat]?.bind fun y =>
 br (CVal.fits false 1 y)
 ((y.cell 0).bind fun c =>
 br (decide (0 ≤ x03) && true)
 (x01[x03.toNat]?.bind fun y =>
 br (CVal.fits false 1 y)
 ((y.cell 0).bind fun c_1 =>
 c.asBool.bind fun b =>
 c_1.asBool.bind fun b_1 =>
 br (!b == b_1) (some (LO.ret (CVal.bool false, [])))
 (L f_slices_Equal_bool 0 lc_slices_Equal_bool_0 [] k_slices_Equal_bool_0
 ((x00, x01, x02, i64.wrap (x03 + 1), ()), ())))
 none)
 none)
 none)
 none)
 (some (LO.out 0 ((x00, x01, x02, x03, ()), ())))
theorem gl_slices_Equal_bool_0 (x00 : List CVal) (x01 : List CVal) (x02 : Int) (x03 : Int) (R : LO k_slices_Equal_bool_0.T) (h : nl_slices_Equal_bool_0 CC LL x00 x01 x02 x03 = some R) : LL f_slices_Equal_bool 0 lc_slices_Equal_bool_0 [] k_slices_Equal_bool_0 ((x00, x01, x02, x03, ()), ()) = some R := loopW (Eq.trans (b := nl_slices_Equal_bool_0 CC LL x00 x01 x02 x03) (by kernel_rfl) h)
noncomputable def nl_i_wanted_1_0 (C : CallT) (L : LoopT) (x00 : Int) (x02 : List CVal) (x03 : Int) (x04 : Int) (x3 : List CVal) : Option (LO k_i_wanted_1_0.T) :=
 br (decide (x04 < x03))
 (br (decide (0 ≤ x04) && true)
 (x02[x04.toNat]?.bind fun y =>
 br (CVal.fits false 1 y)
 ((y.cell 0).bind fun c =>
 br (decide (0 ≤ x04) && true)
 (br (decide (x04.toNat < x3.length) && true)
 (x3[x04.toNat]?.bind fun y =>
 (y.cell 0).bind fun c_1 =>
 c_1.asBool.bind fun b =>
 br b
 (br (decide (0 ≤ x04) && true)
 (br (decide (x04.toNat < x3.length) && true)
 (x3[x04.toNat]?.bind fun y =>
 br (CVal.fits false 1 y)
 (L f_i_wanted_1 0 lc_i_wanted_1_0
 [PSh.box [some 1], PSh.arr (Md.mk true false 0) true 1]
 k_i_wanted_1_0
 ((x00, (), x02, x03, i64.wrap (x04 + 1), ()),
 ((), ()), (), x3.set x04.toNat (CVal.bool true), ()))
 (br (y.isAgg && decide (1 ≤ y.cells.length))
 (L f_i_wanted_1 0 lc_i_wanted_1_0
 [PSh.box [some 1], PSh.arr (Md.mk true false 0) true 1]
 k_i_wanted_1_0
 ((x00, (), x02, x03, i64.wrap (x04 + 1), ()),
 ((), ()), (),
 x3.set x04.toNat (CVal.agg (CVal.bool true :: List.drop 1 y.cells)),
 ()))
 none))
 none)
 none)
 (c.asBool.bind fun b =>
 br b
 (br (decide (0 ≤ x04) && true)
 (br (decide (x04.toNat < x3.length) && true)
 (x3[x04.toNat]?.bind fun y =>
 br (CVal.fits false 1 y)
 (L f_i_wanted_1 0 lc_i_wanted_1_0
 [PSh.box [some 1], PSh.arr (Md.mk true false 0) true 1]
 k_i_wanted_1_0
 ((x00, (), x02, x03, i64.wrap (x04 + 1), ()),
 ((), ()), (),
 x3.set x04.toNat (CVal.bool !decide (x04 = x00)), ()))
 (br (y.isAgg && decide (1 ≤ y.cells.length))
 (L f_i_wanted_1 0 lc_i_wanted_1_0
 [PSh.box [some 1], PSh.arr (Md.mk true false 0) true 1]
 k_i_wanted_1_0
 ((x00, (), x02, x03, i64.wrap (x04 + 1), ()),
 ((), ()), (),
 x3.set x04.toNat
 (CVal.agg ((CVal.bool !decide (x04 = x00)) :: List.drop 1 y.cells)),
 ()))
 none))
 none)
 none)
 (br (decide (0 ≤ x04) && true)
 (br (decide (x04.toNat < x3.length) && true)
 (x3[x04.toNat]?.bind fun y =>
 br (CVal.fits false 1 y)
 (L f_i_wanted_1 0 lc_i_wanted_1_0
 [PSh.box [some 1], PSh.arr (Md.mk true false 0) true 1]
 k_i_wanted_1_0
 ((x00, (), x02, x03, i64.wrap (x04 + 1), ()),
 ((), ()), (), x3.set x04.toNat (CVal.bool false),
 ()))
 (br (y.isAgg && decide (1 ≤ y.cells.length))
 (L f_i_wanted_1 0 lc_i_wanted_1_0
 [PSh.box [some 1], PSh.arr (Md.mk true false 0) true 1]
 k_i_wanted_1_0
 ((x00, (), x02, x03, i64.wrap (x04 + 1), ()),
 ((), ()), (),
 x3.set x04.toNat (CVal.agg (CVal.bool false :: List.drop 1 y.cells)),
 ()))
 none))
 none)
 none)))
 none)
 none)
 none)
 none)
 (some
 (LO.out 0
 ((x00, (), x02, x03, x04, ()), ((), ()), (), x3, ())))
theorem gl_i_wanted_1_0 (x00 : Int) (x02 : List CVal) (x03 : Int) (x04 : Int) (x3 : List CVal) (R : LO k_i_wanted_1_0.T) (h : nl_i_wanted_1_0 CC LL x00 x02 x03 x04 x3 = some R) : LL f_i_wanted_1 0 lc_i_wanted_1_0 [PSh.box [some 1], PSh.arr (Md.mk true false 0) true 1] k_i_wanted_1_0 ((x00, (), x02, x03, x04, ()), ((), ()), (), x3, ()) = some R := loopW (Eq.trans (b := nl_i_wanted_1_0 CC LL x00 x02 x03 x04 x3) (by kernel_rfl) h)
end Go.Proofs.Ytmjjaoffeajcbaa.Abs
