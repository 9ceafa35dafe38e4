/- What the functions come to in the abstract machine. -/
import Derived.Test.YtegbnddjgifcdaaDoorU1Ann
import Derived.KernelRfl
set_option linter.unusedVariables false
set_option maxRecDepth 100000
namespace Go.Proofs.YtegbnddjgifcdaaDoor.Abs
open Go Go.Proofs Go.IntKind
noncomputable def nf_l_toTerm (C : CallT) (L : LoopT) (a0 : Int) (a1 : Int) (a2 : List UInt8) (a3 : List UInt8) (a40 : Int) (a41 : Int) (a42 : List CVal) (a5 : List CVal) (a6 : List CVal) : Option Ret :=
 (C f_l_toTy [AVal.v (CVal.agg [CVal.int i64 a40, CVal.int i64 a41, CVal.sl a42])] []).bind fun r =>
 br (CVal.isAggN 3 r.1)
 ((r.1.cell 0).bind fun c =>
 (r.1.cell 1).bind fun c_1 =>
 (r.1.cell 2).bind fun c_2 =>
 c_2.asSl.bind fun xs =>
 (C f_l_toTyS [AVal.v (CVal.sl a5)] []).bind fun r =>
 br r.1.isFlat
 (r.1.asSl.bind fun xs_1 =>
 (C f_l_toTermS [AVal.v (CVal.sl a6)] []).bind fun r =>
 br r.1.isFlat
 (r.1.asSl.bind fun xs_2 =>
 (CVal.asInt i64 c).bind fun n =>
 (CVal.asInt i64 c_1).bind fun n_1 =>
 some
 (CVal.agg
 [CVal.int i64 a0, CVal.int i64 a1, CVal.str a2, CVal.str a3,
 CVal.int i64 n, CVal.int i64 n_1, CVal.sl xs, CVal.sl xs_1,
 CVal.sl xs_2],
 []))
 none)
 none)
 none
theorem go_l_toTerm (a0 : Int) (a1 : Int) (a2 : List UInt8) (a3 : List UInt8) (a40 : Int) (a41 : Int) (a42 : List CVal) (a5 : List CVal) (a6 : List CVal) (R : Ret) (h : nf_l_toTerm CC LL a0 a1 a2 a3 a40 a41 a42 a5 a6 = some R) : CC f_l_toTerm [AVal.v
 (CVal.agg
 [CVal.int i64 a0, CVal.int i64 a1, CVal.str a2, CVal.str a3, CVal.int i64 a40,
 CVal.int i64 a41, CVal.sl a42, CVal.sl a5, CVal.sl a6])] [] = some R := fnW (by decide) rfl (Eq.trans (b := nf_l_toTerm CC LL a0 a1 a2 a3 a40 a41 a42 a5 a6) (by kernel_rfl) h)
noncomputable def nf_l_szTy (C : CallT) (L : LoopT) (a0 : Int) (a1 : Int) (a2 : List CVal) (b : Int) : Option Ret :=
 (C f_l_szTyS [AVal.v (CVal.sl a2), AVal.v (CVal.int i64 b)] []).bind fun r =>
 (CVal.asInt i64 r.1).bind fun n =>
 br (decide (n < 0)) (some (CVal.int i64 (-1 : Int), [])) (some (r.1, []))
theorem go_l_szTy (a0 : Int) (a1 : Int) (a2 : List CVal) (b : Int) (R : Ret) (h : nf_l_szTy CC LL a0 a1 a2 b = some R) : CC f_l_szTy [AVal.v (CVal.agg [CVal.int i64 a0, CVal.int i64 a1, CVal.sl a2]), AVal.v (CVal.int i64 b)] [] = some R := fnW (by decide) rfl (Eq.trans (b := nf_l_szTy CC LL a0 a1 a2 b) (by kernel_rfl) h)
noncomputable def nf_l_toTyS (C : CallT) (L : LoopT) (a : List CVal) : Option Ret :=
 br (decide ((↑a.length : Int) = (↑a.length : Int)) && decide ((↑a.length : Int) ≤ 1048576))
 ((L f_l_toTyS 0 lc_l_toTyS_0 [] k_l_toTyS_0
 ((a, (), 0, ()),
 List.replicate (↑a.length : Int).toNat
 (CVal.agg [CVal.int i64 0, CVal.int i64 0, CVal.sl []]),
 ())).bind
 fun r => loK r (fun r => some r) fun j p => br (j == 0) (some (CVal.sl p.snd.1, [])) none)
 none
theorem go_l_toTyS (a : List CVal) (R : Ret) (h : nf_l_toTyS CC LL a = some R) : CC f_l_toTyS [AVal.v (CVal.sl a)] [] = some R := fnW (by decide) rfl (Eq.trans (b := nf_l_toTyS CC LL a) (by kernel_rfl) h)
noncomputable def nf_i_TermOk (C : CallT) (L : LoopT) (a0 : Int) (a1 : Int) (a2 : List UInt8) (a3 : List UInt8) (a40 : Int) (a41 : Int) (a42 : List CVal) (a5 : List CVal) (a6 : List CVal) : Option Ret :=
 (C f_i_termSize
 [AVal.v
 (CVal.agg
 [CVal.int i64 a0, CVal.int i64 a1, CVal.str a2, CVal.str a3, CVal.int i64 a40,
 CVal.int i64 a41, CVal.sl a42, CVal.sl a5, CVal.sl a6])]
 []).bind
 fun r =>
 r.1.asTup.bind fun y =>
 y[0]?.bind fun y =>
 r.1.asTup.bind fun y_1 =>
 y_1[1]?.bind fun y_2 =>
 r.1.asTup.bind fun y_3 =>
 y_3[2]?.bind fun y_4 =>
 (y_4.asBool.bind fun b =>
 br b
 ((CVal.asInt i64 y).bind fun n =>
 br (decide (n ≤ 24))
 ((CVal.asInt i64 y_2).bind fun n => some (decide (n ≤ 150), ()))
 (some (false, ())))
 (some (false, ()))).bind
 fun y => some (CVal.bool y.1, [])
theorem go_i_TermOk (a0 : Int) (a1 : Int) (a2 : List UInt8) (a3 : List UInt8) (a40 : Int) (a41 : Int) (a42 : List CVal) (a5 : List CVal) (a6 : List CVal) (R : Ret) (h : nf_i_TermOk CC LL a0 a1 a2 a3 a40 a41 a42 a5 a6 = some R) : CC f_i_TermOk [AVal.v
 (CVal.agg
 [CVal.int i64 a0, CVal.int i64 a1, CVal.str a2, CVal.str a3, CVal.int i64 a40,
 CVal.int i64 a41, CVal.sl a42, CVal.sl a5, CVal.sl a6])] [] = some R := fnW (by decide) rfl (Eq.trans (b := nf_i_TermOk CC LL a0 a1 a2 a3 a40 a41 a42 a5 a6) (by kernel_rfl) h)
noncomputable def nf_l_eqTermS (C : CallT) (L : LoopT) (a : List CVal) (b : List CVal) : Option Ret :=
 br (!decide ((↑a.length : Int) = (↑b.length : Int))) (some (CVal.bool false, []))
 ((L f_l_eqTermS 0 lc_l_eqTermS_0 [] k_l_eqTermS_0 ((a, b, 0, ()), ())).bind fun r =>
 loK r (fun r => some r) fun j p => br (j == 0) (some (CVal.bool true, [])) none)
theorem go_l_eqTermS (a : List CVal) (b : List CVal) (R : Ret) (h : nf_l_eqTermS CC LL a b = some R) : CC f_l_eqTermS [AVal.v (CVal.sl a), AVal.v (CVal.sl b)] [] = some R := fnW (by decide) rfl (Eq.trans (b := nf_l_eqTermS CC LL a b) (by kernel_rfl) h)
noncomputable def nf_s_l1Text (C : CallT) (L : LoopT) (a0 : Int) (a1 : Int) (a2 : List CVal) : Option Ret :=
 br (decide (0 ≤ a0) && true)
 (br (decide (a0.toNat < 7) && true)
 ([CVal.str [], CVal.str [(105 : UInt8)], CVal.str [(98 : UInt8)], CVal.str [(118 : UInt8)],
 CVal.str [(102 : UInt8)], CVal.str [(112 : UInt8)], CVal.str [(108 : UInt8)]][a0.toNat]?.bind
 fun y =>
 (y.cell 0).bind fun c =>
 c.asStr.bind fun s =>
 br (decide (a0 = 3))
 (br (decide (s.length + 1 ≤ 1152921504606846976))
 ((L f_s_l1Text 0 lc_s_l1Text_0 [] k_s_l1Text_0
 (((), s ++ [UInt8.ofNat (IntKind.u8.wrap (i64.wrap (48 + a1))).toNat],
 0, ()),
 (a0, a1, a2, ()), ())).bind
 fun r => loK r (fun r => some r) fun j p => br (j == 0) (some (CVal.str p.fst.snd.1, [])) none)
 none)
 ((L f_s_l1Text 0 lc_s_l1Text_0 [] k_s_l1Text_0
 (((), s, 0, ()), (a0, a1, a2, ()), ())).bind
 fun r => loK r (fun r => some r) fun j p => br (j == 0) (some (CVal.str p.fst.snd.1, [])) none))
 none)
 none
theorem go_s_l1Text (a0 : Int) (a1 : Int) (a2 : List CVal) (R : Ret) (h : nf_s_l1Text CC LL a0 a1 a2 = some R) : CC f_s_l1Text [AVal.v (CVal.agg [CVal.int i64 a0, CVal.int i64 a1, CVal.sl a2])] [] = some R := fnW (by decide) rfl (Eq.trans (b := nf_s_l1Text CC LL a0 a1 a2) (by kernel_rfl) h)
noncomputable def nf_i_headOk (C : CallT) (L : LoopT) (a0 : Int) (a1 : Int) (a2 : List UInt8) (a3 : List UInt8) (a40 : Int) (a41 : Int) (a42 : List CVal) (a5 : List CVal) (a6 : List CVal) : Option Ret :=
 ((C f_i_parts [AVal.v (CVal.int i64 a0)] []).bind fun r =>
 (CVal.asInt i64 r.1).bind fun n =>
 br (!decide ((↑a6.length : Int) = n)) (some (true, ()))
 ((C f_i_numberOk [AVal.v (CVal.int i64 a0), AVal.v (CVal.int i64 a1)] []).bind fun r =>
 r.1.asBool.bind fun b =>
 br (!b) (some (true, ()))
 ((C f_i_namesOk [AVal.v (CVal.int i64 a0), AVal.v (CVal.str a2), AVal.v (CVal.str a3)] []).bind
 fun r =>
 r.1.asBool.bind fun b =>
 br (!b) (some (true, ()))
 (br (decide (a0 = 7))
 (a6[0]?.bind fun y =>
 br (CVal.fits true 9 y)
 ((y.cell 0).bind fun c =>
 (CVal.asInt i64 c).bind fun n => some (!decide (n = 4), ()))
 none)
 (some (false, ())))))).bind
 fun y =>
 br y.1 (some (CVal.bool false, []))
 (((C f_i_hasT [AVal.v (CVal.int i64 a0)] []).bind fun r =>
 (C f_i_TyOk [AVal.v (CVal.agg [CVal.int i64 a40, CVal.int i64 a41, CVal.sl a42])] []).bind
 fun r_1 =>
 r.1.asBool.bind fun b =>
 r_1.1.asBool.bind fun b_1 =>
 br (!b == b_1) (some (true, ()))
 ((C f_i_hasT [AVal.v (CVal.int i64 a0)] []).bind fun r =>
 r.1.asBool.bind fun b =>
 br (!b)
 ((C f_i_SameTy
 [AVal.v (CVal.agg [CVal.int i64 a40, CVal.int i64 a41, CVal.sl a42]),
 AVal.v
 (CVal.agg
 [CVal.int i64 0, CVal.int i64 0, CVal.sl []])]
 []).bind
 fun r => br (!scalar r.1) none (r.1.asBool.bind fun b => some (!b, ())))
 (some (false, ())))).bind
 fun y =>
 br y.1 (some (CVal.bool false, []))
 (br (decide (a0 = 3))
 ((br (decide ((↑a5.length : Int) ≤ 2))
 ((C f_slices_ContainsFunc_Ty [AVal.v (CVal.sl a5), AVal.v (CVal.func f_i_headOk_1 [])] []).bind fun r =>
 r.1.asBool.bind fun b => some (!b, ()))
 (some (false, ()))).bind
 fun y => some (CVal.bool y.1, []))
 ((br (decide ((↑a5.length : Int) ≤ 0))
 ((C f_slices_ContainsFunc_Ty [AVal.v (CVal.sl a5), AVal.v (CVal.func f_i_headOk_1 [])] []).bind fun r =>
 r.1.asBool.bind fun b => some (!b, ()))
 (some (false, ()))).bind
 fun y => some (CVal.bool y.1, []))))
theorem go_i_headOk (a0 : Int) (a1 : Int) (a2 : List UInt8) (a3 : List UInt8) (a40 : Int) (a41 : Int) (a42 : List CVal) (a5 : List CVal) (a6 : List CVal) (R : Ret) (h : nf_i_headOk CC LL a0 a1 a2 a3 a40 a41 a42 a5 a6 = some R) : CC f_i_headOk [AVal.v
 (CVal.agg
 [CVal.int i64 a0, CVal.int i64 a1, CVal.str a2, CVal.str a3, CVal.int i64 a40,
 CVal.int i64 a41, CVal.sl a42, CVal.sl a5, CVal.sl a6])] [] = some R := fnW (by decide) rfl (Eq.trans (b := nf_i_headOk CC LL a0 a1 a2 a3 a40 a41 a42 a5 a6) (by kernel_rfl) h)
noncomputable def nf_i_tyTokens (C : CallT) (L : LoopT) (a : List CVal) (b0 : Int) (b1 : Int) (b2 : List CVal) : Option Ret :=
 br (decide (0 ≤ b0) && true)
 (br (decide (b0.toNat < 7) && true)
 ([CVal.str [], CVal.str [(105 : UInt8)], CVal.str [(98 : UInt8)], CVal.str [(118 : UInt8)],
 CVal.str [(102 : UInt8)], CVal.str [(112 : UInt8)], CVal.str [(108 : UInt8)]][b0.toNat]?.bind
 fun y =>
 (y.cell 0).bind fun c =>
 c.asStr.bind fun s =>
 br (decide (b0 = 3))
 ((C f_strconv_Itoa [AVal.v (CVal.int i64 b1)] []).bind fun r =>
 r.1.asStr.bind fun s_1 =>
 br (decide (s.length + s_1.length ≤ 1152921504606846976))
 (br (decide (a.length + 1 ≤ 4294967296) && true && true)
 ((L f_i_tyTokens 0 lc_i_tyTokens_0 [PSh.arr (Md.mk true false 0) false 1]
 k_i_tyTokens_0
 (((), b2, (↑b2.length : Int), 0, ()), a ++ [CVal.str (s ++ s_1)],
 ())).bind
 fun r =>
 loK r (fun r => some r) fun j p => br (j == 0) (some (CVal.nilp, [p.snd.1])) none)
 none)
 none)
 (br (decide (a.length + 1 ≤ 4294967296) && true && true)
 ((L f_i_tyTokens 0 lc_i_tyTokens_0 [PSh.arr (Md.mk true false 0) false 1]
 k_i_tyTokens_0
 (((), b2, (↑b2.length : Int), 0, ()), a ++ [CVal.str s], ())).bind
 fun r => loK r (fun r => some r) fun j p => br (j == 0) (some (CVal.nilp, [p.snd.1])) none)
 none))
 none)
 none
theorem go_i_tyTokens (a : List CVal) (b0 : Int) (b1 : Int) (b2 : List CVal) (R : Ret) (h : nf_i_tyTokens CC LL a b0 b1 b2 = some R) : CC f_i_tyTokens [AVal.lref 0 0, AVal.v (CVal.agg [CVal.int i64 b0, CVal.int i64 b1, CVal.sl b2])] [PB.arr (Md.mk true false 0) false 1 a] = some R := fnW (by decide) rfl (Eq.trans (b := nf_i_tyTokens CC LL a b0 b1 b2) (by kernel_rfl) h)
noncomputable def nf_s_l2Name (C : CallT) (L : LoopT) (a : List UInt8) (b : Bool) : Option Ret :=
 ((C f_s_l1In
 [AVal.v (CVal.int i64 (↑a.length : Int)), AVal.v (CVal.int i64 1),
 AVal.v (CVal.int i64 8)]
 []).bind
 fun r =>
 r.1.asBool.bind fun b =>
 br (!b) (some (true, ()))
 (a[0]?.bind fun y =>
 (C f_s_l1In
 [AVal.v (CVal.int i64 (i64.wrap (↑y.toNat : Int))),
 AVal.v (CVal.int i64 97), AVal.v (CVal.int i64 122)]
 []).bind
 fun r => r.1.asBool.bind fun b => some (!b, ()))).bind
 fun y =>
 br y.1 (some (CVal.bool false, []))
 ((L f_s_l2Name 0 lc_s_l2Name_0 [] k_s_l2Name_0 ((a, b, 0, ()), ())).bind fun r =>
 loK r (fun r => some r) fun j p => br (j == 0) (some (CVal.bool true, [])) none)
theorem go_s_l2Name (a : List UInt8) (b : Bool) (R : Ret) (h : nf_s_l2Name CC LL a b = some R) : CC f_s_l2Name [AVal.v (CVal.str a), AVal.v (CVal.bool b)] [] = some R := fnW (by decide) rfl (Eq.trans (b := nf_s_l2Name CC LL a b) (by kernel_rfl) h)
noncomputable def nf_i_numberOk (C : CallT) (L : LoopT) (a : Int) (b : Int) : Option Ret :=
 br (decide (a = 1))
 ((C f_i_in
 [AVal.v (CVal.int i64 b), AVal.v (CVal.int i64 (-1000000 : Int)),
 AVal.v (CVal.int i64 1000000)]
 []).bind
 fun r => some (r.1, []))
 (br (decide (a = 2))
 ((C f_i_in
 [AVal.v (CVal.int i64 b), AVal.v (CVal.int i64 0),
 AVal.v (CVal.int i64 1)]
 []).bind
 fun r => some (r.1, []))
 (br (decide (a = 6))
 ((C f_i_in
 [AVal.v (CVal.int i64 b), AVal.v (CVal.int i64 0),
 AVal.v (CVal.int i64 2)]
 []).bind
 fun r => some (r.1, []))
 (br (decide (a = 7))
 ((C f_i_in
 [AVal.v (CVal.int i64 b), AVal.v (CVal.int i64 0),
 AVal.v (CVal.int i64 2)]
 []).bind
 fun r => some (r.1, []))
 (br (decide (a = 15))
 ((C f_i_in
 [AVal.v (CVal.int i64 b), AVal.v (CVal.int i64 1),
 AVal.v (CVal.int i64 5)]
 []).bind
 fun r => some (r.1, []))
 (some (CVal.bool (decide (b = 0)), []))))))
theorem go_i_numberOk (a : Int) (b : Int) (R : Ret) (h : nf_i_numberOk CC LL a b = some R) : CC f_i_numberOk [AVal.v (CVal.int i64 a), AVal.v (CVal.int i64 b)] [] = some R := fnW (by decide) rfl (Eq.trans (b := nf_i_numberOk CC LL a b) (by kernel_rfl) h)
noncomputable def nf_slices_ContainsFunc_Ty (C : CallT) (L : LoopT) (a : List CVal) (b : CVal) : Option Ret :=
 (C f_slices_IndexFunc_Ty [AVal.v (CVal.sl a), AVal.v b] []).bind fun r =>
 (CVal.asInt i64 r.1).bind fun n => some (CVal.bool (decide (0 ≤ n)), [])
theorem go_slices_ContainsFunc_Ty (a : List CVal) (b : CVal) (R : Ret) (h : nf_slices_ContainsFunc_Ty CC LL a b = some R) : CC f_slices_ContainsFunc_Ty [AVal.v (CVal.sl a), AVal.v b] [] = some R := fnW (by decide) rfl (Eq.trans (b := nf_slices_ContainsFunc_Ty CC LL a b) (by kernel_rfl) h)
noncomputable def nf_i_in (C : CallT) (L : LoopT) (a : Int) (b : Int) (c : Int) : Option Ret :=
 (br (decide (b ≤ a)) (some (decide (a ≤ c), ())) (some (false, ()))).bind fun y =>
 some (CVal.bool y.1, [])
theorem go_i_in (a : Int) (b : Int) (c : Int) (R : Ret) (h : nf_i_in CC LL a b c = some R) : CC f_i_in [AVal.v (CVal.int i64 a), AVal.v (CVal.int i64 b), AVal.v (CVal.int i64 c)] [] = some R := fnW (by decide) rfl (Eq.trans (b := nf_i_in CC LL a b c) (by kernel_rfl) h)
noncomputable def nf_slices_EqualFunc_Ty (C : CallT) (L : LoopT) (a : List CVal) (b : List CVal) (c : CVal) : Option Ret :=
 br (!decide ((↑a.length : Int) = (↑b.length : Int))) (some (CVal.bool false, []))
 ((L f_slices_EqualFunc_Ty 0 lc_slices_EqualFunc_Ty_0 [] k_slices_EqualFunc_Ty_0
 ((b, c, a, (↑a.length : Int), 0, ()), ())).bind
 fun r => loK r (fun r => some r) fun j p => br (j == 0) (some (CVal.bool true, [])) none)
theorem go_slices_EqualFunc_Ty (a : List CVal) (b : List CVal) (c : CVal) (R : Ret) (h : nf_slices_EqualFunc_Ty CC LL a b c = some R) : CC f_slices_EqualFunc_Ty [AVal.v (CVal.sl a), AVal.v (CVal.sl b), AVal.v c] [] = some R := fnW (by decide) rfl (Eq.trans (b := nf_slices_EqualFunc_Ty CC LL a b c) (by kernel_rfl) h)
noncomputable def nl_l_szTyS_0 (C : CallT) (L : LoopT) (x00 : List CVal) (x01 : Int) (x02 : Int) : Option (LO k_l_szTyS_0.T) :=
 br (decide (x02 < (↑x00.length : Int)))
 (br (decide (0 ≤ x02) && true)
 (x00[x02.toNat]?.bind fun y =>
 br (CVal.fits true 3 y)
 ((y.sub 0 3).bind fun y =>
 (C f_l_szTy [AVal.v y, AVal.v (CVal.int i64 x01)] []).bind fun r =>
 (CVal.asInt i64 r.1).bind fun n =>
 br (decide (n < 0)) (some (LO.ret (CVal.int i64 (-1 : Int), [])))
 ((CVal.asInt i64 r.1).bind fun n =>
 L f_l_szTyS 0 lc_l_szTyS_0 [] k_l_szTyS_0
 ((x00, n, i64.wrap (x02 + 1), ()), ())))
 none)
 none)
 (some (LO.out 0 ((x00, x01, x02, ()), ())))
theorem gl_l_szTyS_0 (x00 : List CVal) (x01 : Int) (x02 : Int) (R : LO k_l_szTyS_0.T) (h : nl_l_szTyS_0 CC LL x00 x01 x02 = some R) : LL f_l_szTyS 0 lc_l_szTyS_0 [] k_l_szTyS_0 ((x00, x01, x02, ()), ()) = some R := loopW (Eq.trans (b := nl_l_szTyS_0 CC LL x00 x01 x02) (by kernel_rfl) h)
noncomputable def nl_s_l2Text_3 (C : CallT) (L : LoopT) (x01 : List UInt8) (x02 : Int) (x10 : Int) (x11 : Int) (x12 : List UInt8) (x13 : List UInt8) (x14 : Int) (x15 : Int) (x16 : List CVal) (x17 : List CVal) (x18 : List CVal) : Option (LO k_s_l2Text_3.T) :=
 br (decide (x02 < (↑x18.length : Int)))
 (br (decide (x01.length + 1 ≤ 1152921504606846976))
 (br (decide (0 ≤ x02) && true)
 (x18[x02.toNat]?.bind fun y =>
 br (CVal.fits true 9 y)
 ((y.sub 0 9).bind fun y =>
 (C f_s_l2Text [AVal.v y] []).bind fun r =>
 r.1.asStr.bind fun s =>
 br (decide ((x01 ++ [(32 : UInt8)]).length + s.length ≤ 1152921504606846976))
 (L f_s_l2Text 3 lc_s_l2Text_3 [] k_s_l2Text_3
 (((), x01 ++ [(32 : UInt8)] ++ s, i64.wrap (x02 + 1), ()),
 (x10, x11, x12, x13, x14, x15, x16, x17, x18, ()), ()))
 none)
 none)
 none)
 none)
 (some
 (LO.out 3
 (((), x01, x02, ()), (x10, x11, x12, x13, x14, x15, x16, x17, x18, ()), ())))
theorem gl_s_l2Text_3 (x01 : List UInt8) (x02 : Int) (x10 : Int) (x11 : Int) (x12 : List UInt8) (x13 : List UInt8) (x14 : Int) (x15 : Int) (x16 : List CVal) (x17 : List CVal) (x18 : List CVal) (R : LO k_s_l2Text_3.T) (h : nl_s_l2Text_3 CC LL x01 x02 x10 x11 x12 x13 x14 x15 x16 x17 x18 = some R) : LL f_s_l2Text 3 lc_s_l2Text_3 [] k_s_l2Text_3 (((), x01, x02, ()), (x10, x11, x12, x13, x14, x15, x16, x17, x18, ()), ()) = some R := loopW (Eq.trans (b := nl_s_l2Text_3 CC LL x01 x02 x10 x11 x12 x13 x14 x15 x16 x17 x18) (by kernel_rfl) h)
noncomputable def nl_l_eqTermS_0 (C : CallT) (L : LoopT) (x00 : List CVal) (x01 : List CVal) (x02 : Int) : Option (LO k_l_eqTermS_0.T) :=
 br (decide (x02 < (↑x00.length : Int)))
 (br (decide (0 ≤ x02) && true)
 (x00[x02.toNat]?.bind fun y =>
 br (CVal.fits true 9 y)
 ((y.sub 0 9).bind fun y =>
 br (decide (0 ≤ x02) && true)
 (x01[x02.toNat]?.bind fun y_1 =>
 br (CVal.fits true 9 y_1)
 ((y_1.sub 0 9).bind fun y_2 =>
 (C f_l_eqTerm [AVal.v y, AVal.v y_2] []).bind fun r =>
 r.1.asBool.bind fun b =>
 br (!b) (some (LO.ret (CVal.bool false, [])))
 (L f_l_eqTermS 0 lc_l_eqTermS_0 [] k_l_eqTermS_0
 ((x00, x01, i64.wrap (x02 + 1), ()), ())))
 none)
 none)
 none)
 none)
 (some (LO.out 0 ((x00, x01, x02, ()), ())))
theorem gl_l_eqTermS_0 (x00 : List CVal) (x01 : List CVal) (x02 : Int) (R : LO k_l_eqTermS_0.T) (h : nl_l_eqTermS_0 CC LL x00 x01 x02 = some R) : LL f_l_eqTermS 0 lc_l_eqTermS_0 [] k_l_eqTermS_0 ((x00, x01, x02, ()), ()) = some R := loopW (Eq.trans (b := nl_l_eqTermS_0 CC LL x00 x01 x02) (by kernel_rfl) h)
noncomputable def nl_i_headTokens_1 (C : CallT) (L : LoopT) (x02 : List CVal) (x03 : Int) (x04 : Int) (x10 : Int) (x11 : Int) (x12 : List UInt8) (x13 : List UInt8) (x14 : Int) (x15 : Int) (x16 : List CVal) (x17 : List CVal) (x18 : List CVal) (x2 : List CVal) : Option (LO k_i_headTokens_1.T) :=
 br (decide (x04 < x03))
 (br (decide (0 ≤ x04) && true)
 (x02[x04.toNat]?.bind fun y =>
 br (CVal.fits true 3 y)
 ((y.sub 0 3).bind fun y =>
 br (CVal.isAggN 3 y)
 ((y.cell 0).bind fun c =>
 (y.cell 1).bind fun c_1 =>
 (y.cell 2).bind fun c_2 =>
 (C f_i_tyTokens [AVal.lref 0 0, AVal.v (CVal.agg [c, c_1, c_2])]
 [PB.arr (Md.mk true false 0) false 1 x2]).bind
 fun r =>
 r.2[0]?.bind fun y =>
 L f_i_headTokens 1 lc_i_headTokens_1 [] k_i_headTokens_1
 (((), (), x02, x03, i64.wrap (x04 + 1), ()),
 (x10, x11, x12, x13, x14, x15, x16, x17, x18, ()), y, ()))
 none)
 none)
 none)
 (some
 (LO.out 1
 (((), (), x02, x03, x04, ()), (x10, x11, x12, x13, x14, x15, x16, x17, x18, ()),
 x2, ())))
theorem gl_i_headTokens_1 (x02 : List CVal) (x03 : Int) (x04 : Int) (x10 : Int) (x11 : Int) (x12 : List UInt8) (x13 : List UInt8) (x14 : Int) (x15 : Int) (x16 : List CVal) (x17 : List CVal) (x18 : List CVal) (x2 : List CVal) (R : LO k_i_headTokens_1.T) (h : nl_i_headTokens_1 CC LL x02 x03 x04 x10 x11 x12 x13 x14 x15 x16 x17 x18 x2 = some R) : LL f_i_headTokens 1 lc_i_headTokens_1 [] k_i_headTokens_1 (((), (), x02, x03, x04, ()), (x10, x11, x12, x13, x14, x15, x16, x17, x18, ()), x2, ()) = some R := loopW (Eq.trans (b := nl_i_headTokens_1 CC LL x02 x03 x04 x10 x11 x12 x13 x14 x15 x16 x17 x18 x2) (by kernel_rfl) h)
noncomputable def nl_s_SameTy_0 (C : CallT) (L : LoopT) (x02 : Int) (x10 : Int) (x11 : Int) (x12 : List CVal) (x20 : Int) (x21 : Int) (x22 : List CVal) : Option (LO k_s_SameTy_0.T) :=
 br (decide (x02 < (↑x12.length : Int)))
 (br (decide (0 ≤ x02) && true)
 (x12[x02.toNat]?.bind fun y =>
 br (CVal.fits true 3 y)
 ((y.sub 0 3).bind fun y =>
 br (decide (0 ≤ x02) && true)
 (x22[x02.toNat]?.bind fun y_1 =>
 br (CVal.fits true 3 y_1)
 ((y_1.sub 0 3).bind fun y_2 =>
 (C f_s_SameTy [AVal.v y, AVal.v y_2] []).bind fun r =>
 r.1.asBool.bind fun b =>
 br (!b) (some (LO.ret (CVal.bool false, [])))
 (L f_s_SameTy 0 lc_s_SameTy_0 [] k_s_SameTy_0
 (((), (), i64.wrap (x02 + 1), ()),
 (x10, x11, x12, ()), (x20, x21, x22, ()), ())))
 none)
 none)
 none)
 none)
 (some
 (LO.out 0
 (((), (), x02, ()), (x10, x11, x12, ()), (x20, x21, x22, ()),
 ())))
theorem gl_s_SameTy_0 (x02 : Int) (x10 : Int) (x11 : Int) (x12 : List CVal) (x20 : Int) (x21 : Int) (x22 : List CVal) (R : LO k_s_SameTy_0.T) (h : nl_s_SameTy_0 CC LL x02 x10 x11 x12 x20 x21 x22 = some R) : LL f_s_SameTy 0 lc_s_SameTy_0 [] k_s_SameTy_0 (((), (), x02, ()), (x10, x11, x12, ()), (x20, x21, x22, ()), ()) = some R := loopW (Eq.trans (b := nl_s_SameTy_0 CC LL x02 x10 x11 x12 x20 x21 x22) (by kernel_rfl) h)
noncomputable def nl_slices_EqualFunc_Ty_0 (C : CallT) (L : LoopT) (x00 : List CVal) (x01 : CVal) (x02 : List CVal) (x03 : Int) (x04 : Int) : Option (LO k_slices_EqualFunc_Ty_0.T) :=
 br (decide (x04 < x03))
 (br (decide (0 ≤ x04) && true)
 (x02[x04.toNat]?.bind fun y =>
 br (CVal.fits true 3 y)
 ((y.sub 0 3).bind fun y =>
 br (CVal.isAggN 3 y)
 ((y.cell 0).bind fun c =>
 (y.cell 1).bind fun c_1 =>
 (y.cell 2).bind fun c_2 =>
 br (decide (0 ≤ x04) && true)
 (x00[x04.toNat]?.bind fun y =>
 br (CVal.fits true 3 y)
 ((y.sub 0 3).bind fun y =>
 br (CVal.isAggN 3 y)
 ((y.cell 0).bind fun c_3 =>
 (y.cell 1).bind fun c_4 =>
 (y.cell 2).bind fun c_5 =>
 (C apId
 [AVal.v x01, AVal.v (CVal.agg [c, c_1, c_2]), AVal.v (CVal.agg [c_3, c_4, c_5])]
 []).bind
 fun r =>
 r.1.asBool.bind fun b =>
 br (!b) (some (LO.ret (CVal.bool false, [])))
 (L f_slices_EqualFunc_Ty 0 lc_slices_EqualFunc_Ty_0 []
 k_slices_EqualFunc_Ty_0
 ((x00, x01, x02, x03, i64.wrap (x04 + 1), ()),
 ())))
 none)
 none)
 none)
 none)
 none)
 none)
 (some (LO.out 0 ((x00, x01, x02, x03, x04, ()), ())))
theorem gl_slices_EqualFunc_Ty_0 (x00 : List CVal) (x01 : CVal) (x02 : List CVal) (x03 : Int) (x04 : Int) (R : LO k_slices_EqualFunc_Ty_0.T) (h : nl_slices_EqualFunc_Ty_0 CC LL x00 x01 x02 x03 x04 = some R) : LL f_slices_EqualFunc_Ty 0 lc_slices_EqualFunc_Ty_0 [] k_slices_EqualFunc_Ty_0 ((x00, x01, x02, x03, x04, ()), ()) = some R := loopW (Eq.trans (b := nl_slices_EqualFunc_Ty_0 CC LL x00 x01 x02 x03 x04) (by kernel_rfl) h)
end Go.Proofs.YtegbnddjgifcdaaDoor.Abs
