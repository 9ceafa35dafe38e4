/- What the functions come to in the abstract machine. -/
import Derived.Test.YtmjjaoffeajcbaaF1Ann
import Derived.KernelRfl
set_option linter.unusedVariables false
set_option maxRecDepth 100000
namespace Go.Proofs.Ytmjjaoffeajcbaa.Abs
open Go Go.Proofs Go.IntKind
noncomputable def nf_l_FnSubst (C : CallT) (L : LoopT) (a : List CVal) : Option Ret :=
 (C f_l_big [AVal.v (CVal.sl a)] []).bind fun r =>
 r.1.asBool.bind fun b =>
 br b (some (CVal.bool true, []))
 ((C f_s_DrawSubstTy [AVal.v (CVal.sl a)] []).bind fun r =>
 r.1.asTup.bind fun y =>
 y[0]?.bind fun y =>
 r.1.asTup.bind fun y_1 =>
 y_1[1]?.bind fun y_2 =>
 br (CVal.isAggN 3 y)
 ((y.cell 0).bind fun c =>
 (y.cell 1).bind fun c_1 =>
 (y.cell 2).bind fun c_2 =>
 (C f_i_SubstTy [AVal.v (CVal.agg [c, c_1, c_2]), AVal.v y_2] []).bind fun r =>
 r.1.asTup.bind fun y =>
 y[0]?.bind fun y =>
 r.1.asTup.bind fun y_3 =>
 y_3[1]?.bind fun y_4 =>
 br (CVal.isAggN 3 y)
 ((y.cell 0).bind fun c_3 =>
 (y.cell 1).bind fun c_4 =>
 (y.cell 2).bind fun c_5 =>
 (C f_s_SubstTy [AVal.v (CVal.agg [c, c_1, c_2]), AVal.v y_2] []).bind fun r =>
 r.1.asTup.bind fun y =>
 y[0]?.bind fun y =>
 r.1.asTup.bind fun y_5 =>
 y_5[1]?.bind fun y_6 =>
 br (CVal.isAggN 3 y)
 ((y.cell 0).bind fun c_6 =>
 (y.cell 1).bind fun c_7 =>
 (y.cell 2).bind fun c_8 =>
 (y_4.asBool.bind fun b =>
 y_6.asBool.bind fun b_1 =>
 br (!b == b_1) (some (true, ()))
 (y_4.asBool.bind fun b =>
 some (!b, ()))).bind
 fun y =>
 br y.1
 ((y_4.asBool.bind fun b =>
 y_6.asBool.bind fun b_1 =>
 br (b == b_1)
 ((CVal.asInt i64 c_3).bind fun n =>
 some (decide (n = 0), ()))
 (some (false, ()))).bind
 fun y => some (CVal.bool y.1, []))
 (y_2.asSl.bind fun xs =>
 (CVal.asInt i64 c).bind fun n =>
 (CVal.asInt i64 c_1).bind fun n_1 =>
 c_2.asSl.bind fun xs_1 =>
 (CVal.asInt i64 c_3).bind fun n_2 =>
 (CVal.asInt i64 c_4).bind fun n_3 =>
 c_5.asSl.bind fun xs_2 =>
 (L f_l_FnSubst 0 lc_l_FnSubst_0 []
 k_l_FnSubst_0
 (((), xs, (),
 0, true, 0,
 ()),
 (n, n_1, xs_1, ()),
 (n_2, n_3, xs_2, ()),
 ())).bind
 fun r =>
 loK r (fun r => some r) fun j p =>
 br (j == 0)
 ((C f_i_SubstTy
 [AVal.v
 (CVal.agg
 [CVal.int i64
 p.snd.fst.1,
 CVal.int i64
 p.snd.fst.snd.1,
 CVal.sl
 p.snd.fst.snd.snd.1]),
 AVal.v
 (CVal.sl
 [CVal.agg
 [CVal.int
 i64
 3,
 CVal.int
 i64
 0,
 CVal.sl []],
 CVal.agg
 [CVal.int
 i64
 3,
 CVal.int
 i64
 1,
 CVal.sl []]])]
 []).bind
 fun r =>
 r.1.asTup.bind fun y =>
 y[0]?.bind fun y =>
 r.1.asTup.bind fun y_7 =>
 y_7[1]?.bind
 fun y_8 =>
 br
 (CVal.isAggN 3
 y)
 ((y.cell 0).bind
 fun c =>
 (y.cell
 1).bind
 fun c_9 =>
 (y.cell
 (2 :
 Nat)).bind
 fun c_10 =>
 ((C f_i_TyOk
 [AVal.v
 (CVal.agg
 [CVal.int
 i64
 p.snd.snd.fst.1,
 CVal.int
 i64
 p.snd.snd.fst.snd.1,
 CVal.sl
 p.snd.snd.fst.snd.snd.1])]
 []).bind
 fun r =>
 r.1.asBool.bind
 fun b =>
 br b
 ((C
 f_i_VarsOf
 [AVal.v
 (CVal.agg
 [CVal.int
 i64
 p.snd.snd.fst.1,
 CVal.int
 i64
 p.snd.snd.fst.snd.1,
 CVal.sl
 p.snd.snd.fst.snd.snd.1])]
 []).bind
 fun
 r =>
 (CVal.asInt
 i64
 r.1).bind
 fun
 n =>
 br
 (decide
 (n ≤
 p.fst.snd.snd.snd.1))
 (br
 (!p.fst.snd.snd.snd.snd.1)
 (y_8.asBool.bind
 fun
 b =>
 br
 b
 ((C
 f_i_SameTy
 [AVal.v
 (CVal.agg
 [c,
 c_9,
 c_10]),
 AVal.v
 (CVal.agg
 [CVal.int
 i64
 p.snd.fst.1,
 CVal.int
 i64
 p.snd.fst.snd.1,
 CVal.sl
 p.snd.fst.snd.snd.1])]
 []).bind
 fun
 r =>
 (bif
 true then
 r.1
 else
 CVal.bool
 false).asBool.bind
 fun
 b =>
 some
 (b,
 ()))
 (some
 (false,
 ())))
 ((C
 f_i_Ground
 [AVal.v
 (CVal.agg
 [CVal.int
 i64
 p.snd.snd.fst.1,
 CVal.int
 i64
 p.snd.snd.fst.snd.1,
 CVal.sl
 p.snd.snd.fst.snd.snd.1])]
 []).bind
 fun
 r =>
 (bif
 true then
 bif
 false then
 CVal.bool
 true
 else
 r.1
 else
 CVal.bool
 false).asBool.bind
 fun
 b =>
 br
 b
 (y_8.asBool.bind
 fun
 b =>
 br
 b
 ((C
 f_i_SameTy
 [AVal.v
 (CVal.agg
 [c,
 c_9,
 c_10]),
 AVal.v
 (CVal.agg
 [CVal.int
 i64
 p.snd.fst.1,
 CVal.int
 i64
 p.snd.fst.snd.1,
 CVal.sl
 p.snd.fst.snd.snd.1])]
 []).bind
 fun
 r =>
 (bif
 true then
 r.1
 else
 CVal.bool
 false).asBool.bind
 fun
 b =>
 some
 (b,
 ()))
 (some
 (false,
 ())))
 (some
 (false,
 ()))))
 (some
 (false,
 ())))
 (some
 (false,
 ()))).bind
 fun y =>
 some
 (CVal.bool
 y.1,
 []))
 none)
 none))
 none)
 none)
 none)
theorem go_l_FnSubst (a : List CVal) (R : Ret) (h : nf_l_FnSubst CC LL a = some R) : CC f_l_FnSubst [AVal.v (CVal.sl a)] [] = some R := fnW (by decide) rfl (Eq.trans (b := nf_l_FnSubst CC LL a) (by kernel_rfl) h)
noncomputable def nf_s_SubstTy (C : CallT) (L : LoopT) (a0 : Int) (a1 : Int) (a2 : List CVal) (b : List CVal) : Option Ret :=
 ((C f_s_TyOk [AVal.v (CVal.agg [CVal.int i64 a0, CVal.int i64 a1, CVal.sl a2])] []).bind fun r =>
 r.1.asBool.bind fun b_1 =>
 br (!b_1) (some (true, ()))
 ((C f_s_l1Vars [AVal.v (CVal.agg [CVal.int i64 a0, CVal.int i64 a1, CVal.sl a2])] []).bind
 fun r => (CVal.asInt i64 r.1).bind fun n => some (decide ((↑b.length : Int) < n), ()))).bind
 fun y =>
 br y.1
 (some
 (CVal.tup
 [CVal.agg [CVal.int i64 0, CVal.int i64 0, CVal.sl []], CVal.bool false],
 []))
 ((L f_s_SubstTy 0 lc_s_SubstTy_0 [] k_s_SubstTy_0
 ((b, (), (), 0, ()), (a0, a1, a2, ()),
 (0, 0, (), ()), [], ())).bind
 fun r =>
 loK r (fun r => some r) fun j p =>
 br (j == 0)
 ((C f_s_l1Put
 [AVal.v
 (CVal.agg
 [CVal.int i64 p.snd.fst.1, CVal.int i64 p.snd.fst.snd.1,
 CVal.sl p.snd.fst.snd.snd.1]),
 AVal.v (CVal.sl p.fst.1)]
 []).bind
 fun r =>
 br (CVal.isAggN 3 r.1)
 ((r.1.cell 0).bind fun c =>
 (r.1.cell 1).bind fun c_1 =>
 (r.1.cell 2).bind fun c_2 =>
 (C f_s_TyOk [AVal.v (CVal.agg [c, c_1, c_2])] []).bind fun r =>
 r.1.asBool.bind fun b =>
 br (!b)
 (some
 (CVal.tup
 [CVal.agg [CVal.int i64 0, CVal.int i64 0, CVal.sl []],
 CVal.bool false],
 []))
 (some (CVal.tup [CVal.agg [c, c_1, c_2], CVal.bool true], [])))
 none)
 none)
theorem go_s_SubstTy (a0 : Int) (a1 : Int) (a2 : List CVal) (b : List CVal) (R : Ret) (h : nf_s_SubstTy CC LL a0 a1 a2 b = some R) : CC f_s_SubstTy [AVal.v (CVal.agg [CVal.int i64 a0, CVal.int i64 a1, CVal.sl a2]), AVal.v (CVal.sl b)] [] = some R := fnW (by decide) rfl (Eq.trans (b := nf_s_SubstTy CC LL a0 a1 a2 b) (by kernel_rfl) h)
noncomputable def nf_i_SameTy (C : CallT) (L : LoopT) (a0 : Int) (a1 : Int) (a2 : List CVal) (b0 : Int) (b1 : Int) (b2 : List CVal) : Option Ret :=
 (br (decide (a0 = b0))
 (br (decide (a1 = b1))
 ((C f_slices_EqualFunc_Ty [AVal.v (CVal.sl a2), AVal.v (CVal.sl b2), AVal.v (CVal.func f_i_SameTy [])] []).bind
 fun r => (bif true then r.1 else CVal.bool false).asBool.bind fun b => some (b, ()))
 (some (false, ())))
 (some (false, ()))).bind
 fun y => some (CVal.bool y.1, [])
theorem go_i_SameTy (a0 : Int) (a1 : Int) (a2 : List CVal) (b0 : Int) (b1 : Int) (b2 : List CVal) (R : Ret) (h : nf_i_SameTy CC LL a0 a1 a2 b0 b1 b2 = some R) : CC f_i_SameTy [AVal.v (CVal.agg [CVal.int i64 a0, CVal.int i64 a1, CVal.sl a2]),
 AVal.v (CVal.agg [CVal.int i64 b0, CVal.int i64 b1, CVal.sl b2])] [] = some R := fnW (by decide) rfl (Eq.trans (b := nf_i_SameTy CC LL a0 a1 a2 b0 b1 b2) (by kernel_rfl) h)
noncomputable def nf_slices_ContainsFunc_Ty (C : CallT) (L : LoopT) (a : List CVal) (b : CVal) : Option Ret :=
 (C f_slices_IndexFunc_Ty [AVal.v (CVal.sl a), AVal.v b] []).bind fun r =>
 (CVal.asInt i64 r.1).bind fun n => some (CVal.bool (decide (0 ≤ n)), [])
theorem go_slices_ContainsFunc_Ty (a : List CVal) (b : CVal) (R : Ret) (h : nf_slices_ContainsFunc_Ty CC LL a b = some R) : CC f_slices_ContainsFunc_Ty [AVal.v (CVal.sl a), AVal.v b] [] = some R := fnW (by decide) rfl (Eq.trans (b := nf_slices_ContainsFunc_Ty CC LL a b) (by kernel_rfl) h)
noncomputable def nf_s_l1Vars (C : CallT) (L : LoopT) (a0 : Int) (a1 : Int) (a2 : List CVal) : Option Ret :=
 br (decide (a0 = 3))
 ((L f_s_l1Vars 0 lc_s_l1Vars_0 [] k_s_l1Vars_0
 (((), i64.wrap (a1 + 1), 0, ()), (a0, a1, a2, ()),
 ())).bind
 fun r => loK r (fun r => some r) fun j p => br (j == 0) (some (CVal.int i64 p.fst.snd.1, [])) none)
 ((L f_s_l1Vars 0 lc_s_l1Vars_0 [] k_s_l1Vars_0
 (((), 0, 0, ()), (a0, a1, a2, ()), ())).bind
 fun r => loK r (fun r => some r) fun j p => br (j == 0) (some (CVal.int i64 p.fst.snd.1, [])) none)
theorem go_s_l1Vars (a0 : Int) (a1 : Int) (a2 : List CVal) (R : Ret) (h : nf_s_l1Vars CC LL a0 a1 a2 = some R) : CC f_s_l1Vars [AVal.v (CVal.agg [CVal.int i64 a0, CVal.int i64 a1, CVal.sl a2])] [] = some R := fnW (by decide) rfl (Eq.trans (b := nf_s_l1Vars CC LL a0 a1 a2) (by kernel_rfl) h)
noncomputable def nf_i_Ground_1 (C : CallT) (L : LoopT) (a0 : Int) (a1 : Int) (a2 : List CVal) : Option Ret :=
 some (CVal.bool (decide (a0 = 3)), [])
theorem go_i_Ground_1 (a0 : Int) (a1 : Int) (a2 : List CVal) (R : Ret) (h : nf_i_Ground_1 CC LL a0 a1 a2 = some R) : CC f_i_Ground_1 [AVal.v (CVal.agg [CVal.int i64 a0, CVal.int i64 a1, CVal.sl a2])] [] = some R := fnW (by decide) rfl (Eq.trans (b := nf_i_Ground_1 CC LL a0 a1 a2) (by kernel_rfl) h)
noncomputable def nf_s_l1Once (C : CallT) (L : LoopT) (a0 : List CVal) (a1 : Int) (a2 : Int) (b : Int) : Option Ret :=
 (C f_s_l1Below [AVal.lptr 0 0, AVal.v (CVal.int i64 b)]
 [PB.box [AVal.v (CVal.sl a0), AVal.v (CVal.int i64 a1), AVal.v (CVal.int i64 a2)]]).bind
 fun r =>
 r.2[0]?.bind fun y =>
 y[0]?.bind fun y_1 =>
 y[1]?.bind fun y_2 =>
 y[2]?.bind fun y =>
 (CVal.asInt i64 r.1).bind fun n => some (CVal.bool (decide (n = 0)), [[y_1, y_2, y]])
theorem go_s_l1Once (a0 : List CVal) (a1 : Int) (a2 : Int) (b : Int) (R : Ret) (h : nf_s_l1Once CC LL a0 a1 a2 b = some R) : CC f_s_l1Once [AVal.lptr 0 0, AVal.v (CVal.int i64 b)] [PB.box [AVal.v (CVal.sl a0), AVal.v (CVal.int i64 a1), AVal.v (CVal.int i64 a2)]] = some R := fnW (by decide) rfl (Eq.trans (b := nf_s_l1Once CC LL a0 a1 a2 b) (by kernel_rfl) h)
noncomputable def nf_i_cloneTy (C : CallT) (L : LoopT) (a0 : Int) (a1 : Int) (a2 : List CVal) : Option Ret :=
 (L f_i_cloneTy 0 lc_i_cloneTy_0 [] k_i_cloneTy_0
 (((), (), a2, (↑a2.length : Int), 0, ()),
 (0, 0, (), ()), [], (a0, a1, (), ()), [], ())).bind
 fun r =>
 loK r (fun r => some r) fun j p =>
 br (j == 0)
 (some
 (CVal.agg
 [CVal.int i64 p.snd.snd.snd.fst.1, CVal.int i64 p.snd.snd.snd.fst.snd.1,
 CVal.sl p.snd.snd.snd.snd.1],
 []))
 none
theorem go_i_cloneTy (a0 : Int) (a1 : Int) (a2 : List CVal) (R : Ret) (h : nf_i_cloneTy CC LL a0 a1 a2 = some R) : CC f_i_cloneTy [AVal.v (CVal.agg [CVal.int i64 a0, CVal.int i64 a1, CVal.sl a2])] [] = some R := fnW (by decide) rfl (Eq.trans (b := nf_i_cloneTy CC LL a0 a1 a2) (by kernel_rfl) h)
noncomputable def nf_i_tyParts (C : CallT) (L : LoopT) (a : Int) : Option Ret :=
 br (decide (a = 1)) (some (CVal.int i64 0, []))
 (br (decide (a = 2)) (some (CVal.int i64 0, []))
 (br (decide (a = 3)) (some (CVal.int i64 0, []))
 (br (decide (a = 6)) (some (CVal.int i64 1, []))
 (br (decide (a = 4)) (some (CVal.int i64 2, []))
 (br (decide (a = 5)) (some (CVal.int i64 2, []))
 (some (CVal.int i64 (-1 : Int), [])))))))
theorem go_i_tyParts (a : Int) (R : Ret) (h : nf_i_tyParts CC LL a = some R) : CC f_i_tyParts [AVal.v (CVal.int i64 a)] [] = some R := fnW (by decide) rfl (Eq.trans (b := nf_i_tyParts CC LL a) (by kernel_rfl) h)
noncomputable def nl_l_FnSubst_0 (C : CallT) (L : LoopT) (x01 : List CVal) (x03 : Int) (x04 : Bool) (x05 : Int) (x10 : Int) (x11 : Int) (x12 : List CVal) (x20 : Int) (x21 : Int) (x22 : List CVal) : Option (LO k_l_FnSubst_0.T) :=
 br (decide (x05 < (↑x01.length : Int)))
 (br (decide (0 ≤ x05) && true)
 (x01[x05.toNat]?.bind fun y =>
 br (CVal.fits true 3 y)
 ((y.sub 0 3).bind fun y =>
 (C f_i_VarsOf [AVal.v y] []).bind fun r =>
 (CVal.asInt i64 r.1).bind fun n =>
 br (decide (x03 < n))
 (br (decide (0 ≤ x05) && true)
 (x01[x05.toNat]?.bind fun y =>
 br (CVal.fits true 3 y)
 ((y.sub 0 3).bind fun y =>
 (C f_i_VarsOf [AVal.v y] []).bind fun r =>
 (br x04
 (br (decide (0 ≤ x05) && true)
 (x01[x05.toNat]?.bind fun y =>
 br (CVal.fits true 3 y)
 ((y.sub 0 3).bind fun y =>
 (C f_i_Ground [AVal.v y] []).bind fun r =>
 (bif true then r.1 else CVal.bool false).asBool.bind fun b =>
 some (b, ()))
 none)
 none)
 (some (false, ()))).bind
 fun y =>
 (CVal.asInt i64 r.1).bind fun n =>
 L f_l_FnSubst 0 lc_l_FnSubst_0 [] k_l_FnSubst_0
 (((), x01, (), n, y.1, i64.wrap (x05 + 1), ()),
 (x10, x11, x12, ()), (x20, x21, x22, ()), ()))
 none)
 none)
 ((br x04
 (br (decide (0 ≤ x05) && true)
 (x01[x05.toNat]?.bind fun y =>
 br (CVal.fits true 3 y)
 ((y.sub 0 3).bind fun y =>
 (C f_i_Ground [AVal.v y] []).bind fun r =>
 (bif true then r.1 else CVal.bool false).asBool.bind fun b => some (b, ()))
 none)
 none)
 (some (false, ()))).bind
 fun y =>
 L f_l_FnSubst 0 lc_l_FnSubst_0 [] k_l_FnSubst_0
 (((), x01, (), x03, y.1, i64.wrap (x05 + 1), ()),
 (x10, x11, x12, ()), (x20, x21, x22, ()), ())))
 none)
 none)
 (some
 (LO.out 0
 (((), x01, (), x03, x04, x05, ()), (x10, x11, x12, ()),
 (x20, x21, x22, ()), ())))
theorem gl_l_FnSubst_0 (x01 : List CVal) (x03 : Int) (x04 : Bool) (x05 : Int) (x10 : Int) (x11 : Int) (x12 : List CVal) (x20 : Int) (x21 : Int) (x22 : List CVal) (R : LO k_l_FnSubst_0.T) (h : nl_l_FnSubst_0 CC LL x01 x03 x04 x05 x10 x11 x12 x20 x21 x22 = some R) : LL f_l_FnSubst 0 lc_l_FnSubst_0 [] k_l_FnSubst_0 (((), x01, (), x03, x04, x05, ()), (x10, x11, x12, ()), (x20, x21, x22, ()), ()) = some R := loopW (Eq.trans (b := nl_l_FnSubst_0 CC LL x01 x03 x04 x05 x10 x11 x12 x20 x21 x22) (by kernel_rfl) h)
noncomputable def nl_i_subst_0 (C : CallT) (L : LoopT) (x00 : List CVal) (x03 : List CVal) (x04 : Int) (x05 : Int) (x10 : Int) (x11 : Int) (x2 : List CVal) (x30 : Int) (x31 : Int) (x4 : List CVal) : Option (LO k_i_subst_0.T) :=
 br (decide (x05 < x04))
 (br (decide (0 ≤ x05) && true)
 (x03[x05.toNat]?.bind fun y =>
 br (CVal.fits true 3 y)
 ((y.sub 0 3).bind fun y =>
 br (CVal.isAggN 3 y)
 ((y.cell 0).bind fun c =>
 (y.cell 1).bind fun c_1 =>
 (y.cell 2).bind fun c_2 =>
 (C f_i_subst [AVal.v (CVal.agg [c, c_1, c_2]), AVal.v (CVal.sl x00)] []).bind fun r =>
 br ([r.1].all (CVal.fits true 3))
 (br ([r.1].all (CVal.fits true 3))
 (br (decide (x4.length + 1 ≤ 4294967296) && true && true)
 (L f_i_subst 0 lc_i_subst_0 [] k_i_subst_0
 ((x00, (), (), x03, x04, i64.wrap (x05 + 1), ()),
 (x10, x11, (), ()), x2, (x30, x31, (), ()), x4 ++ [r.1],
 ()))
 none)
 none)
 none)
 none)
 none)
 none)
 (some
 (LO.out 0
 ((x00, (), (), x03, x04, x05, ()), (x10, x11, (), ()), x2,
 (x30, x31, (), ()), x4, ())))
theorem gl_i_subst_0 (x00 : List CVal) (x03 : List CVal) (x04 : Int) (x05 : Int) (x10 : Int) (x11 : Int) (x2 : List CVal) (x30 : Int) (x31 : Int) (x4 : List CVal) (R : LO k_i_subst_0.T) (h : nl_i_subst_0 CC LL x00 x03 x04 x05 x10 x11 x2 x30 x31 x4 = some R) : LL f_i_subst 0 lc_i_subst_0 [] k_i_subst_0 ((x00, (), (), x03, x04, x05, ()), (x10, x11, (), ()), x2, (x30, x31, (), ()), x4, ()) = some R := loopW (Eq.trans (b := nl_i_subst_0 CC LL x00 x03 x04 x05 x10 x11 x2 x30 x31 x4) (by kernel_rfl) h)
noncomputable def nl_i_measure_0 (C : CallT) (L : LoopT) (x00 : Int) (x01 : Int) (x02 : List CVal) (x03 : Int) (x04 : Int) : Option (LO k_i_measure_0.T) :=
 br (decide (x04 < x03))
 (br (decide (0 ≤ x04) && true)
 (x02[x04.toNat]?.bind fun y =>
 br (CVal.fits true 3 y)
 ((y.sub 0 3).bind fun y =>
 br (CVal.isAggN 3 y)
 ((y.cell 0).bind fun c =>
 (y.cell 1).bind fun c_1 =>
 (y.cell 2).bind fun c_2 =>
 (C f_i_measure [AVal.v (CVal.agg [c, c_1, c_2])] []).bind fun r =>
 r.1.asTup.bind fun y =>
 y[0]?.bind fun y =>
 r.1.asTup.bind fun y_1 =>
 y_1[1]?.bind fun y_2 =>
 r.1.asTup.bind fun y_3 =>
 y_3[2]?.bind fun y_4 =>
 y_4.asBool.bind fun b =>
 br (!b)
 (some
 (LO.ret
 (CVal.tup
 [CVal.int i64 0, CVal.int i64 0,
 CVal.bool false],
 [])))
 ((CVal.asInt i64 y).bind fun n =>
 (CVal.asInt i64 y_2).bind fun n_1 =>
 L f_i_measure 0 lc_i_measure_0 [] k_i_measure_0
 ((bif decide (x00 < n) then n else x00, i64.wrap (x01 + n_1), x02,
 x03, i64.wrap (x04 + 1), ()),
 ())))
 none)
 none)
 none)
 (some (LO.out 0 ((x00, x01, x02, x03, x04, ()), ())))
theorem gl_i_measure_0 (x00 : Int) (x01 : Int) (x02 : List CVal) (x03 : Int) (x04 : Int) (R : LO k_i_measure_0.T) (h : nl_i_measure_0 CC LL x00 x01 x02 x03 x04 = some R) : LL f_i_measure 0 lc_i_measure_0 [] k_i_measure_0 ((x00, x01, x02, x03, x04, ()), ()) = some R := loopW (Eq.trans (b := nl_i_measure_0 CC LL x00 x01 x02 x03 x04) (by kernel_rfl) h)
noncomputable def nl_slices_IndexFunc_Ty_0 (C : CallT) (L : LoopT) (x00 : List CVal) (x01 : CVal) (x02 : Int) (x03 : Int) : Option (LO k_slices_IndexFunc_Ty_0.T) :=
 br (decide (x03 < x02))
 (br (decide (0 ≤ x03) && true)
 (x00[x03.toNat]?.bind fun y =>
 br (CVal.fits true 3 y)
 ((y.sub 0 3).bind fun y =>
 (C apId [AVal.v x01, AVal.v y] []).bind fun r =>
 r.1.asBool.bind fun b =>
 br b (some (LO.ret (CVal.int i64 x03, [])))
 (L f_slices_IndexFunc_Ty 0 lc_slices_IndexFunc_Ty_0 [] k_slices_IndexFunc_Ty_0
 ((x00, x01, x02, i64.wrap (x03 + 1), ()), ())))
 none)
 none)
 (some (LO.out 0 ((x00, x01, x02, x03, ()), ())))
theorem gl_slices_IndexFunc_Ty_0 (x00 : List CVal) (x01 : CVal) (x02 : Int) (x03 : Int) (R : LO k_slices_IndexFunc_Ty_0.T) (h : nl_slices_IndexFunc_Ty_0 CC LL x00 x01 x02 x03 = some R) : LL f_slices_IndexFunc_Ty 0 lc_slices_IndexFunc_Ty_0 [] k_slices_IndexFunc_Ty_0 ((x00, x01, x02, x03, ()), ()) = some R := loopW (Eq.trans (b := nl_slices_IndexFunc_Ty_0 CC LL x00 x01 x02 x03) (by kernel_rfl) h)
end Go.Proofs.Ytmjjaoffeajcbaa.Abs
