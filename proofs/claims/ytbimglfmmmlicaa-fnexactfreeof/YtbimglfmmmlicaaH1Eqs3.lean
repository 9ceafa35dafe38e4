/- What the functions come to in the abstract machine. -/
import Derived.Test.YtbimglfmmmlicaaH1Ann
import Derived.KernelRfl
set_option linter.unusedVariables false
set_option maxRecDepth 100000
namespace Go.Proofs.Ytbimglfmmmlicaa.Abs
open Go Go.Proofs
noncomputable def nf_s_FreeOf (C : CallT) (L : LoopT) (a0 : Int) (a1 : Int) (a2 : List UInt8) (a3 : List UInt8) (a40 : Int) (a41 : Int) (a42 : List CVal) (a5 : List CVal) (a6 : List CVal) : Option Ret :=
 (C f_s_TermOk
 [AVal.v
 (CVal.agg
 [CVal.int IntKind.i64 a0, CVal.int IntKind.i64 a1, CVal.str a2, CVal.str a3, CVal.int IntKind.i64 a40,
 CVal.int IntKind.i64 a41, CVal.sl a42, CVal.sl a5, CVal.sl a6])]
 []).bind
 fun r =>
 r.1.asBool.bind fun b =>
 br (!b) (some (CVal.sl [], []))
 ((C f_s_l2Free
 [AVal.v
 (CVal.agg
 [CVal.int IntKind.i64 a0, CVal.int IntKind.i64 a1, CVal.str a2, CVal.str a3, CVal.int IntKind.i64 a40,
 CVal.int IntKind.i64 a41, CVal.sl a42, CVal.sl a5, CVal.sl a6]),
 AVal.v (CVal.sl []), AVal.lref (0 : Nat) (0 : Nat)]
 [PB.arr (Md.mk true false (0 : Nat)) false (1 : Nat) []]).bind
 fun r => r.2[(0 : Nat)]?.bind fun y => some (CVal.sl y, []))
theorem eq_s_FreeOf (C : CallT) (L : LoopT) (a0 : Int) (a1 : Int) (a2 : List UInt8) (a3 : List UInt8) (a40 : Int) (a41 : Int) (a42 : List CVal) (a5 : List CVal) (a6 : List CVal) : evF E N C L f_s_FreeOf [AVal.v
 (CVal.agg
 [CVal.int IntKind.i64 a0, CVal.int IntKind.i64 a1, CVal.str a2, CVal.str a3, CVal.int IntKind.i64 a40,
 CVal.int IntKind.i64 a41, CVal.sl a42, CVal.sl a5, CVal.sl a6])] [] = nf_s_FreeOf C L a0 a1 a2 a3 a40 a41 a42 a5 a6 := by kernel_rfl
theorem go_s_FreeOf (a0 : Int) (a1 : Int) (a2 : List UInt8) (a3 : List UInt8) (a40 : Int) (a41 : Int) (a42 : List CVal) (a5 : List CVal) (a6 : List CVal) (R : Ret) (h : nf_s_FreeOf CC LL a0 a1 a2 a3 a40 a41 a42 a5 a6 = some R) : CC f_s_FreeOf [AVal.v
 (CVal.agg
 [CVal.int IntKind.i64 a0, CVal.int IntKind.i64 a1, CVal.str a2, CVal.str a3, CVal.int IntKind.i64 a40,
 CVal.int IntKind.i64 a41, CVal.sl a42, CVal.sl a5, CVal.sl a6])] [] = some R := fnW (by decide) rfl ((eq_s_FreeOf CC LL a0 a1 a2 a3 a40 a41 a42 a5 a6).trans h)
noncomputable def nf_l_heldStringS (C : CallT) (L : LoopT) (a : List CVal) (b : Int) : Option Ret :=
 (L f_l_heldStringS (0 : Nat) lc_l_heldStringS_0 [] k_l_heldStringS_0 ((a, b, (0 : Int), PUnit.unit), PUnit.unit)).bind
 fun r => loK r (fun r => some r) fun j p => br (j == (0 : Nat)) (some (CVal.int IntKind.i64 p.fst.snd.1, [])) none
theorem eq_l_heldStringS (C : CallT) (L : LoopT) (a : List CVal) (b : Int) : evF E N C L f_l_heldStringS [AVal.v (CVal.sl a), AVal.v (CVal.int IntKind.i64 b)] [] = nf_l_heldStringS C L a b := by kernel_rfl
theorem go_l_heldStringS (a : List CVal) (b : Int) (R : Ret) (h : nf_l_heldStringS CC LL a b = some R) : CC f_l_heldStringS [AVal.v (CVal.sl a), AVal.v (CVal.int IntKind.i64 b)] [] = some R := fnW (by decide) rfl ((eq_l_heldStringS CC LL a b).trans h)
noncomputable def nf_l_toTermS (C : CallT) (L : LoopT) (a : List CVal) : Option Ret :=
 br (decide ((↑a.length : Int) = (↑a.length : Int)) && decide ((↑a.length : Int) ≤ (1048576 : Int)))
 ((L f_l_toTermS (0 : Nat) lc_l_toTermS_0 [] k_l_toTermS_0
 ((a, PUnit.unit, (0 : Int), PUnit.unit),
 List.replicate (↑a.length : Int).toNat
 (CVal.agg
 [CVal.int IntKind.i64 (0 : Int), CVal.int IntKind.i64 (0 : Int), CVal.str [], CVal.str [],
 CVal.int IntKind.i64 (0 : Int), CVal.int IntKind.i64 (0 : Int), CVal.sl [], CVal.sl [], CVal.sl []]),
 PUnit.unit)).bind
 fun r => loK r (fun r => some r) fun j p => br (j == (0 : Nat)) (some (CVal.sl p.snd.1, [])) none)
 none
theorem eq_l_toTermS (C : CallT) (L : LoopT) (a : List CVal) : evF E N C L f_l_toTermS [AVal.v (CVal.sl a)] [] = nf_l_toTermS C L a := by kernel_rfl
theorem go_l_toTermS (a : List CVal) (R : Ret) (h : nf_l_toTermS CC LL a = some R) : CC f_l_toTermS [AVal.v (CVal.sl a)] [] = some R := fnW (by decide) rfl ((eq_l_toTermS CC LL a).trans h)
noncomputable def nf_l_eqTyS (C : CallT) (L : LoopT) (a : List CVal) (b : List CVal) : Option Ret :=
 br (!decide ((↑a.length : Int) = (↑b.length : Int))) (some (CVal.bool false, []))
 ((L f_l_eqTyS (0 : Nat) lc_l_eqTyS_0 [] k_l_eqTyS_0 ((a, b, (0 : Int), PUnit.unit), PUnit.unit)).bind fun r =>
 loK r (fun r => some r) fun j p => br (j == (0 : Nat)) (some (CVal.bool true, [])) none)
theorem eq_l_eqTyS (C : CallT) (L : LoopT) (a : List CVal) (b : List CVal) : evF E N C L f_l_eqTyS [AVal.v (CVal.sl a), AVal.v (CVal.sl b)] [] = nf_l_eqTyS C L a b := by kernel_rfl
theorem go_l_eqTyS (a : List CVal) (b : List CVal) (R : Ret) (h : nf_l_eqTyS CC LL a b = some R) : CC f_l_eqTyS [AVal.v (CVal.sl a), AVal.v (CVal.sl b)] [] = some R := fnW (by decide) rfl ((eq_l_eqTyS CC LL a b).trans h)
noncomputable def nf_s_l2Look (C : CallT) (L : LoopT) (a0 : Int) (a1 : Int) (a2 : List UInt8) (a3 : List UInt8) (a40 : Int) (a41 : Int) (a42 : List CVal) (a5 : List CVal) (a6 : List CVal) (b : Int) (c : Int) : Option Ret :=
 (br (decide (b = (0 : Int))) (some (true, PUnit.unit))
 (br (decide ((150 : Int) < IntKind.i64.wrap (c + (1 : Int)))) (some (true, PUnit.unit))
 ((C f_s_l2One
 [AVal.v
 (CVal.agg
 [CVal.int IntKind.i64 a0, CVal.int IntKind.i64 a1, CVal.str a2, CVal.str a3,
 CVal.int IntKind.i64 a40, CVal.int IntKind.i64 a41, CVal.sl a42, CVal.sl a5, CVal.sl a6])]
 []).bind
 fun r => r.1.asBool.bind fun b => some (!b, PUnit.unit)))).bind
 fun y =>
 br y.1 (some (CVal.bool false, [[CVal.int IntKind.i64 (IntKind.i64.wrap (c + (1 : Int)))]]))
 ((L f_s_l2Look (0 : Nat) lc_s_l2Look_0 [PSh.box [none]] k_s_l2Look_0
 ((b, PUnit.unit, PUnit.unit, (0 : Int), PUnit.unit), (IntKind.i64.wrap (c + (1 : Int)), PUnit.unit),
 (a0, a1, a2, a3, a40, a41, a42, a5, a6, PUnit.unit), PUnit.unit)).bind
 fun r =>
 loK r (fun r => some r) fun j p =>
 br (j == (0 : Nat)) (some (CVal.bool true, [[CVal.int IntKind.i64 p.snd.fst.1]])) none)
theorem eq_s_l2Look (C : CallT) (L : LoopT) (a0 : Int) (a1 : Int) (a2 : List UInt8) (a3 : List UInt8) (a40 : Int) (a41 : Int) (a42 : List CVal) (a5 : List CVal) (a6 : List CVal) (b : Int) (c : Int) : evF E N C L f_s_l2Look [AVal.v
 (CVal.agg
 [CVal.int IntKind.i64 a0, CVal.int IntKind.i64 a1, CVal.str a2, CVal.str a3, CVal.int IntKind.i64 a40,
 CVal.int IntKind.i64 a41, CVal.sl a42, CVal.sl a5, CVal.sl a6]),
 AVal.v (CVal.int IntKind.i64 b), AVal.lptr (0 : Nat) (0 : Nat)] [PB.box [AVal.v (CVal.int IntKind.i64 c)]] = nf_s_l2Look C L a0 a1 a2 a3 a40 a41 a42 a5 a6 b c := by kernel_rfl
theorem go_s_l2Look (a0 : Int) (a1 : Int) (a2 : List UInt8) (a3 : List UInt8) (a40 : Int) (a41 : Int) (a42 : List CVal) (a5 : List CVal) (a6 : List CVal) (b : Int) (c : Int) (R : Ret) (h : nf_s_l2Look CC LL a0 a1 a2 a3 a40 a41 a42 a5 a6 b c = some R) : CC f_s_l2Look [AVal.v
 (CVal.agg
 [CVal.int IntKind.i64 a0, CVal.int IntKind.i64 a1, CVal.str a2, CVal.str a3, CVal.int IntKind.i64 a40,
 CVal.int IntKind.i64 a41, CVal.sl a42, CVal.sl a5, CVal.sl a6]),
 AVal.v (CVal.int IntKind.i64 b), AVal.lptr (0 : Nat) (0 : Nat)] [PB.box [AVal.v (CVal.int IntKind.i64 c)]] = some R := fnW (by decide) rfl ((eq_s_l2Look CC LL a0 a1 a2 a3 a40 a41 a42 a5 a6 b c).trans h)
noncomputable def nf_slices_Concat_string (C : CallT) (L : LoopT) (a : List CVal) : Option Ret :=
 (L f_slices_Concat_string (0 : Nat) lc_slices_Concat_string_0 [] k_slices_Concat_string_0
 ((a, (0 : Int), a, (↑a.length : Int), (0 : Int), PUnit.unit), PUnit.unit)).bind
 fun r =>
 loK r (fun r => some r) fun j p =>
 br (j == (0 : Nat))
 ((C f_slices_Grow_string [AVal.nl, AVal.v (CVal.int IntKind.i64 p.fst.snd.1)] []).bind fun r =>
 br r.1.isFlat
 (r.1.asSl.bind fun xs =>
 (L f_slices_Concat_string (2 : Nat) lc_slices_Concat_string_2 [] k_slices_Concat_string_2
 ((PUnit.unit, p.fst.1, (↑(List.length p.fst.1) : Int), (0 : Int), PUnit.unit), xs, PUnit.unit)).bind
 fun r => loK r (fun r => some r) fun j p => br (j == (2 : Nat)) (some (CVal.sl p.snd.1, [])) none)
 none)
 none
theorem eq_slices_Concat_string (C : CallT) (L : LoopT) (a : List CVal) : evF E N C L f_slices_Concat_string [AVal.v (CVal.sl a)] [] = nf_slices_Concat_string C L a := by kernel_rfl
theorem go_slices_Concat_string (a : List CVal) (R : Ret) (h : nf_slices_Concat_string CC LL a = some R) : CC f_slices_Concat_string [AVal.v (CVal.sl a)] [] = some R := fnW (by decide) rfl ((eq_slices_Concat_string CC LL a).trans h)
noncomputable def nf_s_l2Name (C : CallT) (L : LoopT) (a : List UInt8) (b : Bool) : Option Ret :=
 ((C f_s_l1In
 [AVal.v (CVal.int IntKind.i64 (↑a.length : Int)), AVal.v (CVal.int IntKind.i64 (1 : Int)),
 AVal.v (CVal.int IntKind.i64 (8 : Int))]
 []).bind
 fun r =>
 r.1.asBool.bind fun b =>
 br (!b) (some (true, PUnit.unit))
 (a[(0 : Nat)]?.bind fun y =>
 (C f_s_l1In
 [AVal.v (CVal.int IntKind.i64 (IntKind.i64.wrap (↑y.toNat : Int))),
 AVal.v (CVal.int IntKind.i64 (97 : Int)), AVal.v (CVal.int IntKind.i64 (122 : Int))]
 []).bind
 fun r => r.1.asBool.bind fun b => some (!b, PUnit.unit))).bind
 fun y =>
 br y.1 (some (CVal.bool false, []))
 ((L f_s_l2Name (0 : Nat) lc_s_l2Name_0 [] k_s_l2Name_0 ((a, b, (0 : Int), PUnit.unit), PUnit.unit)).bind fun r =>
 loK r (fun r => some r) fun j p => br (j == (0 : Nat)) (some (CVal.bool true, [])) none)
theorem eq_s_l2Name (C : CallT) (L : LoopT) (a : List UInt8) (b : Bool) : evF E N C L f_s_l2Name [AVal.v (CVal.str a), AVal.v (CVal.bool b)] [] = nf_s_l2Name C L a b := by kernel_rfl
theorem go_s_l2Name (a : List UInt8) (b : Bool) (R : Ret) (h : nf_s_l2Name CC LL a b = some R) : CC f_s_l2Name [AVal.v (CVal.str a), AVal.v (CVal.bool b)] [] = some R := fnW (by decide) rfl ((eq_s_l2Name CC LL a b).trans h)
noncomputable def nf_i_hasT (C : CallT) (L : LoopT) (a : Int) : Option Ret :=
 (br (decide (a = (4 : Int))) (some (true, PUnit.unit))
 (br (decide (a = (7 : Int))) (some (true, PUnit.unit))
 (br (decide (a = (12 : Int))) (some (true, PUnit.unit)) (some (decide (a = (16 : Int)), PUnit.unit))))).bind
 fun y => some (CVal.bool y.1, [])
theorem eq_i_hasT (C : CallT) (L : LoopT) (a : Int) : evF E N C L f_i_hasT [AVal.v (CVal.int IntKind.i64 a)] [] = nf_i_hasT C L a := by kernel_rfl
theorem go_i_hasT (a : Int) (R : Ret) (h : nf_i_hasT CC LL a = some R) : CC f_i_hasT [AVal.v (CVal.int IntKind.i64 a)] [] = some R := fnW (by decide) rfl ((eq_i_hasT CC LL a).trans h)
noncomputable def nf_s_l1Look (C : CallT) (L : LoopT) (a0 : Int) (a1 : Int) (a2 : List CVal) (b : Int) (c : Int) : Option Ret :=
 (br (decide (b = (0 : Int))) (some (true, PUnit.unit))
 (br (decide ((60 : Int) < IntKind.i64.wrap (c + (1 : Int)))) (some (true, PUnit.unit))
 ((C f_s_l1Args [AVal.v (CVal.int IntKind.i64 a0)] []).bind fun r =>
 (CVal.asInt IntKind.i64 r.1).bind fun n =>
 br (!decide ((↑a2.length : Int) = n)) (some (true, PUnit.unit))
 (br (decide (a0 = (3 : Int)))
 ((C f_s_l1In
 [AVal.v (CVal.int IntKind.i64 a1), AVal.v (CVal.int IntKind.i64 (0 : Int)),
 AVal.v (CVal.int IntKind.i64 (1 : Int))]
 []).bind
 fun r =>
 r.1.asBool.bind fun b =>
 br (!b) (some (true, PUnit.unit))
 (br (!decide (a0 = (3 : Int))) (some (!decide (a1 = (0 : Int)), PUnit.unit))
 (some (false, PUnit.unit))))
 (br (!decide (a0 = (3 : Int))) (some (!decide (a1 = (0 : Int)), PUnit.unit))
 (some (false, PUnit.unit))))))).bind
 fun y =>
 br y.1 (some (CVal.bool false, [[CVal.int IntKind.i64 (IntKind.i64.wrap (c + (1 : Int)))]]))
 ((L f_s_l1Look (0 : Nat) lc_s_l1Look_0 [PSh.box [none]] k_s_l1Look_0
 ((b, PUnit.unit, PUnit.unit, (0 : Int), PUnit.unit), (IntKind.i64.wrap (c + (1 : Int)), PUnit.unit),
 (a0, a1, a2, PUnit.unit), PUnit.unit)).bind
 fun r =>
 loK r (fun r => some r) fun j p =>
 br (j == (0 : Nat)) (some (CVal.bool true, [[CVal.int IntKind.i64 p.snd.fst.1]])) none)
theorem eq_s_l1Look (C : CallT) (L : LoopT) (a0 : Int) (a1 : Int) (a2 : List CVal) (b : Int) (c : Int) : evF E N C L f_s_l1Look [AVal.v (CVal.agg [CVal.int IntKind.i64 a0, CVal.int IntKind.i64 a1, CVal.sl a2]), AVal.v (CVal.int IntKind.i64 b),
 AVal.lptr (0 : Nat) (0 : Nat)] [PB.box [AVal.v (CVal.int IntKind.i64 c)]] = nf_s_l1Look C L a0 a1 a2 b c := by kernel_rfl
theorem go_s_l1Look (a0 : Int) (a1 : Int) (a2 : List CVal) (b : Int) (c : Int) (R : Ret) (h : nf_s_l1Look CC LL a0 a1 a2 b c = some R) : CC f_s_l1Look [AVal.v (CVal.agg [CVal.int IntKind.i64 a0, CVal.int IntKind.i64 a1, CVal.sl a2]), AVal.v (CVal.int IntKind.i64 b),
 AVal.lptr (0 : Nat) (0 : Nat)] [PB.box [AVal.v (CVal.int IntKind.i64 c)]] = some R := fnW (by decide) rfl ((eq_s_l1Look CC LL a0 a1 a2 b c).trans h)
noncomputable def nf_slices_IndexFunc_Ty (C : CallT) (L : LoopT) (a : List CVal) (b : CVal) : Option Ret :=
 (L f_slices_IndexFunc_Ty (0 : Nat) lc_slices_IndexFunc_Ty_0 [] k_slices_IndexFunc_Ty_0
 ((a, b, (↑a.length : Int), (0 : Int), PUnit.unit), PUnit.unit)).bind
 fun r => loK r (fun r => some r) fun j p => br (j == (0 : Nat)) (some (CVal.int IntKind.i64 (-1 : Int), [])) none
theorem eq_slices_IndexFunc_Ty (C : CallT) (L : LoopT) (a : List CVal) (b : CVal) : evF E N C L f_slices_IndexFunc_Ty [AVal.v (CVal.sl a), AVal.v b] [] = nf_slices_IndexFunc_Ty C L a b := by kernel_rfl
theorem go_slices_IndexFunc_Ty (a : List CVal) (b : CVal) (R : Ret) (h : nf_slices_IndexFunc_Ty CC LL a b = some R) : CC f_slices_IndexFunc_Ty [AVal.v (CVal.sl a), AVal.v b] [] = some R := fnW (by decide) rfl ((eq_slices_IndexFunc_Ty CC LL a b).trans h)
noncomputable def nl_l_szTyS_0 (C : CallT) (L : LoopT) (x00 : List CVal) (x01 : Int) (x02 : Int) : Option (LO k_l_szTyS_0.T) :=
 br (decide (x02 < (↑x00.length : Int)))
 (br (decide ((0 : Int) ≤ x02) && true)
 (x00[x02.toNat]?.bind fun y =>
 br (CVal.fits true (3 : Nat) y)
 ((y.sub (0 : Nat) (3 : Nat)).bind fun y =>
 (C f_l_szTy [AVal.v y, AVal.v (CVal.int IntKind.i64 x01)] []).bind fun r =>
 (CVal.asInt IntKind.i64 r.1).bind fun n =>
 br (decide (n < (0 : Int))) (some (LO.ret (CVal.int IntKind.i64 (-1 : Int), [])))
 ((CVal.asInt IntKind.i64 r.1).bind fun n =>
 L f_l_szTyS (0 : Nat) lc_l_szTyS_0 [] k_l_szTyS_0
 ((x00, n, IntKind.i64.wrap (x02 + (1 : Int)), PUnit.unit), PUnit.unit)))
 none)
 none)
 (some (LO.out (0 : Nat) ((x00, x01, x02, PUnit.unit), PUnit.unit)))
theorem el_l_szTyS_0 (C : CallT) (L : LoopT) (x00 : List CVal) (x01 : Int) (x02 : Int) : evL E N C L f_l_szTyS 0 lc_l_szTyS_0 [] k_l_szTyS_0 ((x00, x01, x02, ()), ()) = nl_l_szTyS_0 C L x00 x01 x02 := by kernel_rfl
theorem gl_l_szTyS_0 (x00 : List CVal) (x01 : Int) (x02 : Int) (R : LO k_l_szTyS_0.T) (h : nl_l_szTyS_0 CC LL x00 x01 x02 = some R) : LL f_l_szTyS 0 lc_l_szTyS_0 [] k_l_szTyS_0 ((x00, x01, x02, ()), ()) = some R := loopW ((el_l_szTyS_0 CC LL x00 x01 x02).trans h)
noncomputable def nl_l_eqTyS_0 (C : CallT) (L : LoopT) (x00 : List CVal) (x01 : List CVal) (x02 : Int) : Option (LO k_l_eqTyS_0.T) :=
 br (decide (x02 < (↑x00.length : Int)))
 (br (decide ((0 : Int) ≤ x02) && true)
 (x00[x02.toNat]?.bind fun y =>
 br (CVal.fits true (3 : Nat) y)
 ((y.sub (0 : Nat) (3 : Nat)).bind fun y =>
 br (decide ((0 : Int) ≤ x02) && true)
 (x01[x02.toNat]?.bind fun y_1 =>
 br (CVal.fits true (3 : Nat) y_1)
 ((y_1.sub (0 : Nat) (3 : Nat)).bind fun y_2 =>
 (C f_l_eqTy [AVal.v y, AVal.v y_2] []).bind fun r =>
 r.1.asBool.bind fun b =>
 br (!b) (some (LO.ret (CVal.bool false, [])))
 (L f_l_eqTyS (0 : Nat) lc_l_eqTyS_0 [] k_l_eqTyS_0
 ((x00, x01, IntKind.i64.wrap (x02 + (1 : Int)), PUnit.unit), PUnit.unit)))
 none)
 none)
 none)
 none)
 (some (LO.out (0 : Nat) ((x00, x01, x02, PUnit.unit), PUnit.unit)))
theorem el_l_eqTyS_0 (C : CallT) (L : LoopT) (x00 : List CVal) (x01 : List CVal) (x02 : Int) : evL E N C L f_l_eqTyS 0 lc_l_eqTyS_0 [] k_l_eqTyS_0 ((x00, x01, x02, ()), ()) = nl_l_eqTyS_0 C L x00 x01 x02 := by kernel_rfl
theorem gl_l_eqTyS_0 (x00 : List CVal) (x01 : List CVal) (x02 : Int) (R : LO k_l_eqTyS_0.T) (h : nl_l_eqTyS_0 CC LL x00 x01 x02 = some R) : LL f_l_eqTyS 0 lc_l_eqTyS_0 [] k_l_eqTyS_0 ((x00, x01, x02, ()), ()) = some R := loopW ((el_l_eqTyS_0 CC LL x00 x01 x02).trans h)
noncomputable def nl_s_l2Has_0 (C : CallT) (L : LoopT) (x00 : List CVal) (x01 : List UInt8) (x02 : Int) : Option (LO k_s_l2Has_0.T) :=
 br (decide (x02 < (↑x00.length : Int)))
 (br (decide ((0 : Int) ≤ x02) && true)
 (x00[x02.toNat]?.bind fun y =>
 br (CVal.fits false (1 : Nat) y)
 ((y.cell (0 : Nat)).bind fun c =>
 c.asStr.bind fun s =>
 br (decide (s = x01)) (some (LO.ret (CVal.bool true, [])))
 (L f_s_l2Has (0 : Nat) lc_s_l2Has_0 [] k_s_l2Has_0
 ((x00, x01, IntKind.i64.wrap (x02 + (1 : Int)), PUnit.unit), PUnit.unit)))
 none)
 none)
 (some (LO.out (0 : Nat) ((x00, x01, x02, PUnit.unit), PUnit.unit)))
theorem el_s_l2Has_0 (C : CallT) (L : LoopT) (x00 : List CVal) (x01 : List UInt8) (x02 : Int) : evL E N C L f_s_l2Has 0 lc_s_l2Has_0 [] k_s_l2Has_0 ((x00, x01, x02, ()), ()) = nl_s_l2Has_0 C L x00 x01 x02 := by kernel_rfl
theorem gl_s_l2Has_0 (x00 : List CVal) (x01 : List UInt8) (x02 : Int) (R : LO k_s_l2Has_0.T) (h : nl_s_l2Has_0 CC LL x00 x01 x02 = some R) : LL f_s_l2Has 0 lc_s_l2Has_0 [] k_s_l2Has_0 ((x00, x01, x02, ()), ()) = some R := loopW ((el_s_l2Has_0 CC LL x00 x01 x02).trans h)
noncomputable def nl_s_l2Name_0 (C : CallT) (L : LoopT) (x00 : List UInt8) (x01 : Bool) (x02 : Int) : Option (LO k_s_l2Name_0.T) :=
 br (decide (x02 < (↑x00.length : Int)))
 (br (decide ((0 : Int) ≤ x02))
 (x00[x02.toNat]?.bind fun y =>
 ((C f_s_l1In
 [AVal.v (CVal.int IntKind.i64 (IntKind.i64.wrap (↑y.toNat : Int))),
 AVal.v (CVal.int IntKind.i64 (97 : Int)), AVal.v (CVal.int IntKind.i64 (122 : Int))]
 []).bind
 fun r =>
 r.1.asBool.bind fun b =>
 br (!b)
 ((C f_s_l1In
 [AVal.v (CVal.int IntKind.i64 (IntKind.i64.wrap (↑y.toNat : Int))),
 AVal.v (CVal.int IntKind.i64 (48 : Int)), AVal.v (CVal.int IntKind.i64 (57 : Int))]
 []).bind
 fun r =>
 r.1.asBool.bind fun b =>
 br (!b)
 (br x01 (some (true, PUnit.unit))
 (some (!decide (IntKind.i64.wrap (↑y.toNat : Int) = (46 : Int)), PUnit.unit)))
 (some (false, PUnit.unit)))
 (some (false, PUnit.unit))).bind
 fun y =>
 br y.1 (some (LO.ret (CVal.bool false, [])))
 (L f_s_l2Name (0 : Nat) lc_s_l2Name_0 [] k_s_l2Name_0
 ((x00, x01, IntKind.i64.wrap (x02 + (1 : Int)), PUnit.unit), PUnit.unit)))
 none)
 (some (LO.out (0 : Nat) ((x00, x01, x02, PUnit.unit), PUnit.unit)))
theorem el_s_l2Name_0 (C : CallT) (L : LoopT) (x00 : List UInt8) (x01 : Bool) (x02 : Int) : evL E N C L f_s_l2Name 0 lc_s_l2Name_0 [] k_s_l2Name_0 ((x00, x01, x02, ()), ()) = nl_s_l2Name_0 C L x00 x01 x02 := by kernel_rfl
theorem gl_s_l2Name_0 (x00 : List UInt8) (x01 : Bool) (x02 : Int) (R : LO k_s_l2Name_0.T) (h : nl_s_l2Name_0 CC LL x00 x01 x02 = some R) : LL f_s_l2Name 0 lc_s_l2Name_0 [] k_s_l2Name_0 ((x00, x01, x02, ()), ()) = some R := loopW ((el_s_l2Name_0 CC LL x00 x01 x02).trans h)
noncomputable def nl_slices_IndexFunc_Ty_0 (C : CallT) (L : LoopT) (x00 : List CVal) (x01 : CVal) (x02 : Int) (x03 : Int) : Option (LO k_slices_IndexFunc_Ty_0.T) :=
 br (decide (x03 < x02))
 (br (decide ((0 : Int) ≤ x03) && true)
 (x00[x03.toNat]?.bind fun y =>
 br (CVal.fits true (3 : Nat) y)
 ((y.sub (0 : Nat) (3 : Nat)).bind fun y =>
 (C apId [AVal.v x01, AVal.v y] []).bind fun r =>
 r.1.asBool.bind fun b =>
 br b (some (LO.ret (CVal.int IntKind.i64 x03, [])))
 (L f_slices_IndexFunc_Ty (0 : Nat) lc_slices_IndexFunc_Ty_0 [] k_slices_IndexFunc_Ty_0
 ((x00, x01, x02, IntKind.i64.wrap (x03 + (1 : Int)), PUnit.unit), PUnit.unit)))
 none)
 none)
 (some (LO.out (0 : Nat) ((x00, x01, x02, x03, PUnit.unit), PUnit.unit)))
theorem el_slices_IndexFunc_Ty_0 (C : CallT) (L : LoopT) (x00 : List CVal) (x01 : CVal) (x02 : Int) (x03 : Int) : evL E N C L f_slices_IndexFunc_Ty 0 lc_slices_IndexFunc_Ty_0 [] k_slices_IndexFunc_Ty_0 ((x00, x01, x02, x03, ()), ()) = nl_slices_IndexFunc_Ty_0 C L x00 x01 x02 x03 := by kernel_rfl
theorem gl_slices_IndexFunc_Ty_0 (x00 : List CVal) (x01 : CVal) (x02 : Int) (x03 : Int) (R : LO k_slices_IndexFunc_Ty_0.T) (h : nl_slices_IndexFunc_Ty_0 CC LL x00 x01 x02 x03 = some R) : LL f_slices_IndexFunc_Ty 0 lc_slices_IndexFunc_Ty_0 [] k_slices_IndexFunc_Ty_0 ((x00, x01, x02, x03, ()), ()) = some R := loopW ((el_slices_IndexFunc_Ty_0 CC LL x00 x01 x02 x03).trans h)
end Go.Proofs.Ytbimglfmmmlicaa.Abs
