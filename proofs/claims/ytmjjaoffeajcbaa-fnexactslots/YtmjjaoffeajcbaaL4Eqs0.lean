/- What the functions come to in the abstract machine. -/
import Derived.Test.YtmjjaoffeajcbaaL4Ann
import Derived.KernelRfl
set_option linter.unusedVariables false
set_option maxRecDepth 100000
namespace Go.Proofs.Ytmjjaoffeajcbaa.Abs
open Go Go.Proofs Go.IntKind
noncomputable def nf_l_FnExactSlots (C : CallT) (L : LoopT) (a0 : Int) (a1 : Int) (a2 : Int) (a3 : List CVal) : Option Ret :=
 (C f_l_szPiece
 [AVal.v (CVal.agg [CVal.int i64 a0, CVal.int i64 a1, CVal.int i64 a2, CVal.sl a3]),
 AVal.v (CVal.int i64 1048576)]
 []).bind
 fun r =>
 (CVal.asInt i64 r.1).bind fun n =>
 br (decide (n < 0)) (some (CVal.bool true, []))
 ((C f_l_toPiece
 [AVal.v (CVal.agg [CVal.int i64 a0, CVal.int i64 a1, CVal.int i64 a2, CVal.sl a3])]
 []).bind
 fun r =>
 (C f_s_Slots [AVal.v r.1] []).bind fun r =>
 (C f_l_toPiece
 [AVal.v
 (CVal.agg [CVal.int i64 a0, CVal.int i64 a1, CVal.int i64 a2, CVal.sl a3])]
 []).bind
 fun r_1 =>
 br (CVal.isAggN 4 r_1.1)
 ((r_1.1.cell 0).bind fun c =>
 (r_1.1.cell 1).bind fun c_1 =>
 (r_1.1.cell 2).bind fun c_2 =>
 (r_1.1.cell 3).bind fun c_3 =>
 c_3.asSl.bind fun xs =>
 (C f_i_Slots [AVal.v (CVal.agg [c, c_1, c_2, CVal.sl xs])] []).bind fun r_2 =>
 br (!r_2.1.plain) none
 (br r_2.1.isFlat
 (r_2.1.asSl.bind fun xs_1 =>
 (C f_l_eqIntS [AVal.v (CVal.sl xs_1), AVal.v r.1] []).bind fun r_3 =>
 br (!scalar r_3.1) none
 (r_3.1.asBool.bind fun b =>
 br (!b) (some (CVal.bool false, []))
 ((C f_l_toPiece
 [AVal.v
 (CVal.agg
 [CVal.int i64 a0, CVal.int i64 a1,
 CVal.int i64 a2, CVal.sl a3])]
 []).bind
 fun r_4 =>
 (C f_l_eqPiece [AVal.v (CVal.agg [c, c_1, c_2, CVal.sl xs]), AVal.v r_4.1]
 []).bind
 fun r_5 =>
 br (!scalar r_5.1) none
 (r_5.1.asBool.bind fun b =>
 br (!b) (some (CVal.bool false, []))
 ((C f_l_markPiece
 [AVal.agg
 [AVal.v c, AVal.v c_1, AVal.v c_2,
 AVal.lref 0 0],
 AVal.v (CVal.int i64 1)]
 [PB.arr (Md.mk true true 0) false 7 xs]).bind
 fun r_6 =>
 r_6.2[0]?.bind fun y =>
 ((CVal.asInt i64 r_6.1).bind fun n =>
 br (decide (n < 0)) (some (true, ()))
 ((C f_l_eqIntS [AVal.v (CVal.sl xs_1), AVal.v r.1]
 []).bind
 fun r =>
 br (!scalar r.1) none
 (r.1.asBool.bind fun b =>
 some (!b, ())))).bind
 fun y =>
 br y.1 (some (CVal.bool false, []))
 ((C f_l_markIntS
 [AVal.lref 0 0,
 AVal.v (CVal.int i64 1)]
 [PB.arr (Md.mk true true 0) false 1
 xs_1]).bind
 fun r_7 =>
 r_7.2[0]?.bind fun y =>
 (C f_l_heldIntS
 [AVal.v (CVal.sl y),
 AVal.v (CVal.int i64 1)]
 []).bind
 fun r_8 =>
 br (!scalar r_8.1) none
 ((CVal.asInt i64 r_8.1).bind fun n =>
 br (decide (n < 0))
 (some (CVal.bool false, []))
 ((CVal.asInt i64 r_8.1).bind fun n =>
 (CVal.asInt i64 r_7.1).bind fun n_1 =>
 br (!decide (n = n_1))
 (some (CVal.bool false, []))
 ((C f_l_toPiece
 [AVal.v
 (CVal.agg
 [CVal.int i64 a0,
 CVal.int i64 a1,
 CVal.int i64 a2,
 CVal.sl a3])]
 []).bind
 fun r_9 =>
 (C f_i_Slots [AVal.v r_9.1] []).bind
 fun r_10 =>
 br r_10.1.isFlat
 (r_10.1.asSl.bind fun xs =>
 (C f_l_eqIntS
 [AVal.v (CVal.sl xs),
 AVal.v r.1]
 []).bind
 fun r =>
 br (!scalar r.1) none
 (r.1.asBool.bind fun b =>
 br (!b)
 (some (CVal.bool false, []))
 ((C f_l_heldIntS
 [AVal.v (CVal.sl y),
 AVal.v
 (CVal.int
 i64
 1)]
 []).bind
 fun r =>
 br (!scalar r.1) none
 ((CVal.asInt i64
 r.1).bind
 fun n =>
 br
 (decide
 (n < 0))
 (some
 (CVal.bool false,
 []))
 ((CVal.asInt
 i64
 r.1).bind
 fun n =>
 (CVal.asInt
 i64
 r_7.1).bind
 fun n_2 =>
 br
 (!decide
 (n = n_2))
 (some
 (CVal.bool
 false,
 []))
 (some
 (CVal.bool
 true,
 [])))))))
 none)))))))))
 none))
 none)
theorem go_l_FnExactSlots (a0 : Int) (a1 : Int) (a2 : Int) (a3 : List CVal) (R : Ret) (h : nf_l_FnExactSlots CC LL a0 a1 a2 a3 = some R) : CC f_l_FnExactSlots [AVal.v (CVal.agg [CVal.int i64 a0, CVal.int i64 a1, CVal.int i64 a2, CVal.sl a3])] [] = some R := fnW (by decide) rfl (Eq.trans (b := nf_l_FnExactSlots CC LL a0 a1 a2 a3) (by kernel_rfl) h)
noncomputable def nf_i_Slots (C : CallT) (L : LoopT) (a0 : Int) (a1 : Int) (a2 : Int) (a3 : List CVal) : Option Ret :=
 (C f_i_pieceOk
 [AVal.v (CVal.agg [CVal.int i64 a0, CVal.int i64 a1, CVal.int i64 a2, CVal.sl a3])]
 []).bind
 fun r =>
 r.1.asBool.bind fun b =>
 br (!b) (some (CVal.sl [], []))
 ((C f_i_clashes
 [AVal.v (CVal.agg [CVal.int i64 a0, CVal.int i64 a1, CVal.int i64 a2, CVal.sl a3])]
 []).bind
 fun r =>
 r.1.asSl.bind fun xs =>
 r.1.asSl.bind fun xs_1 =>
 (L f_i_Slots 0 lc_i_Slots_0 [] k_i_Slots_0
 (((), xs_1, (↑xs.length : Int), 0, ()), [], ())).bind
 fun r => loK r (fun r => some r) fun j p => br (j == 0) (some (CVal.sl p.snd.1, [])) none)
theorem go_i_Slots (a0 : Int) (a1 : Int) (a2 : Int) (a3 : List CVal) (R : Ret) (h : nf_i_Slots CC LL a0 a1 a2 a3 = some R) : CC f_i_Slots [AVal.v (CVal.agg [CVal.int i64 a0, CVal.int i64 a1, CVal.int i64 a2, CVal.sl a3])] [] = some R := fnW (by decide) rfl (Eq.trans (b := nf_i_Slots CC LL a0 a1 a2 a3) (by kernel_rfl) h)
noncomputable def nf_l_markIntS (C : CallT) (L : LoopT) (a : List CVal) (b : Int) : Option Ret :=
 (L f_l_markIntS 0 lc_l_markIntS_0 [PSh.arr (Md.mk true true 0) false 1] k_l_markIntS_0
 (((), b, 0, ()), a, ())).bind
 fun r =>
 loK r (fun r => some r) fun j p => br (j == 0) (some (CVal.int i64 p.fst.snd.1, [p.snd.1])) none
theorem go_l_markIntS (a : List CVal) (b : Int) (R : Ret) (h : nf_l_markIntS CC LL a b = some R) : CC f_l_markIntS [AVal.lref 0 0, AVal.v (CVal.int i64 b)] [PB.arr (Md.mk true true 0) false 1 a] = some R := fnW (by decide) rfl (Eq.trans (b := nf_l_markIntS CC LL a b) (by kernel_rfl) h)
noncomputable def nf_s_l9Piece (C : CallT) (L : LoopT) (a0 : Int) (a1 : Int) (a2 : Int) (a3 : List CVal) : Option Ret :=
 ((C f_s_l1In
 [AVal.v (CVal.int i64 a0), AVal.v (CVal.int i64 (-1 : Int)),
 AVal.v (CVal.int i64 149)]
 []).bind
 fun r =>
 r.1.asBool.bind fun b =>
 br (!b) (some (true, ()))
 (br (decide (a1 < 0)) (some (true, ()))
 (br (decide (a0 < 0))
 (br (!decide (a1 = 0)) (some (true, ()))
 (br (decide (0 ≤ a0))
 (br (decide (a1 < 1)) (some (true, ()))
 ((C f_s_l1In
 [AVal.v (CVal.int i64 a2), AVal.v (CVal.int i64 a1),
 AVal.v (CVal.int i64 400)]
 []).bind
 fun r =>
 r.1.asBool.bind fun b =>
 br (!b) (some (true, ()))
 ((C f_s_l1In
 [AVal.v (CVal.int i64 (↑a3.length : Int)),
 AVal.v (CVal.int i64 1), AVal.v (CVal.int i64 600)]
 []).bind
 fun r => r.1.asBool.bind fun b => some (!b, ()))))
 ((C f_s_l1In
 [AVal.v (CVal.int i64 a2), AVal.v (CVal.int i64 a1),
 AVal.v (CVal.int i64 400)]
 []).bind
 fun r =>
 r.1.asBool.bind fun b =>
 br (!b) (some (true, ()))
 ((C f_s_l1In
 [AVal.v (CVal.int i64 (↑a3.length : Int)),
 AVal.v (CVal.int i64 1), AVal.v (CVal.int i64 600)]
 []).bind
 fun r => r.1.asBool.bind fun b => some (!b, ())))))
 (br (decide (0 ≤ a0))
 (br (decide (a1 < 1)) (some (true, ()))
 ((C f_s_l1In
 [AVal.v (CVal.int i64 a2), AVal.v (CVal.int i64 a1),
 AVal.v (CVal.int i64 400)]
 []).bind
 fun r =>
 r.1.asBool.bind fun b =>
 br (!b) (some (true, ()))
 ((C f_s_l1In
 [AVal.v (CVal.int i64 (↑a3.length : Int)),
 AVal.v (CVal.int i64 1), AVal.v (CVal.int i64 600)]
 []).bind
 fun r => r.1.asBool.bind fun b => some (!b, ()))))
 ((C f_s_l1In
 [AVal.v (CVal.int i64 a2), AVal.v (CVal.int i64 a1),
 AVal.v (CVal.int i64 400)]
 []).bind
 fun r =>
 r.1.asBool.bind fun b =>
 br (!b) (some (true, ()))
 ((C f_s_l1In
 [AVal.v (CVal.int i64 (↑a3.length : Int)), AVal.v (CVal.int i64 1),
 AVal.v (CVal.int i64 600)]
 []).bind
 fun r => r.1.asBool.bind fun b => some (!b, ()))))))).bind
 fun y =>
 br y.1 (some (CVal.bool false, []))
 ((L f_s_l9Piece 0 lc_s_l9Piece_0 [] k_s_l9Piece_0
 (((CVal.agg [CVal.int i64 a0, CVal.int i64 a1, CVal.int i64 a2, CVal.sl a3]).fp
 0,
 (↑a3.length : Int), 0, ()),
 ())).bind
 fun r =>
 loK r (fun r => some r) fun j p =>
 br (j == 0)
 (((CVal.asFp p.fst.1).bind fun y =>
 (y.1.cell (y.2 + 3)).bind fun c =>
 br (decide (0 ≤ i64.wrap (p.fst.snd.1 - 1)) && true)
 (c.asSl.bind fun xs =>
 xs[(i64.wrap (p.fst.snd.1 - 1)).toNat]?.bind fun y =>
 br (CVal.fits true 7 y)
 ((y.cell 0).bind fun c =>
 (CVal.asInt i64 c).bind fun n =>
 br (decide (n = 15)) (some (true, ()))
 ((CVal.asFp p.fst.1).bind fun y =>
 (y.1.cell (y.2 + 3)).bind fun c =>
 br (decide (0 ≤ i64.wrap (p.fst.snd.1 - 1)) && true)
 (c.asSl.bind fun xs =>
 xs[(i64.wrap (p.fst.snd.1 - 1)).toNat]?.bind fun y =>
 br (CVal.fits true 7 y)
 ((y.cell 0).bind fun c =>
 (CVal.asInt i64 c).bind fun n =>
 some (decide (n = 13), ()))
 none)
 none))
 none)
 none).bind
 fun y => some (CVal.bool y.1, []))
 none)
theorem go_s_l9Piece (a0 : Int) (a1 : Int) (a2 : Int) (a3 : List CVal) (R : Ret) (h : nf_s_l9Piece CC LL a0 a1 a2 a3 = some R) : CC f_s_l9Piece [AVal.v (CVal.agg [CVal.int i64 a0, CVal.int i64 a1, CVal.int i64 a2, CVal.sl a3])] [] = some R := fnW (by decide) rfl (Eq.trans (b := nf_s_l9Piece CC LL a0 a1 a2 a3) (by kernel_rfl) h)
noncomputable def nf_slices_Contains_int (C : CallT) (L : LoopT) (a : List CVal) (b : Int) : Option Ret :=
 (C f_slices_Index_int [AVal.v (CVal.sl a), AVal.v (CVal.int i64 b)] []).bind fun r =>
 (CVal.asInt i64 r.1).bind fun n => some (CVal.bool (decide (0 ≤ n)), [])
theorem go_slices_Contains_int (a : List CVal) (b : Int) (R : Ret) (h : nf_slices_Contains_int CC LL a b = some R) : CC f_slices_Contains_int [AVal.v (CVal.sl a), AVal.v (CVal.int i64 b)] [] = some R := fnW (by decide) rfl (Eq.trans (b := nf_slices_Contains_int CC LL a b) (by kernel_rfl) h)
noncomputable def nf_l_toIns (C : CallT) (L : LoopT) (a0 : Int) (a1 : Int) (a2 : Int) (a3 : Int) (a4 : Int) (a5 : List CVal) (a6 : Int) : Option Ret :=
 (C f_l_toIntS [AVal.v (CVal.sl a5)] []).bind fun r =>
 br r.1.isFlat
 (r.1.asSl.bind fun xs =>
 some
 (CVal.agg
 [CVal.int i64 a0, CVal.int i64 a1, CVal.int i64 a2, CVal.int i64 a3,
 CVal.int i64 a4, CVal.sl xs, CVal.int i64 a6],
 []))
 none
theorem go_l_toIns (a0 : Int) (a1 : Int) (a2 : Int) (a3 : Int) (a4 : Int) (a5 : List CVal) (a6 : Int) (R : Ret) (h : nf_l_toIns CC LL a0 a1 a2 a3 a4 a5 a6 = some R) : CC f_l_toIns [AVal.v
 (CVal.agg
 [CVal.int i64 a0, CVal.int i64 a1, CVal.int i64 a2, CVal.int i64 a3,
 CVal.int i64 a4, CVal.sl a5, CVal.int i64 a6])] [] = some R := fnW (by decide) rfl (Eq.trans (b := nf_l_toIns CC LL a0 a1 a2 a3 a4 a5 a6) (by kernel_rfl) h)
noncomputable def nf_i_in (C : CallT) (L : LoopT) (a : Int) (b : Int) (c : Int) : Option Ret :=
 (br (decide (b ≤ a)) (some (decide (a ≤ c), ())) (some (false, ()))).bind fun y =>
 some (CVal.bool y.1, [])
theorem go_i_in (a : Int) (b : Int) (c : Int) (R : Ret) (h : nf_i_in CC LL a b c = some R) : CC f_i_in [AVal.v (CVal.int i64 a), AVal.v (CVal.int i64 b), AVal.v (CVal.int i64 c)] [] = some R := fnW (by decide) rfl (Eq.trans (b := nf_i_in CC LL a b c) (by kernel_rfl) h)
noncomputable def nf_i_liveSets (C : CallT) (L : LoopT) (a0 : Int) (a1 : Int) (a2 : Int) (a3 : List CVal) : Option Ret :=
 (L f_i_liveSets 0 lc_i_liveSets_0 [] k_i_liveSets_0
 (((CVal.agg [CVal.int i64 a0, CVal.int i64 a1, CVal.int i64 a2, CVal.sl a3]).fp 0,
 (), (↑a3.length : Int), 0, ()),
 [], ())).bind
 fun r =>
 loK r (fun r => some r) fun j p =>
 br (j == 0)
 ((L f_i_liveSets 2 lc_i_liveSets_2 [] k_i_liveSets_2
 ((p.fst.1, (), true, ()), p.snd.1, ())).bind
 fun r => loK r (fun r => some r) fun j p => br (j == 2) (some (CVal.sl p.snd.1, [])) none)
 none
theorem go_i_liveSets (a0 : Int) (a1 : Int) (a2 : Int) (a3 : List CVal) (R : Ret) (h : nf_i_liveSets CC LL a0 a1 a2 a3 = some R) : CC f_i_liveSets [AVal.v (CVal.agg [CVal.int i64 a0, CVal.int i64 a1, CVal.int i64 a2, CVal.sl a3])] [] = some R := fnW (by decide) rfl (Eq.trans (b := nf_i_liveSets CC LL a0 a1 a2 a3) (by kernel_rfl) h)
noncomputable def nf_i_clashes_1 (C : CallT) (L : LoopT) (a : Int) (b : Int) (c : List CVal) : Option Ret :=
 br (!decide (a = b))
 (br (decide (0 ≤ a) && true)
 (br (decide (a.toNat < c.length) && true)
 (c[a.toNat]?.bind fun y =>
 (y.cell 0).bind fun c_1 =>
 c_1.asSl.bind fun xs =>
 br (decide (0 ≤ b) && true)
 (br (decide (b.toNat < c.length) && true)
 (c[b.toNat]?.bind fun y =>
 (y.cell 0).bind fun c_2 =>
 c_2.asSl.bind fun xs =>
 br (decide (0 ≤ b) && true)
 ((c[a.toNat]?.bind fun y => (y.cell 0).bind fun c => c.asSl).bind fun y =>
 br (decide (b.toNat < y.length))
 (c[a.toNat]?.bind fun y =>
 (y.cell 0).bind fun c_3 =>
 c_3.asSl.bind fun xs =>
 xs[b.toNat]?.bind fun y_1 =>
 br (CVal.fitsF false [CK.bool] y_1)
 (br (decide (0 ≤ a) && true)
 (((c.set a.toNat
 (y.putCell 0
 (CVal.sl (xs.set b.toNat (CVal.bool true)))))[b.toNat]?.bind
 fun y => (y.cell 0).bind fun c => c.asSl).bind
 fun y_2 =>
 br (decide (a.toNat < y_2.length))
 ((c.set a.toNat
 (y.putCell 0
 (CVal.sl (xs.set b.toNat (CVal.bool true)))))[b.toNat]?.bind
 fun y_3 =>
 (y_3.cell 0).bind fun c_4 =>
 c_4.asSl.bind fun xs_1 =>
 xs_1[a.toNat]?.bind fun y_4 =>
 br (CVal.fitsF false [CK.bool] y_4)
 (some
 (CVal.tup [],
 [[CVal.sl
 ((c.set a.toNat
 (y.putCell 0
 (CVal.sl
 (xs.set b.toNat (CVal.bool true))))).set
 b.toNat
 (y_3.putCell 0
 (CVal.sl (xs_1.set a.toNat (CVal.bool true)))))],
 []]))
 none)
 none)
 none)
 none)
 none)
 none)
 none)
 none)
 none)
 none)
 (some (CVal.tup [], [[CVal.sl c], []]))
theorem go_i_clashes_1 (a : Int) (b : Int) (c : List CVal) (R : Ret) (h : nf_i_clashes_1 CC LL a b c = some R) : CC f_i_clashes_1 [AVal.v (CVal.int i64 a), AVal.v (CVal.int i64 b), AVal.lptr 0 0] [PB.box [AVal.lref 1 0], PB.arr (Md.mk true false 0) true 1 c] = some R := fnW (by decide) rfl (Eq.trans (b := nf_i_clashes_1 CC LL a b c) (by kernel_rfl) h)
noncomputable def nf_l_toIntS (C : CallT) (L : LoopT) (a : List CVal) : Option Ret :=
 br (decide ((↑a.length : Int) = (↑a.length : Int)) && decide ((↑a.length : Int) ≤ 1048576))
 ((L f_l_toIntS 0 lc_l_toIntS_0 [] k_l_toIntS_0
 ((a, (), 0, ()),
 List.replicate (↑a.length : Int).toNat (CVal.int i64 0), ())).bind
 fun r => loK r (fun r => some r) fun j p => br (j == 0) (some (CVal.sl p.snd.1, [])) none)
 none
theorem go_l_toIntS (a : List CVal) (R : Ret) (h : nf_l_toIntS CC LL a = some R) : CC f_l_toIntS [AVal.v (CVal.sl a)] [] = some R := fnW (by decide) rfl (Eq.trans (b := nf_l_toIntS CC LL a) (by kernel_rfl) h)
noncomputable def nf_s_l11Pair (C : CallT) (L : LoopT) (a : List CVal) (b : Int) (c : Int) : Option Ret :=
 br (!decide (b = c))
 (br (decide (0 ≤ b) && true)
 (br (decide (b.toNat < a.length) && true)
 (a[b.toNat]?.bind fun y =>
 (y.cell 0).bind fun c_1 =>
 c_1.asSl.bind fun xs =>
 br (decide (0 ≤ c) && true)
 ((a[b.toNat]?.bind fun y => (y.cell 0).bind fun c => c.asSl).bind fun y =>
 br (decide (c.toNat < y.length))
 (a[b.toNat]?.bind fun y =>
 (y.cell 0).bind fun c_2 =>
 c_2.asSl.bind fun xs =>
 xs[c.toNat]?.bind fun y_1 =>
 br (CVal.fitsF false [CK.bool] y_1)
 (br (decide (0 ≤ c) && true)
 (br
 (decide
 (c.toNat <
 (a.set b.toNat
 (y.putCell 0 (CVal.sl (xs.set c.toNat (CVal.bool true))))).length) &&
 true)
 ((a.set b.toNat
 (y.putCell 0
 (CVal.sl (xs.set c.toNat (CVal.bool true)))))[c.toNat]?.bind
 fun y_2 =>
 (y_2.cell 0).bind fun c_3 =>
 c_3.asSl.bind fun xs_1 =>
 br (decide (0 ≤ b) && true)
 (((a.set b.toNat
 (y.putCell 0
 (CVal.sl (xs.set c.toNat (CVal.bool true)))))[c.toNat]?.bind
 fun y => (y.cell 0).bind fun c => c.asSl).bind
 fun y_3 =>
 br (decide (b.toNat < y_3.length))
 ((a.set b.toNat
 (y.putCell 0
 (CVal.sl (xs.set c.toNat (CVal.bool true)))))[c.toNat]?.bind
 fun y_4 =>
 (y_4.cell 0).bind fun c_4 =>
 c_4.asSl.bind fun xs_2 =>
 xs_2[b.toNat]?.bind fun y_5 =>
 br (CVal.fitsF false [CK.bool] y_5)
 (some
 (CVal.tup [],
 [(a.set b.toNat
 (y.putCell 0
 (CVal.sl (xs.set c.toNat (CVal.bool true))))).set
 c.toNat
 (y_4.putCell 0
 (CVal.sl (xs_2.set b.toNat (CVal.bool true))))]))
 none)
 none)
 none)
 none)
 none)
 none)
 none)
 none)
 none)
 none)
 (some (CVal.tup [], [a]))
theorem go_s_l11Pair (a : List CVal) (b : Int) (c : Int) (R : Ret) (h : nf_s_l11Pair CC LL a b c = some R) : CC f_s_l11Pair [AVal.lref 0 0, AVal.v (CVal.int i64 b), AVal.v (CVal.int i64 c)] [PB.arr (Md.mk true true 0) false 1 a] = some R := fnW (by decide) rfl (Eq.trans (b := nf_s_l11Pair CC LL a b c) (by kernel_rfl) h)
noncomputable def nf_slices_IndexFunc_Ins (C : CallT) (L : LoopT) (a : List CVal) (b : CVal) : Option Ret :=
 (L f_slices_IndexFunc_Ins 0 lc_slices_IndexFunc_Ins_0 [] k_slices_IndexFunc_Ins_0
 ((a, b, (↑a.length : Int), 0, ()), ())).bind
 fun r => loK r (fun r => some r) fun j p => br (j == 0) (some (CVal.int i64 (-1 : Int), [])) none
theorem go_slices_IndexFunc_Ins (a : List CVal) (b : CVal) (R : Ret) (h : nf_slices_IndexFunc_Ins CC LL a b = some R) : CC f_slices_IndexFunc_Ins [AVal.v (CVal.sl a), AVal.v b] [] = some R := fnW (by decide) rfl (Eq.trans (b := nf_slices_IndexFunc_Ins CC LL a b) (by kernel_rfl) h)
noncomputable def nf_i_hasPart (C : CallT) (L : LoopT) (a : Int) (b : Int) : Option Ret :=
 (C f_i_insForm [AVal.v (CVal.int i64 a)] []).bind fun r =>
 r.1.asTup.bind fun y =>
 y[0]?.bind fun y =>
 r.1.asTup.bind fun y_1 =>
 y_1[1]?.bind fun y_2 =>
 y.asStr.bind fun s =>
 br (decide (s.length ≤ 4294967296))
 ((C f_slices_Contains_byte [AVal.v (CVal.sl (bytesC s)), AVal.v (CVal.int IntKind.u8 b)] []).bind fun r =>
 some (r.1, []))
 none
theorem go_i_hasPart (a : Int) (b : Int) (R : Ret) (h : nf_i_hasPart CC LL a b = some R) : CC f_i_hasPart [AVal.v (CVal.int i64 a), AVal.v (CVal.int IntKind.u8 b)] [] = some R := fnW (by decide) rfl (Eq.trans (b := nf_i_hasPart CC LL a b) (by kernel_rfl) h)
noncomputable def nf_i_insForm (C : CallT) (L : LoopT) (a : Int) : Option Ret :=
 br (decide (a = 1)) (some (CVal.tup [CVal.str [(68 : UInt8), (78 : UInt8)], CVal.bool true], []))
 (br (decide (a = 2)) (some (CVal.tup [CVal.str [(68 : UInt8), (78 : UInt8)], CVal.bool true], []))
 (br (decide (a = 3)) (some (CVal.tup [CVal.str [(68 : UInt8)], CVal.bool true], []))
 (br (decide (a = 4)) (some (CVal.tup [CVal.str [(68 : UInt8), (88 : UInt8)], CVal.bool true], []))
 (br (decide (a = 9)) (some (CVal.tup [CVal.str [(68 : UInt8), (88 : UInt8)], CVal.bool true], []))
 (br (decide (a = 10)) (some (CVal.tup [CVal.str [(68 : UInt8), (88 : UInt8)], CVal.bool true], []))
 (br (decide (a = 5))
 (some (CVal.tup [CVal.str [(68 : UInt8), (88 : UInt8), (89 : UInt8), (78 : UInt8)], CVal.bool true], []))
 (br (decide (a = 6))
 (some (CVal.tup [CVal.str [(68 : UInt8), (88 : UInt8), (89 : UInt8)], CVal.bool true], []))
 (br (decide (a = 7))
 (some (CVal.tup [CVal.str [(68 : UInt8), (88 : UInt8), (89 : UInt8)], CVal.bool true], []))
 (br (decide (a = 8))
 (some (CVal.tup [CVal.str [(68 : UInt8), (78 : UInt8), (76 : UInt8)], CVal.bool true], []))
 (br (decide (a = 11))
 (some (CVal.tup [CVal.str [(88 : UInt8), (84 : UInt8)], CVal.bool true], []))
 (br (decide (a = 12))
 (some (CVal.tup [CVal.str [(88 : UInt8), (84 : UInt8)], CVal.bool true], []))
 (br (decide (a = 13)) (some (CVal.tup [CVal.str [(84 : UInt8)], CVal.bool true], []))
 (br (decide (a = 14))
 (some
 (CVal.tup
 [CVal.str [(68 : UInt8), (88 : UInt8), (89 : UInt8), (76 : UInt8)], CVal.bool true],
 []))
 (br (decide (a = 15))
 (some (CVal.tup [CVal.str [(88 : UInt8)], CVal.bool true], []))
 (br (decide (a = 16))
 (some (CVal.tup [CVal.str [(88 : UInt8)], CVal.bool true], []))
 (br (decide (a = 17))
 (some (CVal.tup [CVal.str [(68 : UInt8), (84 : UInt8)], CVal.bool true], []))
 (some
 (CVal.tup [CVal.str [], CVal.bool (decide (a = 18))], []))))))))))))))))))
theorem go_i_insForm (a : Int) (R : Ret) (h : nf_i_insForm CC LL a = some R) : CC f_i_insForm [AVal.v (CVal.int i64 a)] [] = some R := fnW (by decide) rfl (Eq.trans (b := nf_i_insForm CC LL a) (by kernel_rfl) h)
noncomputable def nf_i_insOk_1 (C : CallT) (L : LoopT) (a : Int) (b0 : Int) (b1 : Int) (b2 : Int) (b3 : List CVal) : Option Ret :=
 (C f_i_in
 [AVal.v (CVal.int i64 a), AVal.v (CVal.int i64 0),
 AVal.v (CVal.int i64 (i64.wrap (b2 - 1)))]
 []).bind
 fun r => r.1.asBool.bind fun b => some (CVal.bool !b, [])
theorem go_i_insOk_1 (a : Int) (b0 : Int) (b1 : Int) (b2 : Int) (b3 : List CVal) (R : Ret) (h : nf_i_insOk_1 CC LL a b0 b1 b2 b3 = some R) : CC f_i_insOk_1 [AVal.v (CVal.int i64 a),
 AVal.v
 ((CVal.agg [CVal.int i64 b0, CVal.int i64 b1, CVal.int i64 b2, CVal.sl b3]).fp 0)] [] = some R := fnW (by decide) rfl (Eq.trans (b := nf_i_insOk_1 CC LL a b0 b1 b2 b3) (by kernel_rfl) h)
noncomputable def nf_i_wanted_1 (C : CallT) (L : LoopT) (a : Int) (b : Int) (c : List CVal) (d : List CVal) : Option Ret :=
 br (decide (0 ≤ a) && true)
 (c[a.toNat]?.bind fun y =>
 br (CVal.fits false 1 y)
 ((y.cell 0).bind fun c =>
 c.asSl.bind fun xs =>
 c.asSl.bind fun xs_1 =>
 (L f_i_wanted_1 0 lc_i_wanted_1_0
 [PSh.box [some 1], PSh.arr (Md.mk true false 0) true 1] k_i_wanted_1_0
 ((b, (), xs_1, (↑xs.length : Int), 0, ()), ((), ()),
 (), d, ())).bind
 fun r =>
 loK r (fun r => some r) fun j p =>
 br (j == 0) (some (CVal.tup [], [[CVal.sl p.snd.snd.snd.1], []])) none)
 none)
 none
theorem go_i_wanted_1 (a : Int) (b : Int) (c : List CVal) (d : List CVal) (R : Ret) (h : nf_i_wanted_1 CC LL a b c d = some R) : CC f_i_wanted_1 [AVal.v (CVal.int i64 a), AVal.v (CVal.int i64 b), AVal.v ((CVal.sl c).fp 0),
 AVal.lptr 0 0] [PB.box [AVal.lref 1 0], PB.arr (Md.mk true false 0) true 1 d] = some R := fnW (by decide) rfl (Eq.trans (b := nf_i_wanted_1 CC LL a b c d) (by kernel_rfl) h)
noncomputable def nf_s_l10From (C : CallT) (L : LoopT) (a00 : Int) (a01 : Int) (a02 : Int) (a03 : List CVal) (a1 : List CVal) (a2 : Bool) (b : Int) (c : Int) (d : Int) : Option Ret :=
 (L f_s_l10From 0 lc_s_l10From_0
 [PSh.box [none, none, none, none, some 1, none], PSh.arr (Md.mk true false 0) true 1]
 k_s_l10From_0
 (((), b, c, d, 0, ()), (a00, a01, a02, a03, (), a2, ()), (), a1,
 ())).bind
 fun r =>
 loK r (fun r => some r) fun j p =>
 br (j == 0)
 (some
 (CVal.tup [],
 [[CVal.int i64 p.snd.fst.1, CVal.int i64 p.snd.fst.snd.1,
 CVal.int i64 p.snd.fst.snd.snd.1, CVal.sl p.snd.fst.snd.snd.snd.1, CVal.sl p.snd.snd.snd.1,
 CVal.bool p.snd.fst.snd.snd.snd.snd.snd.1],
 []]))
 none
theorem go_s_l10From (a00 : Int) (a01 : Int) (a02 : Int) (a03 : List CVal) (a1 : List CVal) (a2 : Bool) (b : Int) (c : Int) (d : Int) (R : Ret) (h : nf_s_l10From CC LL a00 a01 a02 a03 a1 a2 b c d = some R) : CC f_s_l10From [AVal.lptr 0 0, AVal.v (CVal.int i64 b), AVal.v (CVal.int i64 c),
 AVal.v (CVal.int i64 d)] [PB.box
 [AVal.v (CVal.int i64 a00), AVal.v (CVal.int i64 a01), AVal.v (CVal.int i64 a02),
 AVal.v (CVal.sl a03), AVal.lref 1 0, AVal.v (CVal.bool a2)],
 PB.arr (Md.mk true false 0) true 1 a1] = some R := fnW (by decide) rfl (Eq.trans (b := nf_s_l10From CC LL a00 a01 a02 a03 a1 a2 b c d) (by kernel_rfl) h)
noncomputable def nf_slices_Index_byte (C : CallT) (L : LoopT) (a : List CVal) (b : Int) : Option Ret :=
 (L f_slices_Index_byte 0 lc_slices_Index_byte_0 [] k_slices_Index_byte_0
 ((a, b, (↑a.length : Int), 0, ()), ())).bind
 fun r => loK r (fun r => some r) fun j p => br (j == 0) (some (CVal.int i64 (-1 : Int), [])) none
theorem go_slices_Index_byte (a : List CVal) (b : Int) (R : Ret) (h : nf_slices_Index_byte CC LL a b = some R) : CC f_slices_Index_byte [AVal.v (CVal.sl a), AVal.v (CVal.int IntKind.u8 b)] [] = some R := fnW (by decide) rfl (Eq.trans (b := nf_slices_Index_byte CC LL a b) (by kernel_rfl) h)
noncomputable def nl_i_Slots_0 (C : CallT) (L : LoopT) (x01 : List CVal) (x02 : Int) (x03 : Int) (x1 : List CVal) : Option (LO k_i_Slots_0.T) :=
 br (decide (x03 < x02))
 (br (decide (0 ≤ x03) && true)
 (x01[x03.toNat]?.bind fun y =>
 br (CVal.fits false 1 y)
 ((y.cell 0).bind fun c =>
 c.asSl.bind fun xs =>
 (L f_i_Slots 2 lc_i_Slots_2 [] k_i_Slots_2
 (((), xs, (), x01, x02, x03, x03, 0, ()), x1, [], ())).bind
 fun r =>
 loK r (fun r => some (LO.ret r)) fun j p =>
 br (j == 2)
 ((L f_i_Slots 4 lc_i_Slots_4 [] k_i_Slots_4
 (((), (), 0, p.fst.snd.snd.snd.1, p.fst.snd.snd.snd.snd.1,
 p.fst.snd.snd.snd.snd.snd.1, ()),
 p.snd.1, p.snd.snd.1, ())).bind
 fun r =>
 loK r (fun r => some (LO.ret r)) fun j p =>
 br (j == 4)
 (br (decide (List.length p.snd.1 + 1 ≤ 4294967296) && true && true)
 (L f_i_Slots 0 lc_i_Slots_0 [] k_i_Slots_0
 (((), p.fst.snd.snd.snd.1, p.fst.snd.snd.snd.snd.1,
 i64.wrap (p.fst.snd.snd.snd.snd.snd.1 + 1), ()),
 p.snd.1 ++ [CVal.int i64 p.fst.snd.snd.1], ()))
 none)
 (br (j == 1)
 (L f_i_Slots 0 lc_i_Slots_0 [] k_i_Slots_0
 (((), p.fst.snd.snd.snd.1, p.fst.snd.snd.snd.snd.1,
 i64.wrap (p.fst.snd.snd.snd.snd.snd.1 + 1), ()),
 p.snd.1, ()))
 (some
 (LO.out j
 (((), p.fst.snd.snd.snd.1, p.fst.snd.snd.snd.snd.1, p.fst.snd.snd.snd.snd.snd.1,
 ()),
 p.snd.1, ())))))
 (br (j == 1)
 (L f_i_Slots 0 lc_i_Slots_0 [] k_i_Slots_0
 (((), p.fst.snd.snd.snd.1, p.fst.snd.snd.snd.snd.1,
 i64.wrap (p.fst.snd.snd.snd.snd.snd.1 + 1), ()),
 p.snd.1, ()))
 (some
 (LO.out j
 (((), p.fst.snd.snd.snd.1, p.fst.snd.snd.snd.snd.1, p.fst.snd.snd.snd.snd.snd.1,
 ()),
 p.snd.1, ())))))
 none)
 none)
 (some (LO.out 0 (((), x01, x02, x03, ()), x1, ())))
theorem gl_i_Slots_0 (x01 : List CVal) (x02 : Int) (x03 : Int) (x1 : List CVal) (R : LO k_i_Slots_0.T) (h : nl_i_Slots_0 CC LL x01 x02 x03 x1 = some R) : LL f_i_Slots 0 lc_i_Slots_0 [] k_i_Slots_0 (((), x01, x02, x03, ()), x1, ()) = some R := loopW (Eq.trans (b := nl_i_Slots_0 CC LL x01 x02 x03 x1) (by kernel_rfl) h)
noncomputable def nl_l_szInsS_0 (C : CallT) (L : LoopT) (x00 : List CVal) (x01 : Int) (x02 : Int) : Option (LO k_l_szInsS_0.T) :=
 br (decide (x02 < (↑x00.length : Int)))
 (br (decide (0 ≤ x02) && true)
 (x00[x02.toNat]?.bind fun y =>
 br (CVal.fits true 7 y)
 ((y.sub 0 7).bind fun y =>
 (C f_l_szIns [AVal.v y, AVal.v (CVal.int i64 x01)] []).bind fun r =>
 (CVal.asInt i64 r.1).bind fun n =>
 br (decide (n < 0)) (some (LO.ret (CVal.int i64 (-1 : Int), [])))
 ((CVal.asInt i64 r.1).bind fun n =>
 L f_l_szInsS 0 lc_l_szInsS_0 [] k_l_szInsS_0
 ((x00, n, i64.wrap (x02 + 1), ()), ())))
 none)
 none)
 (some (LO.out 0 ((x00, x01, x02, ()), ())))
theorem gl_l_szInsS_0 (x00 : List CVal) (x01 : Int) (x02 : Int) (R : LO k_l_szInsS_0.T) (h : nl_l_szInsS_0 CC LL x00 x01 x02 = some R) : LL f_l_szInsS 0 lc_l_szInsS_0 [] k_l_szInsS_0 ((x00, x01, x02, ()), ()) = some R := loopW (Eq.trans (b := nl_l_szInsS_0 CC LL x00 x01 x02) (by kernel_rfl) h)
noncomputable def nl_s_l11Slots_2 (C : CallT) (L : LoopT) (x00 : CVal) (x01 : List CVal) (x03 : Int) (x04 : Int) (x05 : Bool) (x1 : List CVal) : Option (LO k_s_l11Slots_2.T) :=
 br x05
 ((L f_s_l11Slots 4 lc_s_l11Slots_4 [] k_s_l11Slots_4
 ((x00, x01, (), x03, x04, false, 0, ()), x1, ())).bind
 fun r =>
 loK r (fun r => some (LO.ret r)) fun j p =>
 br (j == 4)
 (L f_s_l11Slots 2 lc_s_l11Slots_2 [] k_s_l11Slots_2
 ((p.fst.1, p.fst.snd.1, (), p.fst.snd.snd.snd.1, p.fst.snd.snd.snd.snd.1, p.fst.snd.snd.snd.snd.snd.1,
 ()),
 p.snd.1, ()))
 (br (j == 3)
 (L f_s_l11Slots 2 lc_s_l11Slots_2 [] k_s_l11Slots_2
 ((p.fst.1, p.fst.snd.1, (), p.fst.snd.snd.snd.1, p.fst.snd.snd.snd.snd.1,
 p.fst.snd.snd.snd.snd.snd.1, ()),
 p.snd.1, ()))
 (some
 (LO.out j
 ((p.fst.1, p.fst.snd.1, (), p.fst.snd.snd.snd.1, p.fst.snd.snd.snd.snd.1,
 p.fst.snd.snd.snd.snd.snd.1, ()),
 p.snd.1, ())))))
 (some (LO.out 2 ((x00, x01, (), x03, x04, x05, ()), x1, ())))
theorem gl_s_l11Slots_2 (x00 : CVal) (x01 : List CVal) (x03 : Int) (x04 : Int) (x05 : Bool) (x1 : List CVal) (R : LO k_s_l11Slots_2.T) (h : nl_s_l11Slots_2 CC LL x00 x01 x03 x04 x05 x1 = some R) : LL f_s_l11Slots 2 lc_s_l11Slots_2 [] k_s_l11Slots_2 ((x00, x01, (), x03, x04, x05, ()), x1, ()) = some R := loopW (Eq.trans (b := nl_s_l11Slots_2 CC LL x00 x01 x03 x04 x05 x1) (by kernel_rfl) h)
noncomputable def nl_i_clashes_10 (C : CallT) (L : LoopT) (x00 : CVal) (x03 : List CVal) (x05 : List CVal) (x06 : Int) (x07 : Int) (x08 : List CVal) (x09 : Int) (x010 : Int) (x2 : List CVal) (x30 : Int) (x31 : Int) (x32 : Int) (x33 : Int) (x34 : Int) (x35 : List CVal) (x36 : Int) : Option (LO k_i_clashes_10.T) :=
 br (decide (x010 < x09))
 (br (decide (0 ≤ x010) && true)
 (x08[x010.toNat]?.bind fun y =>
 br (CVal.fits false 1 y)
 ((y.cell 0).bind fun c =>
 (C f_i_clashes_1 [AVal.v (CVal.int i64 x31), AVal.v c, AVal.lptr 0 0]
 [PB.box [AVal.lref 1 0], PB.arr (Md.mk true false 0) true 1 x2]).bind
 fun r =>
 r.2[0]?.bind fun y =>
 r.2[1]?.bind fun y_1 =>
 y[0]?.bind fun y =>
 y.asSl.bind fun xs =>
 L f_i_clashes 10 lc_i_clashes_10 [] k_i_clashes_10
 ((x00, (), (), x03, (), x05, x06, x07, x08, x09,
 i64.wrap (x010 + 1), ()),
 ((), ()), xs, (x30, x31, x32, x33, x34, x35, x36, ()), ()))
 none)
 none)
 (some
 (LO.out 10
 ((x00, (), (), x03, (), x05, x06, x07, x08, x09, x010, ()),
 ((), ()), x2, (x30, x31, x32, x33, x34, x35, x36, ()), ())))
theorem gl_i_clashes_10 (x00 : CVal) (x03 : List CVal) (x05 : List CVal) (x06 : Int) (x07 : Int) (x08 : List CVal) (x09 : Int) (x010 : Int) (x2 : List CVal) (x30 : Int) (x31 : Int) (x32 : Int) (x33 : Int) (x34 : Int) (x35 : List CVal) (x36 : Int) (R : LO k_i_clashes_10.T) (h : nl_i_clashes_10 CC LL x00 x03 x05 x06 x07 x08 x09 x010 x2 x30 x31 x32 x33 x34 x35 x36 = some R) : LL f_i_clashes 10 lc_i_clashes_10 [] k_i_clashes_10 ((x00, (), (), x03, (), x05, x06, x07, x08, x09, x010, ()), ((), ()), x2, (x30, x31, x32, x33, x34, x35, x36, ()), ()) = some R := loopW (Eq.trans (b := nl_i_clashes_10 CC LL x00 x03 x05 x06 x07 x08 x09 x010 x2 x30 x31 x32 x33 x34 x35 x36) (by kernel_rfl) h)
noncomputable def nl_i_clashes_2 (C : CallT) (L : LoopT) (x00 : CVal) (x03 : List CVal) (x04 : List CVal) (x05 : Int) (x06 : Int) (x2 : List CVal) : Option (LO k_i_clashes_2.T) :=
 br (decide (x06 < x05))
 (br (decide (0 ≤ x06) && true)
 (x04[x06.toNat]?.bind fun y =>
 br (CVal.fits true 7 y)
 ((y.sub 0 7).bind fun y =>
 br (CVal.isAggN 7 y)
 ((y.cell 0).bind fun c =>
 (y.cell 1).bind fun c_1 =>
 (y.cell 2).bind fun c_2 =>
 (y.cell 3).bind fun c_3 =>
 (y.cell 4).bind fun c_4 =>
 (y.cell 5).bind fun c_5 =>
 (y.cell 6).bind fun c_6 =>
 br (decide (0 ≤ x06) && true)
 (x03[x06.toNat]?.bind fun y =>
 br (CVal.fits false 1 y)
 ((y.cell 0).bind fun c_7 =>
 (C f_i_things [AVal.v c_7] []).bind fun r =>
 r.1.asSl.bind fun xs =>
 r.1.asSl.bind fun xs_1 =>
 r.1.asSl.bind fun xs_2 =>
 (CVal.asInt i64 c).bind fun n =>
 (CVal.asInt i64 c_1).bind fun n_1 =>
 (CVal.asInt i64 c_2).bind fun n_2 =>
 (CVal.asInt i64 c_3).bind fun n_3 =>
 (CVal.asInt i64 c_4).bind fun n_4 =>
 c_5.asSl.bind fun xs_3 =>
 (CVal.asInt i64 c_6).bind fun n_5 =>
 (L f_i_clashes 4 lc_i_clashes_4 [] k_i_clashes_4
 ((x00, (), (), x03, x06, (), xs_1,
 x04, x05, x06, xs_2, (↑xs.length : Int), 0,
 ()),
 ((), ()), x2,
 (n, n_1, n_2, n_3, n_4, xs_3, n_5, ()),
 ())).bind
 fun r =>
 loK r (fun r => some (LO.ret r)) fun j p =>
 br (j == 4)
 ((C f_i_Writes
 [AVal.v
 (CVal.agg
 [CVal.int i64 p.snd.snd.snd.fst.1,
 CVal.int i64
 p.snd.snd.snd.fst.snd.1,
 CVal.int i64
 p.snd.snd.snd.fst.snd.snd.1,
 CVal.int i64
 p.snd.snd.snd.fst.snd.snd.snd.1,
 CVal.int i64
 p.snd.snd.snd.fst.snd.snd.snd.snd.1,
 CVal.sl
 p.snd.snd.snd.fst.snd.snd.snd.snd.snd.1,
 CVal.int i64
 p.snd.snd.snd.fst.snd.snd.snd.snd.snd.snd.1])]
 []).bind
 fun r =>
 (CVal.asInt i64 r.1).bind fun n =>
 br (decide (0 ≤ n))
 ((CVal.asFp p.fst.1).bind fun y =>
 (y.1.sub y.2 4).bind fun y =>
 (C f_i_behind
 [AVal.v y,
 AVal.v
 (CVal.int i64
 p.fst.snd.snd.snd.snd.1),
 AVal.v (CVal.sl p.fst.snd.snd.snd.1)]
 []).bind
 fun r_1 =>
 r_1.1.asSl.bind fun xs =>
 (CVal.asInt i64 r.1).bind fun n =>
 r_1.1.asSl.bind fun xs_4 =>
 (L f_i_clashes 8 lc_i_clashes_8
 [] k_i_clashes_8
 ((p.fst.1, (), (),
 p.fst.snd.snd.snd.1,
 (), n,
 p.fst.snd.snd.snd.snd.snd.snd.snd.1,
 p.fst.snd.snd.snd.snd.snd.snd.snd.snd.1,
 p.fst.snd.snd.snd.snd.snd.snd.snd.snd.snd.1,
 xs_4, (↑xs.length : Int),
 0, ()),
 ((), ()),
 p.snd.snd.1,
 (p.snd.snd.snd.fst.1,
 p.snd.snd.snd.fst.snd.1,
 p.snd.snd.snd.fst.snd.snd.1,
 p.snd.snd.snd.fst.snd.snd.snd.1,
 p.snd.snd.snd.fst.snd.snd.snd.snd.1,
 p.snd.snd.snd.fst.snd.snd.snd.snd.snd.1,
 p.snd.snd.snd.fst.snd.snd.snd.snd.snd.snd.1,
 ()),
 ())).bind
 fun r =>
 loK r (fun r => some (LO.ret r))
 fun j p =>
 br (j == 8)
 (br
 (decide
 (p.snd.snd.snd.fst.1 =
 17))
 (br
 (decide
 (0 ≤
 p.snd.snd.snd.fst.snd.snd.snd.snd.snd.snd.1) &&
 true)
 (p.fst.snd.snd.snd.1[Int.toNat
 p.snd.snd.snd.fst.snd.snd.snd.snd.snd.snd.1]?.bind
 fun y =>
 br
 (CVal.fits false 1
 y)
 ((y.cell 0).bind
 fun c =>
 (C f_i_things [AVal.v c]
 []).bind
 fun r =>
 r.1.asSl.bind
 fun xs =>
 r.1.asSl.bind
 fun xs_5 =>
 (L f_i_clashes
 10
 lc_i_clashes_10
 []
 k_i_clashes_10
 ((p.fst.1,
 (),
 (),
 p.fst.snd.snd.snd.1,
 (),
 p.fst.snd.snd.snd.snd.snd.snd.1,
 p.fst.snd.snd.snd.snd.snd.snd.snd.1,
 p.fst.snd.snd.snd.snd.snd.snd.snd.snd.1,
 xs_5,
 (↑xs.length :
 Int),
 (0 :
 Int),
 ()),
 ((),
 ()),
 p.snd.snd.1,
 (p.snd.snd.snd.fst.1,
 p.snd.snd.snd.fst.snd.1,
 p.snd.snd.snd.fst.snd.snd.1,
 p.snd.snd.snd.fst.snd.snd.snd.1,
 p.snd.snd.snd.fst.snd.snd.snd.snd.1,
 p.snd.snd.snd.fst.snd.snd.snd.snd.snd.1,
 p.snd.snd.snd.fst.snd.snd.snd.snd.snd.snd.1,
 ()),
 ())).bind
 fun r =>
 loK r
 (fun r =>
 some
 (LO.ret
 r))
 fun j p =>
 br
 (j ==
 (10 :
 Nat))
 (L
 f_i_clashes
 2
 lc_i_clashes_2
 []
 k_i_clashes_2
 ((p.fst.1,
 (),
 (),
 p.fst.snd.snd.snd.1,
 p.fst.snd.snd.snd.snd.snd.1,
 p.fst.snd.snd.snd.snd.snd.snd.1,
 i64.wrap
 (p.fst.snd.snd.snd.snd.snd.snd.snd.1 +
 (1 :
 Int)),
 ()),
 ((),
 ()),
 p.snd.snd.1,
 ()))
 (br
 (j ==
 (3 :
 Nat))
 (L
 f_i_clashes
 (2 :
 Nat)
 lc_i_clashes_2
 []
 k_i_clashes_2
 ((p.fst.1,
 (),
 (),
 p.fst.snd.snd.snd.1,
 p.fst.snd.snd.snd.snd.snd.1,
 p.fst.snd.snd.snd.snd.snd.snd.1,
 i64.wrap
 (p.fst.snd.snd.snd.snd.snd.snd.snd.1 +
 (1 :
 Int)),
 ()),
 ((),
 ()),
 p.snd.snd.1,
 ()))
 (some
 (LO.out
 j
 ((p.fst.1,
 (),
 (),
 p.fst.snd.snd.snd.1,
 p.fst.snd.snd.snd.snd.snd.1,
 p.fst.snd.snd.snd.snd.snd.snd.1,
 p.fst.snd.snd.snd.snd.snd.snd.snd.1,
 ()),
 ((),
 ()),
 p.snd.snd.1,
 ())))))
 none)
 none)
 (L f_i_clashes 2
 lc_i_clashes_2 []
 k_i_clashes_2
 ((p.fst.1, (),
 (),
 p.fst.snd.snd.snd.1,
 p.fst.snd.snd.snd.snd.snd.snd.1,
 p.fst.snd.snd.snd.snd.snd.snd.snd.1,
 i64.wrap
 (p.fst.snd.snd.snd.snd.snd.snd.snd.snd.1 +
 1),
 ()),
 ((), ()),
 p.snd.snd.1, ())))
 (br (j == 3)
 (L f_i_clashes 2
 lc_i_clashes_2 []
 k_i_clashes_2
 ((p.fst.1, (),
 (),
 p.fst.snd.snd.snd.1,
 p.fst.snd.snd.snd.snd.snd.snd.1,
 p.fst.snd.snd.snd.snd.snd.snd.snd.1,
 i64.wrap
 (p.fst.snd.snd.snd.snd.snd.snd.snd.snd.1 +
 1),
 ()),
 ((), ()),
 p.snd.snd.1, ()))
 (some
 (LO.out j
 ((p.fst.1, (),
 (),
 p.fst.snd.snd.snd.1,
 p.fst.snd.snd.snd.snd.snd.snd.1,
 p.fst.snd.snd.snd.snd.snd.snd.snd.1,
 p.fst.snd.snd.snd.snd.snd.snd.snd.snd.1,
 ()),
 ((), ()),
 p.snd.snd.1,
 ())))))
 (br (decide (p.snd.snd.snd.fst.1 = 17))
 (br
 (decide
 (0 ≤
 p.snd.snd.snd.fst.snd.snd.snd.snd.snd.snd.1) &&
 true)
 (p.fst.snd.snd.snd.1[Int.toNat
 p.snd.snd.snd.fst.snd.snd.snd.snd.snd.snd.1]?.bind
 fun y =>
 br (CVal.fits false 1 y)
 ((y.cell 0).bind fun c =>
 (C f_i_things [AVal.v c] []).bind fun r =>
 r.1.asSl.bind fun xs =>
 r.1.asSl.bind fun xs_4 =>
 (L f_i_clashes 10
 lc_i_clashes_10 []
 k_i_clashes_10
 ((p.fst.1, (),
 (),
 p.fst.snd.snd.snd.1,
 (),
 p.fst.snd.snd.snd.snd.snd.snd.snd.1,
 p.fst.snd.snd.snd.snd.snd.snd.snd.snd.1,
 p.fst.snd.snd.snd.snd.snd.snd.snd.snd.snd.1,
 xs_4, (↑xs.length : Int),
 0, ()),
 ((), ()),
 p.snd.snd.1,
 (p.snd.snd.snd.fst.1,
 p.snd.snd.snd.fst.snd.1,
 p.snd.snd.snd.fst.snd.snd.1,
 p.snd.snd.snd.fst.snd.snd.snd.1,
 p.snd.snd.snd.fst.snd.snd.snd.snd.1,
 p.snd.snd.snd.fst.snd.snd.snd.snd.snd.1,
 p.snd.snd.snd.fst.snd.snd.snd.snd.snd.snd.1,
 ()),
 ())).bind
 fun r =>
 loK r (fun r => some (LO.ret r))
 fun j p =>
 br (j == 10)
 (L f_i_clashes 2
 lc_i_clashes_2 []
 k_i_clashes_2
 ((p.fst.1, (),
 (),
 p.fst.snd.snd.snd.1,
 p.fst.snd.snd.snd.snd.snd.1,
 p.fst.snd.snd.snd.snd.snd.snd.1,
 i64.wrap
 (p.fst.snd.snd.snd.snd.snd.snd.snd.1 +
 1),
 ()),
 ((), ()),
 p.snd.snd.1, ()))
 (br (j == 3)
 (L f_i_clashes 2
 lc_i_clashes_2 []
 k_i_clashes_2
 ((p.fst.1, (),
 (),
 p.fst.snd.snd.snd.1,
 p.fst.snd.snd.snd.snd.snd.1,
 p.fst.snd.snd.snd.snd.snd.snd.1,
 i64.wrap
 (p.fst.snd.snd.snd.snd.snd.snd.snd.1 +
 1),
 ()),
 ((),
 ()),
 p.snd.snd.1,
 ()))
 (some
 (LO.out j
 ((p.fst.1, (),
 (),
 p.fst.snd.snd.snd.1,
 p.fst.snd.snd.snd.snd.snd.1,
 p.fst.snd.snd.snd.snd.snd.snd.1,
 p.fst.snd.snd.snd.snd.snd.snd.snd.1,
 ()),
 ((),
 ()),
 p.snd.snd.1,
 ())))))
 none)
 none)
 (L f_i_clashes 2 lc_i_clashes_2 []
 k_i_clashes_2
 ((p.fst.1, (), (),
 p.fst.snd.snd.snd.1,
 p.fst.snd.snd.snd.snd.snd.snd.snd.1,
 p.fst.snd.snd.snd.snd.snd.snd.snd.snd.1,
 i64.wrap
 (p.fst.snd.snd.snd.snd.snd.snd.snd.snd.snd.1 +
 1),
 ()),
 ((), ()), p.snd.snd.1,
 ()))))
 (br (j == 3)
 (L f_i_clashes 2 lc_i_clashes_2 [] k_i_clashes_2
 ((p.fst.1, (), (),
 p.fst.snd.snd.snd.1,
 p.fst.snd.snd.snd.snd.snd.snd.snd.1,
 p.fst.snd.snd.snd.snd.snd.snd.snd.snd.1,
 i64.wrap
 (p.fst.snd.snd.snd.snd.snd.snd.snd.snd.snd.1 +
 1),
 ()),
 ((), ()), p.snd.snd.1, ()))
 (some
 (LO.out j
 ((p.fst.1, (), (),
 p.fst.snd.snd.snd.1,
 p.fst.snd.snd.snd.snd.snd.snd.snd.1,
 p.fst.snd.snd.snd.snd.snd.snd.snd.snd.1,
 p.fst.snd.snd.snd.snd.snd.snd.snd.snd.snd.1,
 ()),
 ((), ()), p.snd.snd.1,
 ())))))
 none)
 none)
 none)
 none)
 none)
 (some
 (LO.out 2
 ((x00, (), (), x03, x04, x05, x06, ()), ((), ()), x2, ())))
theorem gl_i_clashes_2 (x00 : CVal) (x03 : List CVal) (x04 : List CVal) (x05 : Int) (x06 : Int) (x2 : List CVal) (R : LO k_i_clashes_2.T) (h : nl_i_clashes_2 CC LL x00 x03 x04 x05 x06 x2 = some R) : LL f_i_clashes 2 lc_i_clashes_2 [] k_i_clashes_2 ((x00, (), (), x03, x04, x05, x06, ()), ((), ()), x2, ()) = some R := loopW (Eq.trans (b := nl_i_clashes_2 CC LL x00 x03 x04 x05 x06 x2) (by kernel_rfl) h)
noncomputable def nl_s_l9Ins_1 (C : CallT) (L : LoopT) (x02 : Int) (x10 : Int) (x11 : Int) (x12 : Int) (x13 : List CVal) (x20 : Int) (x21 : Int) (x22 : Int) (x23 : Int) (x24 : Int) (x25 : List CVal) (x26 : Int) : Option (LO k_s_l9Ins_1.T) :=
 br (decide (x02 < (↑x25.length : Int)))
 (br (decide (0 ≤ x02) && true)
 (x25[x02.toNat]?.bind fun y =>
 br (CVal.fits false 1 y)
 ((y.cell 0).bind fun c =>
 (C f_s_l1In
 [AVal.v c, AVal.v (CVal.int i64 0),
 AVal.v (CVal.int i64 (i64.wrap (x12 - 1)))]
 []).bind
 fun r =>
 r.1.asBool.bind fun b =>
 br (!b) (some (LO.ret (CVal.bool false, [])))
 (L f_s_l9Ins 1 lc_s_l9Ins_1 [] k_s_l9Ins_1
 (((), (), i64.wrap (x02 + 1), ()),
 (x10, x11, x12, x13, ()), (x20, x21, x22, x23, x24, x25, x26, ()), ())))
 none)
 none)
 (some
 (LO.out 1
 (((), (), x02, ()), (x10, x11, x12, x13, ()),
 (x20, x21, x22, x23, x24, x25, x26, ()), ())))
theorem gl_s_l9Ins_1 (x02 : Int) (x10 : Int) (x11 : Int) (x12 : Int) (x13 : List CVal) (x20 : Int) (x21 : Int) (x22 : Int) (x23 : Int) (x24 : Int) (x25 : List CVal) (x26 : Int) (R : LO k_s_l9Ins_1.T) (h : nl_s_l9Ins_1 CC LL x02 x10 x11 x12 x13 x20 x21 x22 x23 x24 x25 x26 = some R) : LL f_s_l9Ins 1 lc_s_l9Ins_1 [] k_s_l9Ins_1 (((), (), x02, ()), (x10, x11, x12, x13, ()), (x20, x21, x22, x23, x24, x25, x26, ()), ()) = some R := loopW (Eq.trans (b := nl_s_l9Ins_1 CC LL x02 x10 x11 x12 x13 x20 x21 x22 x23 x24 x25 x26) (by kernel_rfl) h)
noncomputable def nl_s_l11Table_6 (C : CallT) (L : LoopT) (x00 : CVal) (x01 : List CVal) (x03 : Int) (x1 : List CVal) : Option (LO k_s_l11Table_6.T) :=
 x00.asFp.bind fun y =>
 (y.1.cell (y.2 + 3)).bind fun c =>
 c.asSl.bind fun xs =>
 br (decide (x03 < (↑xs.length : Int)))
 (br (decide (0 ≤ x03) && true)
 (x01[x03.toNat]?.bind fun y =>
 br (CVal.fits false 1 y)
 ((y.cell 0).bind fun c =>
 (C f_s_l11All [AVal.lref 0 0, AVal.v c]
 [PB.arr (Md.mk true true 0) false 1 x1]).bind
 fun r =>
 r.2[0]?.bind fun y =>
 x00.asFp.bind fun y_1 =>
 (y_1.1.cell (y_1.2 + 3)).bind fun c =>
 br (decide (0 ≤ x03) && true)
 (c.asSl.bind fun xs =>
 xs[x03.toNat]?.bind fun y_2 =>
 br (CVal.fits true 7 y_2)
 ((y_2.sub 0 7).bind fun y_3 =>
 (C f_s_Writes [AVal.v y_3] []).bind fun r =>
 x00.asFp.bind fun y_4 =>
 (y_4.1.sub y_4.2 4).bind fun y_5 =>
 (C f_s_l10Normal [AVal.v y_5, AVal.v (CVal.int i64 x03)] []).bind
 fun r_1 =>
 br r_1.1.isFlat
 (r_1.1.asSl.bind fun xs =>
 x00.asFp.bind fun y_6 =>
 (y_6.1.cell (y_6.2 + 3)).bind fun c =>
 br (decide (0 ≤ x03) && true)
 (c.asSl.bind fun xs_1 =>
 xs_1[x03.toNat]?.bind fun y_7 =>
 br (CVal.fits true 7 y_7)
 ((y_7.cell 0).bind fun c =>
 (CVal.asInt i64 c).bind fun n =>
 br (decide (n = 17))
 (x00.asFp.bind fun y_8 =>
 (y_8.1.cell (y_8.2 + 3)).bind fun c =>
 br (decide (0 ≤ x03) && true)
 (c.asSl.bind fun xs =>
 xs[x03.toNat]?.bind fun y_9 =>
 br (CVal.fits true 7 y_9)
 ((y_9.cell 1).bind fun c =>
 x00.asFp.bind fun y_10 =>
 (y_10.1.cell (y_10.2 + 3)).bind
 fun c_1 =>
 br (decide (0 ≤ x03) && true)
 (c_1.asSl.bind fun xs =>
 xs[x03.toNat]?.bind fun y_11 =>
 br
 (CVal.fits true 7
 y_11)
 ((y_11.cell 6).bind
 fun c_2 =>
 br (c_2.isFlat && true)
 ((CVal.asInt i64
 c_2).bind
 fun n =>
 (CVal.asInt i64
 c).bind
 fun n_1 =>
 (L f_s_l11Table
 8
 lc_s_l11Table_8
 []
 k_s_l11Table_8
 ((x00, x01,
 (),
 x03, n_1,
 (),
 0,
 ()),
 y,
 [CVal.int
 i64
 n],
 ())).bind
 fun r =>
 loK r
 (fun r =>
 some (LO.ret r))
 fun j p =>
 br
 (j == 8)
 (L f_s_l11Table
 6
 lc_s_l11Table_6
 []
 k_s_l11Table_6
 ((p.fst.1,
 p.fst.snd.1,
 (),
 i64.wrap
 (p.fst.snd.snd.snd.1 +
 (1 :
 Int)),
 ()),
 p.snd.1,
 ()))
 (br
 (j ==
 7)
 (L
 f_s_l11Table
 6
 lc_s_l11Table_6
 []
 k_s_l11Table_6
 ((p.fst.1,
 p.fst.snd.1,
 (),
 i64.wrap
 (p.fst.snd.snd.snd.1 +
 (1 :
 Int)),
 ()),
 p.snd.1,
 ()))
 (some
 (LO.out j
 ((p.fst.1,
 p.fst.snd.1,
 (),
 p.fst.snd.snd.snd.1,
 ()),
 p.snd.1,
 ())))))
 none)
 none)
 none)
 none)
 none)
 ((CVal.asInt i64 r.1).bind fun n =>
 (L f_s_l11Table 8 lc_s_l11Table_8 []
 k_s_l11Table_8
 ((x00, x01, (), x03, n, (),
 0, ()),
 y, xs, ())).bind
 fun r =>
 loK r (fun r => some (LO.ret r)) fun j p =>
 br (j == 8)
 (L f_s_l11Table 6 lc_s_l11Table_6 []
 k_s_l11Table_6
 ((p.fst.1, p.fst.snd.1, (),
 i64.wrap
 (p.fst.snd.snd.snd.1 + 1),
 ()),
 p.snd.1, ()))
 (br (j == 7)
 (L f_s_l11Table 6 lc_s_l11Table_6 []
 k_s_l11Table_6
 ((p.fst.1, p.fst.snd.1, (),
 i64.wrap
 (p.fst.snd.snd.snd.1 + 1),
 ()),
 p.snd.1, ()))
 (some
 (LO.out j
 ((p.fst.1, p.fst.snd.1, (),
 p.fst.snd.snd.snd.1, ()),
 p.snd.1, ()))))))
 none)
 none)
 none)
 none)
 none)
 none)
 none)
 (some (LO.out 6 ((x00, x01, (), x03, ()), x1, ())))
theorem gl_s_l11Table_6 (x00 : CVal) (x01 : List CVal) (x03 : Int) (x1 : List CVal) (R : LO k_s_l11Table_6.T) (h : nl_s_l11Table_6 CC LL x00 x01 x03 x1 = some R) : LL f_s_l11Table 6 lc_s_l11Table_6 [] k_s_l11Table_6 ((x00, x01, (), x03, ()), x1, ()) = some R := loopW (Eq.trans (b := nl_s_l11Table_6 CC LL x00 x01 x03 x1) (by kernel_rfl) h)
noncomputable def nl_i_liveSets_4 (C : CallT) (L : LoopT) (x00 : CVal) (x02 : Bool) (x03 : Int) (x1 : List CVal) : Option (LO k_i_liveSets_4.T) :=
 br (decide (0 ≤ x03))
 (x00.asFp.bind fun y =>
 (y.1.sub y.2 4).bind fun y =>
 (C f_i_wanted [AVal.v y, AVal.v (CVal.int i64 x03), AVal.v (CVal.sl x1)] []).bind fun r =>
 br (!r.1.plain) none
 (br r.1.isFlat
 (r.1.asSl.bind fun xs =>
 br (decide (0 ≤ x03) && true)
 (br (decide (x03.toNat < x1.length) && true)
 (x1[x03.toNat]?.bind fun y =>
 (y.cell 0).bind fun c =>
 c.asSl.bind fun xs_1 =>
 (x1[x03.toNat]?.bind fun y => (y.cell 0).bind fun c => c.asSl).bind fun y =>
 (C f_slices_Equal_bool [AVal.v (CVal.sl xs), AVal.v (CVal.sl y)] []).bind fun r =>
 br (!scalar r.1) none
 (r.1.asBool.bind fun b =>
 br (!b)
 (br (decide (0 ≤ x03) && true)
 (br (decide (x03.toNat < x1.length) && true)
 (x1[x03.toNat]?.bind fun y =>
 br (CVal.fits false 1 y)
 (L f_i_liveSets 4 lc_i_liveSets_4 [] k_i_liveSets_4
 ((x00, (), true, i64.wrap (x03 - 1), ()),
 x1.set x03.toNat (CVal.sl xs), ()))
 (br (y.isAgg && decide (1 ≤ y.cells.length))
 (L f_i_liveSets 4 lc_i_liveSets_4 [] k_i_liveSets_4
 ((x00, (), true, i64.wrap (x03 - 1), ()),
 x1.set x03.toNat (CVal.agg (CVal.sl xs :: List.drop 1 y.cells)),
 ()))
 none))
 none)
 none)
 (L f_i_liveSets 4 lc_i_liveSets_4 [] k_i_liveSets_4
 ((x00, (), x02, i64.wrap (x03 - 1), ()), x1,
 ()))))
 none)
 none)
 none))
 (some (LO.out 4 ((x00, (), x02, x03, ()), x1, ())))
theorem gl_i_liveSets_4 (x00 : CVal) (x02 : Bool) (x03 : Int) (x1 : List CVal) (R : LO k_i_liveSets_4.T) (h : nl_i_liveSets_4 CC LL x00 x02 x03 x1 = some R) : LL f_i_liveSets 4 lc_i_liveSets_4 [] k_i_liveSets_4 ((x00, (), x02, x03, ()), x1, ()) = some R := loopW (Eq.trans (b := nl_i_liveSets_4 CC LL x00 x02 x03 x1) (by kernel_rfl) h)
noncomputable def nl_i_behind_2 (C : CallT) (L : LoopT) (x00 : List CVal) (x02 : List CVal) (x03 : Int) (x04 : Int) (x05 : List CVal) (x06 : Int) (x07 : Int) (x1 : List CVal) : Option (LO k_i_behind_2.T) :=
 br (decide (x07 < x06))
 (br (decide (0 ≤ x07) && true)
 (x05[x07.toNat]?.bind fun y =>
 br (CVal.fits false 1 y)
 ((y.cell 0).bind fun c =>
 br (decide (0 ≤ x07) && true)
 (br (decide (x07.toNat < x1.length) && true)
 (x1[x07.toNat]?.bind fun y =>
 (y.cell 0).bind fun c_1 =>
 c_1.asBool.bind fun b =>
 br b
 (br (decide (0 ≤ x07) && true)
 (br (decide (x07.toNat < x1.length) && true)
 (x1[x07.toNat]?.bind fun y =>
 br (CVal.fits false 1 y)
 (L f_i_behind 2 lc_i_behind_2 [] k_i_behind_2
 ((x00, (), x02, x03, x04, x05, x06, i64.wrap (x07 + 1),
 ()),
 x1.set x07.toNat (CVal.bool true), ()))
 (br (y.isAgg && decide (1 ≤ y.cells.length))
 (L f_i_behind 2 lc_i_behind_2 [] k_i_behind_2
 ((x00, (), x02, x03, x04, x05, x06, i64.wrap (x07 + 1),
 ()),
 x1.set x07.toNat (CVal.agg (CVal.bool true :: List.drop 1 y.cells)),
 ()))
 none))
 none)
 none)
 (br (decide (0 ≤ x07) && true)
 (br (decide (x07.toNat < x1.length) && true)
 (br (c.isFlat && true)
 (c.asBool.bind fun b =>
 x1[x07.toNat]?.bind fun y =>
 br (CVal.fits false 1 y)
 (L f_i_behind 2 lc_i_behind_2 [] k_i_behind_2
 ((x00, (), x02, x03, x04, x05, x06, i64.wrap (x07 + 1),
 ()),
 x1.set x07.toNat (CVal.bool b), ()))
 (br (y.isAgg && decide (1 ≤ y.cells.length))
 (L f_i_behind 2 lc_i_behind_2 [] k_i_behind_2
 ((x00, (), x02, x03, x04, x05, x06, i64.wrap (x07 + 1),
 ()),
 x1.set x07.toNat (CVal.agg (CVal.bool b :: List.drop 1 y.cells)),
 ()))
 none))
 none)
 none)
 none))
 none)
 none)
 none)
 none)
 (some (LO.out 2 ((x00, (), x02, x03, x04, x05, x06, x07, ()), x1, ())))
theorem gl_i_behind_2 (x00 : List CVal) (x02 : List CVal) (x03 : Int) (x04 : Int) (x05 : List CVal) (x06 : Int) (x07 : Int) (x1 : List CVal) (R : LO k_i_behind_2.T) (h : nl_i_behind_2 CC LL x00 x02 x03 x04 x05 x06 x07 x1 = some R) : LL f_i_behind 2 lc_i_behind_2 [] k_i_behind_2 ((x00, (), x02, x03, x04, x05, x06, x07, ()), x1, ()) = some R := loopW (Eq.trans (b := nl_i_behind_2 CC LL x00 x02 x03 x04 x05 x06 x07 x1) (by kernel_rfl) h)
noncomputable def nl_s_l10Solve_2 (C : CallT) (L : LoopT) (x00 : CVal) (x02 : Int) (x10 : Int) (x11 : Int) (x12 : Int) (x13 : List CVal) (x15 : Bool) (x2 : List CVal) : Option (LO k_s_l10Solve_2.T) :=
 br (decide (0 ≤ x02))
 ((C f_s_l10Node [AVal.lptr 0 0, AVal.v (CVal.int i64 x02)]
 [PB.box
 [AVal.v (CVal.int i64 x10), AVal.v (CVal.int i64 x11), AVal.v (CVal.int i64 x12),
 AVal.v (CVal.sl x13), AVal.lref 1 0, AVal.v (CVal.bool x15)],
 PB.arr (Md.mk true false 0) true 1 x2]).bind
 fun r =>
 r.2[0]?.bind fun y =>
 r.2[1]?.bind fun y_1 =>
 y[0]?.bind fun y_2 =>
 y[1]?.bind fun y_3 =>
 y[2]?.bind fun y_4 =>
 y[3]?.bind fun y_5 =>
 y[4]?.bind fun y_6 =>
 y[5]?.bind fun y =>
 y_6.asSl.bind fun xs =>
 (CVal.asInt i64 y_2).bind fun n =>
 (CVal.asInt i64 y_3).bind fun n_1 =>
 (CVal.asInt i64 y_4).bind fun n_2 =>
 y_5.asSl.bind fun xs_1 =>
 y.asBool.bind fun b =>
 L f_s_l10Solve 2 lc_s_l10Solve_2 [] k_s_l10Solve_2
 ((x00, (), i64.wrap (x02 - 1), ()),
 (n, n_1, n_2, xs_1, (), b, ()), xs, ()))
 (some
 (LO.out 2
 ((x00, (), x02, ()), (x10, x11, x12, x13, (), x15, ()), x2, ())))
theorem gl_s_l10Solve_2 (x00 : CVal) (x02 : Int) (x10 : Int) (x11 : Int) (x12 : Int) (x13 : List CVal) (x15 : Bool) (x2 : List CVal) (R : LO k_s_l10Solve_2.T) (h : nl_s_l10Solve_2 CC LL x00 x02 x10 x11 x12 x13 x15 x2 = some R) : LL f_s_l10Solve 2 lc_s_l10Solve_2 [] k_s_l10Solve_2 ((x00, (), x02, ()), (x10, x11, x12, x13, (), x15, ()), x2, ()) = some R := loopW (Eq.trans (b := nl_s_l10Solve_2 CC LL x00 x02 x10 x11 x12 x13 x15 x2) (by kernel_rfl) h)
noncomputable def nl_slices_IndexFunc_Ins_0 (C : CallT) (L : LoopT) (x00 : List CVal) (x01 : CVal) (x02 : Int) (x03 : Int) : Option (LO k_slices_IndexFunc_Ins_0.T) :=
 br (decide (x03 < x02))
 (br (decide (0 ≤ x03) && true)
 (x00[x03.toNat]?.bind fun y =>
 br (CVal.fits true 7 y)
 ((y.sub 0 7).bind fun y =>
 (C apId [AVal.v x01, AVal.v y] []).bind fun r =>
 r.1.asBool.bind fun b =>
 br b (some (LO.ret (CVal.int i64 x03, [])))
 (L f_slices_IndexFunc_Ins 0 lc_slices_IndexFunc_Ins_0 [] k_slices_IndexFunc_Ins_0
 ((x00, x01, x02, i64.wrap (x03 + 1), ()), ())))
 none)
 none)
 (some (LO.out 0 ((x00, x01, x02, x03, ()), ())))
theorem gl_slices_IndexFunc_Ins_0 (x00 : List CVal) (x01 : CVal) (x02 : Int) (x03 : Int) (R : LO k_slices_IndexFunc_Ins_0.T) (h : nl_slices_IndexFunc_Ins_0 CC LL x00 x01 x02 x03 = some R) : LL f_slices_IndexFunc_Ins 0 lc_slices_IndexFunc_Ins_0 [] k_slices_IndexFunc_Ins_0 ((x00, x01, x02, x03, ()), ()) = some R := loopW (Eq.trans (b := nl_slices_IndexFunc_Ins_0 CC LL x00 x01 x02 x03) (by kernel_rfl) h)
noncomputable def nl_slices_Equal_bool_0 (C : CallT) (L : LoopT) (x00 : List CVal) (x01 : List CVal) (x02 : Int) (x03 : Int) : Option (LO k_slices_Equal_bool_0.T) :=
 br (decide (x03 < x02))
 (br (decide (0 ≤ x03) && true)
 (x00[x03.toNat]?.bind fun y =>
 br (CVal.fits false 1 y)
 ((y.cell 0).bind fun c =>
 br (decide (0 ≤ x03) && true)
 (x01[x03.toNat]?.bind fun y =>
 br (CVal.fits false 1 y)
 ((y.cell 0).bind fun c_1 =>
 c.asBool.bind fun b =>
 c_1.asBool.bind fun b_1 =>
 br (!b == b_1) (some (LO.ret (CVal.bool false, [])))
 (L f_slices_Equal_bool 0 lc_slices_Equal_bool_0 [] k_slices_Equal_bool_0
 ((x00, x01, x02, i64.wrap (x03 + 1), ()), ())))
 none)
 none)
 none)
 none)
 (some (LO.out 0 ((x00, x01, x02, x03, ()), ())))
theorem gl_slices_Equal_bool_0 (x00 : List CVal) (x01 : List CVal) (x02 : Int) (x03 : Int) (R : LO k_slices_Equal_bool_0.T) (h : nl_slices_Equal_bool_0 CC LL x00 x01 x02 x03 = some R) : LL f_slices_Equal_bool 0 lc_slices_Equal_bool_0 [] k_slices_Equal_bool_0 ((x00, x01, x02, x03, ()), ()) = some R := loopW (Eq.trans (b := nl_slices_Equal_bool_0 CC LL x00 x01 x02 x03) (by kernel_rfl) h)
noncomputable def nl_i_guardOf_0 (C : CallT) (L : LoopT) (x01 : List CVal) (x02 : Int) (x03 : Int) (x1 : List CVal) : Option (LO k_i_guardOf_0.T) :=
 br (decide (x03 < x02))
 (br (decide (0 ≤ x03) && true)
 (x01[x03.toNat]?.bind fun y =>
 br (CVal.fits true 7 y)
 ((y.sub 0 7).bind fun y =>
 br (CVal.isAggN 7 y)
 ((y.cell 0).bind fun c =>
 (y.cell 1).bind fun c_1 =>
 (y.cell 2).bind fun c_2 =>
 (y.cell 3).bind fun c_3 =>
 (y.cell 4).bind fun c_4 =>
 (y.cell 5).bind fun c_5 =>
 (y.cell 6).bind fun c_6 =>
 (CVal.asInt i64 c).bind fun n =>
 br (decide (n = 17))
 (br (decide (x1.length + 1 ≤ 4294967296) && true && true)
 (L f_i_guardOf 0 lc_i_guardOf_0 [] k_i_guardOf_0
 (((), x01, x02, i64.wrap (x03 + 1), ()),
 x1 ++ [CVal.int i64 x03], ()))
 none)
 ((CVal.asInt i64 c).bind fun n =>
 br (decide (n = 18))
 (br
 (decide
 (0 ≤
 bif
 decide
 (0 < i64.wrap ((↑x1.length : Int) - 1)) then
 i64.wrap ((↑x1.length : Int) - 1)
 else 0) &&
 decide
 ((bif
 decide
 (0 < i64.wrap ((↑x1.length : Int) - 1)) then
 i64.wrap ((↑x1.length : Int) - 1)
 else 0) ≤
 (↑x1.length : Int)) &&
 true)
 (L f_i_guardOf 0 lc_i_guardOf_0 [] k_i_guardOf_0
 (((), x01, x02, i64.wrap (x03 + 1), ()),
 List.take
 (bif
 decide
 (0 < i64.wrap ((↑x1.length : Int) - 1)) then
 i64.wrap ((↑x1.length : Int) - 1)
 else 0).toNat
 x1,
 ()))
 none)
 (L f_i_guardOf 0 lc_i_guardOf_0 [] k_i_guardOf_0
 (((), x01, x02, i64.wrap (x03 + 1), ()), x1,
 ()))))
 none)
 none)
 none)
 (some (LO.out 0 (((), x01, x02, x03, ()), x1, ())))
theorem gl_i_guardOf_0 (x01 : List CVal) (x02 : Int) (x03 : Int) (x1 : List CVal) (R : LO k_i_guardOf_0.T) (h : nl_i_guardOf_0 CC LL x01 x02 x03 x1 = some R) : LL f_i_guardOf 0 lc_i_guardOf_0 [] k_i_guardOf_0 (((), x01, x02, x03, ()), x1, ()) = some R := loopW (Eq.trans (b := nl_i_guardOf_0 CC LL x01 x02 x03 x1) (by kernel_rfl) h)
noncomputable def nl_s_l10Guard_0 (C : CallT) (L : LoopT) (x00 : Int) (x03 : Int) (x10 : Int) (x11 : Int) (x12 : Int) (x13 : List CVal) (x2 : List CVal) : Option (LO k_s_l10Guard_0.T) :=
 (br (decide (x03 < x00)) (some (decide (x03 < (↑x13.length : Int)), ())) (some (false, ()))).bind
 fun y =>
 br y.1
 (br (decide (0 ≤ x03) && true)
 (x13[x03.toNat]?.bind fun y =>
 br (CVal.fits true 7 y)
 ((y.cell 0).bind fun c =>
 (CVal.asInt i64 c).bind fun n =>
 br (decide (n = 17))
 (br (decide (x2.length + 1 ≤ 4294967296) && true && true)
 (L f_s_l10Guard 0 lc_s_l10Guard_0 [] k_s_l10Guard_0
 ((x00, (), (), i64.wrap (x03 + 1), ()),
 (x10, x11, x12, x13, ()), x2 ++ [CVal.int i64 x03], ()))
 none)
 ((CVal.asInt i64 c).bind fun n =>
 br (decide (n = 18))
 (br (decide (0 < (↑x2.length : Int)))
 (br
 (decide (0 ≤ i64.wrap ((↑x2.length : Int) - 1)) &&
 decide (i64.wrap ((↑x2.length : Int) - 1) ≤ (↑x2.length : Int)) &&
 true)
 (L f_s_l10Guard 0 lc_s_l10Guard_0 [] k_s_l10Guard_0
 ((x00, (), (), i64.wrap (x03 + 1), ()),
 (x10, x11, x12, x13, ()),
 List.take (i64.wrap ((↑x2.length : Int) - 1)).toNat x2, ()))
 none)
 (L f_s_l10Guard 0 lc_s_l10Guard_0 [] k_s_l10Guard_0
 ((x00, (), (), i64.wrap (x03 + 1), ()),
 (x10, x11, x12, x13, ()), x2, ())))
 (L f_s_l10Guard 0 lc_s_l10Guard_0 [] k_s_l10Guard_0
 ((x00, (), (), i64.wrap (x03 + 1), ()),
 (x10, x11, x12, x13, ()), x2, ()))))
 none)
 none)
 (some
 (LO.out 0
 ((x00, (), (), x03, ()), (x10, x11, x12, x13, ()), x2, ())))
theorem gl_s_l10Guard_0 (x00 : Int) (x03 : Int) (x10 : Int) (x11 : Int) (x12 : Int) (x13 : List CVal) (x2 : List CVal) (R : LO k_s_l10Guard_0.T) (h : nl_s_l10Guard_0 CC LL x00 x03 x10 x11 x12 x13 x2 = some R) : LL f_s_l10Guard 0 lc_s_l10Guard_0 [] k_s_l10Guard_0 ((x00, (), (), x03, ()), (x10, x11, x12, x13, ()), x2, ()) = some R := loopW (Eq.trans (b := nl_s_l10Guard_0 CC LL x00 x03 x10 x11 x12 x13 x2) (by kernel_rfl) h)
end Go.Proofs.Ytmjjaoffeajcbaa.Abs
