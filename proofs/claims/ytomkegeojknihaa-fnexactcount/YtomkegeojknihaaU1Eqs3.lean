/- What the functions come to in the abstract machine. -/
import Derived.Test.YtomkegeojknihaaU1Ann
import Derived.KernelRfl
set_option linter.unusedVariables false
set_option maxRecDepth 100000
namespace Go.Proofs.Ytomkegeojknihaa.Abs
open Go Go.Proofs
noncomputable def nf_l_toCode (C : CallT) (L : LoopT) (a0 : List CVal) (a10 : Int) (a11 : Int) (a12 : Int) (a13 : List CVal) : Option Ret :=
  (C f_l_toPieceS [AVal.v (CVal.sl a0)] []).bind fun r =>
    br (r.1.isFlat && true)
      ((C f_l_toPiece
            [AVal.v
                (CVal.agg [CVal.int IntKind.i64 a10, CVal.int IntKind.i64 a11, CVal.int IntKind.i64 a12, CVal.sl a13])]
            []).bind
        fun r_1 =>
        br (CVal.isAggN (4 : Nat) r_1.1)
          ((r_1.1.cell (0 : Nat)).bind fun c =>
            (r_1.1.cell (1 : Nat)).bind fun c_1 =>
              (r_1.1.cell (2 : Nat)).bind fun c_2 =>
                (r_1.1.cell (3 : Nat)).bind fun c_3 => some (CVal.agg [r.1, c, c_1, c_2, c_3], []))
          none)
      none
theorem eq_l_toCode (C : CallT) (L : LoopT) (a0 : List CVal) (a10 : Int) (a11 : Int) (a12 : Int) (a13 : List CVal) : evF E N C L f_l_toCode [AVal.v
    (CVal.agg [CVal.sl a0, CVal.int IntKind.i64 a10, CVal.int IntKind.i64 a11, CVal.int IntKind.i64 a12, CVal.sl a13])] [] = nf_l_toCode C L a0 a10 a11 a12 a13 := by kernel_rfl
theorem go_l_toCode (a0 : List CVal) (a10 : Int) (a11 : Int) (a12 : Int) (a13 : List CVal) (R : Ret) (h : nf_l_toCode CC LL a0 a10 a11 a12 a13 = some R) : CC f_l_toCode [AVal.v
    (CVal.agg [CVal.sl a0, CVal.int IntKind.i64 a10, CVal.int IntKind.i64 a11, CVal.int IntKind.i64 a12, CVal.sl a13])] [] = some R := fnW (by decide) rfl ((eq_l_toCode CC LL a0 a10 a11 a12 a13).trans h)
noncomputable def nf_l_toPieceS (C : CallT) (L : LoopT) (a : List CVal) : Option Ret :=
  br (decide ((↑a.length : Int) = (↑a.length : Int)) && decide ((↑a.length : Int) ≤ (1048576 : Int)))
    ((L f_l_toPieceS (0 : Nat) lc_l_toPieceS_0 [] k_l_toPieceS_0
          ((a, PUnit.unit, (0 : Int), PUnit.unit),
            List.replicate (↑a.length : Int).toNat
              (CVal.agg
                [CVal.int IntKind.i64 (0 : Int), CVal.int IntKind.i64 (0 : Int), CVal.int IntKind.i64 (0 : Int),
                  CVal.sl []]),
            PUnit.unit)).bind
      fun r => loK r (fun r => some r) fun j p => br (j == (0 : Nat)) (some (CVal.sl p.snd.1, [])) none)
    none
theorem eq_l_toPieceS (C : CallT) (L : LoopT) (a : List CVal) : evF E N C L f_l_toPieceS [AVal.v (CVal.sl a)] [] = nf_l_toPieceS C L a := by kernel_rfl
theorem go_l_toPieceS (a : List CVal) (R : Ret) (h : nf_l_toPieceS CC LL a = some R) : CC f_l_toPieceS [AVal.v (CVal.sl a)] [] = some R := fnW (by decide) rfl ((eq_l_toPieceS CC LL a).trans h)
noncomputable def nf_l_eqPiece (C : CallT) (L : LoopT) (a0 : Int) (a1 : Int) (a2 : Int) (a3 : List CVal) (b0 : Int) (b1 : Int) (b2 : Int) (b3 : List CVal) : Option Ret :=
  br (!decide (a0 = b0)) (some (CVal.bool false, []))
    (br (!decide (a1 = b1)) (some (CVal.bool false, []))
      (br (!decide (a2 = b2)) (some (CVal.bool false, []))
        ((C f_l_eqInsS [AVal.v (CVal.sl a3), AVal.v (CVal.sl b3)] []).bind fun r =>
          r.1.asBool.bind fun b => br (!b) (some (CVal.bool false, [])) (some (CVal.bool true, [])))))
theorem eq_l_eqPiece (C : CallT) (L : LoopT) (a0 : Int) (a1 : Int) (a2 : Int) (a3 : List CVal) (b0 : Int) (b1 : Int) (b2 : Int) (b3 : List CVal) : evF E N C L f_l_eqPiece [AVal.v (CVal.agg [CVal.int IntKind.i64 a0, CVal.int IntKind.i64 a1, CVal.int IntKind.i64 a2, CVal.sl a3]),
  AVal.v (CVal.agg [CVal.int IntKind.i64 b0, CVal.int IntKind.i64 b1, CVal.int IntKind.i64 b2, CVal.sl b3])] [] = nf_l_eqPiece C L a0 a1 a2 a3 b0 b1 b2 b3 := by kernel_rfl
theorem go_l_eqPiece (a0 : Int) (a1 : Int) (a2 : Int) (a3 : List CVal) (b0 : Int) (b1 : Int) (b2 : Int) (b3 : List CVal) (R : Ret) (h : nf_l_eqPiece CC LL a0 a1 a2 a3 b0 b1 b2 b3 = some R) : CC f_l_eqPiece [AVal.v (CVal.agg [CVal.int IntKind.i64 a0, CVal.int IntKind.i64 a1, CVal.int IntKind.i64 a2, CVal.sl a3]),
  AVal.v (CVal.agg [CVal.int IntKind.i64 b0, CVal.int IntKind.i64 b1, CVal.int IntKind.i64 b2, CVal.sl b3])] [] = some R := fnW (by decide) rfl ((eq_l_eqPiece CC LL a0 a1 a2 a3 b0 b1 b2 b3).trans h)
noncomputable def nf_i_pieceOk_1 (C : CallT) (L : LoopT) (a0 : Int) (a1 : Int) (a2 : Int) (a3 : Int) (a4 : Int) (a5 : List CVal) (a6 : Int) (b0 : Int) (b1 : Int) (b2 : Int) (b3 : List CVal) : Option Ret :=
  (C f_i_insOk
        [AVal.v (CVal.agg [CVal.int IntKind.i64 b0, CVal.int IntKind.i64 b1, CVal.int IntKind.i64 b2, CVal.sl b3]),
          AVal.v
            (CVal.agg
              [CVal.int IntKind.i64 a0, CVal.int IntKind.i64 a1, CVal.int IntKind.i64 a2, CVal.int IntKind.i64 a3,
                CVal.int IntKind.i64 a4, CVal.sl a5, CVal.int IntKind.i64 a6])]
        []).bind
    fun r => r.1.asBool.bind fun b => some (CVal.bool !b, [])
theorem eq_i_pieceOk_1 (C : CallT) (L : LoopT) (a0 : Int) (a1 : Int) (a2 : Int) (a3 : Int) (a4 : Int) (a5 : List CVal) (a6 : Int) (b0 : Int) (b1 : Int) (b2 : Int) (b3 : List CVal) : evF E N C L f_i_pieceOk_1 [AVal.v
    (CVal.agg
      [CVal.int IntKind.i64 a0, CVal.int IntKind.i64 a1, CVal.int IntKind.i64 a2, CVal.int IntKind.i64 a3,
        CVal.int IntKind.i64 a4, CVal.sl a5, CVal.int IntKind.i64 a6]),
  AVal.v
    ((CVal.agg [CVal.int IntKind.i64 b0, CVal.int IntKind.i64 b1, CVal.int IntKind.i64 b2, CVal.sl b3]).fp (0 : Nat))] [] = nf_i_pieceOk_1 C L a0 a1 a2 a3 a4 a5 a6 b0 b1 b2 b3 := by kernel_rfl
theorem go_i_pieceOk_1 (a0 : Int) (a1 : Int) (a2 : Int) (a3 : Int) (a4 : Int) (a5 : List CVal) (a6 : Int) (b0 : Int) (b1 : Int) (b2 : Int) (b3 : List CVal) (R : Ret) (h : nf_i_pieceOk_1 CC LL a0 a1 a2 a3 a4 a5 a6 b0 b1 b2 b3 = some R) : CC f_i_pieceOk_1 [AVal.v
    (CVal.agg
      [CVal.int IntKind.i64 a0, CVal.int IntKind.i64 a1, CVal.int IntKind.i64 a2, CVal.int IntKind.i64 a3,
        CVal.int IntKind.i64 a4, CVal.sl a5, CVal.int IntKind.i64 a6]),
  AVal.v
    ((CVal.agg [CVal.int IntKind.i64 b0, CVal.int IntKind.i64 b1, CVal.int IntKind.i64 b2, CVal.sl b3]).fp (0 : Nat))] [] = some R := fnW (by decide) rfl ((eq_i_pieceOk_1 CC LL a0 a1 a2 a3 a4 a5 a6 b0 b1 b2 b3).trans h)
noncomputable def nf_i_insOk (C : CallT) (L : LoopT) (a0 : Int) (a1 : Int) (a2 : Int) (a3 : List CVal) (b0 : Int) (b1 : Int) (b2 : Int) (b3 : Int) (b4 : Int) (b5 : List CVal) (b6 : Int) : Option Ret :=
  (C f_i_insForm [AVal.v (CVal.int IntKind.i64 b0)] []).bind fun r =>
    r.1.asTup.bind fun y =>
      y[(0 : Nat)]?.bind fun y =>
        r.1.asTup.bind fun y =>
          y[(1 : Nat)]?.bind fun y =>
            (y.asBool.bind fun b =>
                  br (!b) (some (true, PUnit.unit))
                    ((C f_i_numOk
                          [AVal.v
                              (CVal.agg
                                [CVal.int IntKind.i64 b0, CVal.int IntKind.i64 b1, CVal.int IntKind.i64 b2,
                                  CVal.int IntKind.i64 b3, CVal.int IntKind.i64 b4, CVal.sl b5, CVal.int IntKind.i64 b6])]
                          []).bind
                      fun r =>
                      r.1.asBool.bind fun b =>
                        br (!b) (some (true, PUnit.unit))
                          ((C f_i_hasPart [AVal.v (CVal.int IntKind.i64 b0), AVal.v (CVal.int IntKind.u8 (84 : Int))]
                                []).bind
                            fun r =>
                            (C f_i_fieldOk
                                  [AVal.v (CVal.int IntKind.i64 b6), AVal.v r.1,
                                    AVal.v (CVal.int IntKind.i64 (↑a3.length : Int))]
                                  []).bind
                              fun r => r.1.asBool.bind fun b => some (!b, PUnit.unit)))).bind
              fun y =>
              br y.1 (some (CVal.bool false, []))
                (((C f_i_hasPart [AVal.v (CVal.int IntKind.i64 b0), AVal.v (CVal.int IntKind.u8 (68 : Int))] []).bind
                      fun r =>
                      (C f_i_fieldOk [AVal.v (CVal.int IntKind.i64 b1), AVal.v r.1, AVal.v (CVal.int IntKind.i64 a2)]
                            []).bind
                        fun r =>
                        r.1.asBool.bind fun b =>
                          br (!b) (some (true, PUnit.unit))
                            ((C f_i_hasPart [AVal.v (CVal.int IntKind.i64 b0), AVal.v (CVal.int IntKind.u8 (88 : Int))]
                                  []).bind
                              fun r =>
                              (C f_i_fieldOk
                                    [AVal.v (CVal.int IntKind.i64 b2), AVal.v r.1, AVal.v (CVal.int IntKind.i64 a2)]
                                    []).bind
                                fun r =>
                                r.1.asBool.bind fun b =>
                                  br (!b) (some (true, PUnit.unit))
                                    ((C f_i_hasPart
                                          [AVal.v (CVal.int IntKind.i64 b0), AVal.v (CVal.int IntKind.u8 (89 : Int))]
                                          []).bind
                                      fun r =>
                                      (C f_i_fieldOk
                                            [AVal.v (CVal.int IntKind.i64 b3), AVal.v r.1,
                                              AVal.v (CVal.int IntKind.i64 a2)]
                                            []).bind
                                        fun r => r.1.asBool.bind fun b => some (!b, PUnit.unit)))).bind
                  fun y =>
                  br y.1 (some (CVal.bool false, []))
                    (br (decide (b0 = (8 : Int)))
                      ((C f_slices_ContainsFunc_int
                            [AVal.v (CVal.sl b5),
                              AVal.v
                                (CVal.func f_i_insOk_1
                                  [(CVal.agg
                                          [CVal.int IntKind.i64 a0, CVal.int IntKind.i64 a1, CVal.int IntKind.i64 a2,
                                            CVal.sl a3]).fp
                                      (0 : Nat)])]
                            []).bind
                        fun r => r.1.asBool.bind fun b => some (CVal.bool !b, []))
                      ((L f_i_insOk (0 : Nat) lc_i_insOk_0 [] k_i_insOk_0
                            ((PUnit.unit, b5, (↑b5.length : Int), (0 : Int), PUnit.unit),
                              (b0, b1, b2, b3, b4, b5, b6, PUnit.unit), PUnit.unit)).bind
                        fun r =>
                        loK r (fun r => some r) fun j p => br (j == (0 : Nat)) (some (CVal.bool true, [])) none)))
theorem eq_i_insOk (C : CallT) (L : LoopT) (a0 : Int) (a1 : Int) (a2 : Int) (a3 : List CVal) (b0 : Int) (b1 : Int) (b2 : Int) (b3 : Int) (b4 : Int) (b5 : List CVal) (b6 : Int) : evF E N C L f_i_insOk [AVal.v (CVal.agg [CVal.int IntKind.i64 a0, CVal.int IntKind.i64 a1, CVal.int IntKind.i64 a2, CVal.sl a3]),
  AVal.v
    (CVal.agg
      [CVal.int IntKind.i64 b0, CVal.int IntKind.i64 b1, CVal.int IntKind.i64 b2, CVal.int IntKind.i64 b3,
        CVal.int IntKind.i64 b4, CVal.sl b5, CVal.int IntKind.i64 b6])] [] = nf_i_insOk C L a0 a1 a2 a3 b0 b1 b2 b3 b4 b5 b6 := by kernel_rfl
theorem go_i_insOk (a0 : Int) (a1 : Int) (a2 : Int) (a3 : List CVal) (b0 : Int) (b1 : Int) (b2 : Int) (b3 : Int) (b4 : Int) (b5 : List CVal) (b6 : Int) (R : Ret) (h : nf_i_insOk CC LL a0 a1 a2 a3 b0 b1 b2 b3 b4 b5 b6 = some R) : CC f_i_insOk [AVal.v (CVal.agg [CVal.int IntKind.i64 a0, CVal.int IntKind.i64 a1, CVal.int IntKind.i64 a2, CVal.sl a3]),
  AVal.v
    (CVal.agg
      [CVal.int IntKind.i64 b0, CVal.int IntKind.i64 b1, CVal.int IntKind.i64 b2, CVal.int IntKind.i64 b3,
        CVal.int IntKind.i64 b4, CVal.sl b5, CVal.int IntKind.i64 b6])] [] = some R := fnW (by decide) rfl ((eq_i_insOk CC LL a0 a1 a2 a3 b0 b1 b2 b3 b4 b5 b6).trans h)
noncomputable def nf_i_fieldOk (C : CallT) (L : LoopT) (a : Int) (b : Bool) (c : Int) : Option Ret :=
  br b
    ((br (decide ((0 : Int) ≤ a)) (some (decide (a < c), PUnit.unit)) (some (false, PUnit.unit))).bind fun y =>
      some (CVal.bool y.1, []))
    (some (CVal.bool (decide (a = (0 : Int))), []))
theorem eq_i_fieldOk (C : CallT) (L : LoopT) (a : Int) (b : Bool) (c : Int) : evF E N C L f_i_fieldOk [AVal.v (CVal.int IntKind.i64 a), AVal.v (CVal.bool b), AVal.v (CVal.int IntKind.i64 c)] [] = nf_i_fieldOk C L a b c := by kernel_rfl
theorem go_i_fieldOk (a : Int) (b : Bool) (c : Int) (R : Ret) (h : nf_i_fieldOk CC LL a b c = some R) : CC f_i_fieldOk [AVal.v (CVal.int IntKind.i64 a), AVal.v (CVal.bool b), AVal.v (CVal.int IntKind.i64 c)] [] = some R := fnW (by decide) rfl ((eq_i_fieldOk CC LL a b c).trans h)
noncomputable def nf_slices_Index_byte (C : CallT) (L : LoopT) (a : List CVal) (b : Int) : Option Ret :=
  (L f_slices_Index_byte (0 : Nat) lc_slices_Index_byte_0 [] k_slices_Index_byte_0
        ((a, b, (↑a.length : Int), (0 : Int), PUnit.unit), PUnit.unit)).bind
    fun r => loK r (fun r => some r) fun j p => br (j == (0 : Nat)) (some (CVal.int IntKind.i64 (-1 : Int), [])) none
theorem eq_slices_Index_byte (C : CallT) (L : LoopT) (a : List CVal) (b : Int) : evF E N C L f_slices_Index_byte [AVal.v (CVal.sl a), AVal.v (CVal.int IntKind.u8 b)] [] = nf_slices_Index_byte C L a b := by kernel_rfl
theorem go_slices_Index_byte (a : List CVal) (b : Int) (R : Ret) (h : nf_slices_Index_byte CC LL a b = some R) : CC f_slices_Index_byte [AVal.v (CVal.sl a), AVal.v (CVal.int IntKind.u8 b)] [] = some R := fnW (by decide) rfl ((eq_slices_Index_byte CC LL a b).trans h)
noncomputable def nl_s_l9Lams_2 (C : CallT) (L : LoopT) (x00 : CVal) (x02 : Int) (x04 : Int) (x10 : Int) (x11 : Int) (x12 : Int) (x13 : List CVal) (x20 : Int) (x21 : Int) (x22 : Int) (x23 : Int) (x24 : Int) (x25 : List CVal) (x26 : Int) : Option (LO k_s_l9Lams_2.T) :=
  (br (decide (x04 < (↑x25.length : Int))) (some (decide (x20 = (14 : Int)), PUnit.unit)) (some (false, PUnit.unit))).bind
    fun y =>
    br y.1
      (x00.asFp.bind fun y =>
        (y.1.sub y.2 (5 : Nat)).bind fun y =>
          br (decide ((0 : Int) ≤ x04) && true)
            (x25[x04.toNat]?.bind fun y_1 =>
              br (CVal.fits false (1 : Nat) y_1)
                ((y_1.cell (0 : Nat)).bind fun c =>
                  (C f_s_l9Fun [AVal.v y, AVal.v c] []).bind fun r =>
                    (CVal.asInt IntKind.i64 r.1).bind fun n =>
                      br (decide (n < (0 : Int))) (some (LO.ret (CVal.bool false, [])))
                        (L f_s_l9Lams (2 : Nat) lc_s_l9Lams_2 [] k_s_l9Lams_2
                          ((x00, PUnit.unit, x02, PUnit.unit, IntKind.i64.wrap (x04 + (1 : Int)), PUnit.unit),
                            (x10, x11, x12, x13, PUnit.unit), (x20, x21, x22, x23, x24, x25, x26, PUnit.unit),
                            PUnit.unit)))
                none)
            none)
      (some
        (LO.out (2 : Nat)
          ((x00, PUnit.unit, x02, PUnit.unit, x04, PUnit.unit), (x10, x11, x12, x13, PUnit.unit),
            (x20, x21, x22, x23, x24, x25, x26, PUnit.unit), PUnit.unit)))
theorem el_s_l9Lams_2 (C : CallT) (L : LoopT) (x00 : CVal) (x02 : Int) (x04 : Int) (x10 : Int) (x11 : Int) (x12 : Int) (x13 : List CVal) (x20 : Int) (x21 : Int) (x22 : Int) (x23 : Int) (x24 : Int) (x25 : List CVal) (x26 : Int) : evL E N C L f_s_l9Lams 2 lc_s_l9Lams_2 [] k_s_l9Lams_2 ((x00, (), x02, (), x04, ()), (x10, x11, x12, x13, ()), (x20, x21, x22, x23, x24, x25, x26, ()), ()) = nl_s_l9Lams_2 C L x00 x02 x04 x10 x11 x12 x13 x20 x21 x22 x23 x24 x25 x26 := by kernel_rfl
theorem gl_s_l9Lams_2 (x00 : CVal) (x02 : Int) (x04 : Int) (x10 : Int) (x11 : Int) (x12 : Int) (x13 : List CVal) (x20 : Int) (x21 : Int) (x22 : Int) (x23 : Int) (x24 : Int) (x25 : List CVal) (x26 : Int) (R : LO k_s_l9Lams_2.T) (h : nl_s_l9Lams_2 CC LL x00 x02 x04 x10 x11 x12 x13 x20 x21 x22 x23 x24 x25 x26 = some R) : LL f_s_l9Lams 2 lc_s_l9Lams_2 [] k_s_l9Lams_2 ((x00, (), x02, (), x04, ()), (x10, x11, x12, x13, ()), (x20, x21, x22, x23, x24, x25, x26, ()), ()) = some R := loopW ((el_s_l9Lams_2 CC LL x00 x02 x04 x10 x11 x12 x13 x20 x21 x22 x23 x24 x25 x26).trans h)
noncomputable def nl_i_lamsOk_1_0 (C : CallT) (L : LoopT) (x00 : CVal) (x02 : List CVal) (x03 : Int) (x04 : Int) (x10 : Int) (x11 : Int) (x12 : Int) (x13 : Int) (x14 : Int) (x15 : List CVal) (x16 : Int) : Option (LO k_i_lamsOk_1_0.T) :=
  br (decide (x04 < x03))
    (br (decide ((0 : Int) ≤ x04) && true)
      (x02[x04.toNat]?.bind fun y =>
        br (CVal.fits false (1 : Nat) y)
          ((y.cell (0 : Nat)).bind fun c =>
            (br (decide (x10 = (14 : Int)))
                  (x00.asFp.bind fun y =>
                    (y.1.sub y.2 (5 : Nat)).bind fun y =>
                      (C f_i_pieceAt [AVal.v y, AVal.v c] []).bind fun r =>
                        (CVal.asInt IntKind.i64 r.1).bind fun n =>
                          br (decide (n < (0 : Int))) (some (true, PUnit.unit))
                            (br (decide ((0 : Int) < x04))
                              (br (decide ((0 : Int) ≤ IntKind.i64.wrap (x04 - (1 : Int))) && true)
                                (x15[(IntKind.i64.wrap (x04 - (1 : Int))).toNat]?.bind fun y =>
                                  br (CVal.fits false (1 : Nat) y)
                                    ((y.cell (0 : Nat)).bind fun c_1 =>
                                      (CVal.asInt IntKind.i64 c_1).bind fun n =>
                                        (CVal.asInt IntKind.i64 c).bind fun n_1 => some (decide (n_1 ≤ n), PUnit.unit))
                                    none)
                                none)
                              (some (false, PUnit.unit))))
                  (some (false, PUnit.unit))).bind
              fun y =>
              br y.1 (some (LO.ret (CVal.bool true, [])))
                (L f_i_lamsOk_1 (0 : Nat) lc_i_lamsOk_1_0 [] k_i_lamsOk_1_0
                  ((x00, PUnit.unit, x02, x03, IntKind.i64.wrap (x04 + (1 : Int)), PUnit.unit),
                    (x10, x11, x12, x13, x14, x15, x16, PUnit.unit), PUnit.unit)))
          none)
      none)
    (some
      (LO.out (0 : Nat)
        ((x00, PUnit.unit, x02, x03, x04, PUnit.unit), (x10, x11, x12, x13, x14, x15, x16, PUnit.unit), PUnit.unit)))
theorem el_i_lamsOk_1_0 (C : CallT) (L : LoopT) (x00 : CVal) (x02 : List CVal) (x03 : Int) (x04 : Int) (x10 : Int) (x11 : Int) (x12 : Int) (x13 : Int) (x14 : Int) (x15 : List CVal) (x16 : Int) : evL E N C L f_i_lamsOk_1 0 lc_i_lamsOk_1_0 [] k_i_lamsOk_1_0 ((x00, (), x02, x03, x04, ()), (x10, x11, x12, x13, x14, x15, x16, ()), ()) = nl_i_lamsOk_1_0 C L x00 x02 x03 x04 x10 x11 x12 x13 x14 x15 x16 := by kernel_rfl
theorem gl_i_lamsOk_1_0 (x00 : CVal) (x02 : List CVal) (x03 : Int) (x04 : Int) (x10 : Int) (x11 : Int) (x12 : Int) (x13 : Int) (x14 : Int) (x15 : List CVal) (x16 : Int) (R : LO k_i_lamsOk_1_0.T) (h : nl_i_lamsOk_1_0 CC LL x00 x02 x03 x04 x10 x11 x12 x13 x14 x15 x16 = some R) : LL f_i_lamsOk_1 0 lc_i_lamsOk_1_0 [] k_i_lamsOk_1_0 ((x00, (), x02, x03, x04, ()), (x10, x11, x12, x13, x14, x15, x16, ()), ()) = some R := loopW ((el_i_lamsOk_1_0 CC LL x00 x02 x03 x04 x10 x11 x12 x13 x14 x15 x16).trans h)
noncomputable def nl_slices_Index_byte_0 (C : CallT) (L : LoopT) (x00 : List CVal) (x01 : Int) (x02 : Int) (x03 : Int) : Option (LO k_slices_Index_byte_0.T) :=
  br (decide (x03 < x02))
    (br (decide ((0 : Int) ≤ x03) && true)
      (x00[x03.toNat]?.bind fun y =>
        br (CVal.fits false (1 : Nat) y)
          ((y.cell (0 : Nat)).bind fun c =>
            (CVal.asInt IntKind.u8 c).bind fun n =>
              br (decide (x01 = n)) (some (LO.ret (CVal.int IntKind.i64 x03, [])))
                (L f_slices_Index_byte (0 : Nat) lc_slices_Index_byte_0 [] k_slices_Index_byte_0
                  ((x00, x01, x02, IntKind.i64.wrap (x03 + (1 : Int)), PUnit.unit), PUnit.unit)))
          none)
      none)
    (some (LO.out (0 : Nat) ((x00, x01, x02, x03, PUnit.unit), PUnit.unit)))
theorem el_slices_Index_byte_0 (C : CallT) (L : LoopT) (x00 : List CVal) (x01 : Int) (x02 : Int) (x03 : Int) : evL E N C L f_slices_Index_byte 0 lc_slices_Index_byte_0 [] k_slices_Index_byte_0 ((x00, x01, x02, x03, ()), ()) = nl_slices_Index_byte_0 C L x00 x01 x02 x03 := by kernel_rfl
theorem gl_slices_Index_byte_0 (x00 : List CVal) (x01 : Int) (x02 : Int) (x03 : Int) (R : LO k_slices_Index_byte_0.T) (h : nl_slices_Index_byte_0 CC LL x00 x01 x02 x03 = some R) : LL f_slices_Index_byte 0 lc_slices_Index_byte_0 [] k_slices_Index_byte_0 ((x00, x01, x02, x03, ()), ()) = some R := loopW ((el_slices_Index_byte_0 CC LL x00 x01 x02 x03).trans h)
end Go.Proofs.Ytomkegeojknihaa.Abs
