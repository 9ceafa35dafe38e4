/- What the functions come to in the abstract machine. -/
import Derived.Test.YtomkegeojknihaaU1Ann
import Derived.KernelRfl
set_option linter.unusedVariables false
set_option maxRecDepth 100000
namespace Go.Proofs.Ytomkegeojknihaa.Abs
open Go Go.Proofs
noncomputable def nf_s_CodeOk (C : CallT) (L : LoopT) (a0 : List CVal) (a10 : Int) (a11 : Int) (a12 : Int) (a13 : List CVal) : Option Ret :=
  (br (decide ((200 : Int) < (↑a0.length : Int))) (some (true, PUnit.unit))
        (br (!decide (a10 = (-1 : Int))) (some (true, PUnit.unit))
          ((C f_s_l9Piece
                [AVal.v
                    (CVal.agg
                      [CVal.int IntKind.i64 a10, CVal.int IntKind.i64 a11, CVal.int IntKind.i64 a12, CVal.sl a13])]
                []).bind
            fun r =>
            r.1.asBool.bind fun b =>
              br (!b) (some (true, PUnit.unit))
                ((C f_s_l9Lams
                      [AVal.v
                          (CVal.agg
                            [CVal.sl a0, CVal.int IntKind.i64 a10, CVal.int IntKind.i64 a11, CVal.int IntKind.i64 a12,
                              CVal.sl a13]),
                        AVal.v
                          (CVal.agg
                            [CVal.int IntKind.i64 a10, CVal.int IntKind.i64 a11, CVal.int IntKind.i64 a12, CVal.sl a13])]
                      []).bind
                  fun r => r.1.asBool.bind fun b => some (!b, PUnit.unit))))).bind
    fun y =>
    br y.1 (some (CVal.bool false, []))
      ((L f_s_CodeOk (0 : Nat) lc_s_CodeOk_0 [] k_s_CodeOk_0
            ((PUnit.unit, (0 : Int), PUnit.unit), (a0, a10, a11, a12, a13, PUnit.unit), PUnit.unit)).bind
        fun r => loK r (fun r => some r) fun j p => br (j == (0 : Nat)) (some (CVal.bool true, [])) none)
theorem eq_s_CodeOk (C : CallT) (L : LoopT) (a0 : List CVal) (a10 : Int) (a11 : Int) (a12 : Int) (a13 : List CVal) : evF E N C L f_s_CodeOk [AVal.v
    (CVal.agg [CVal.sl a0, CVal.int IntKind.i64 a10, CVal.int IntKind.i64 a11, CVal.int IntKind.i64 a12, CVal.sl a13])] [] = nf_s_CodeOk C L a0 a10 a11 a12 a13 := by kernel_rfl
theorem go_s_CodeOk (a0 : List CVal) (a10 : Int) (a11 : Int) (a12 : Int) (a13 : List CVal) (R : Ret) (h : nf_s_CodeOk CC LL a0 a10 a11 a12 a13 = some R) : CC f_s_CodeOk [AVal.v
    (CVal.agg [CVal.sl a0, CVal.int IntKind.i64 a10, CVal.int IntKind.i64 a11, CVal.int IntKind.i64 a12, CVal.sl a13])] [] = some R := fnW (by decide) rfl ((eq_s_CodeOk CC LL a0 a10 a11 a12 a13).trans h)
noncomputable def nf_l_toPiece (C : CallT) (L : LoopT) (a0 : Int) (a1 : Int) (a2 : Int) (a3 : List CVal) : Option Ret :=
  (C f_l_toInsS [AVal.v (CVal.sl a3)] []).bind fun r =>
    br (r.1.isFlat && true)
      (some (CVal.agg [CVal.int IntKind.i64 a0, CVal.int IntKind.i64 a1, CVal.int IntKind.i64 a2, r.1], [])) none
theorem eq_l_toPiece (C : CallT) (L : LoopT) (a0 : Int) (a1 : Int) (a2 : Int) (a3 : List CVal) : evF E N C L f_l_toPiece [AVal.v (CVal.agg [CVal.int IntKind.i64 a0, CVal.int IntKind.i64 a1, CVal.int IntKind.i64 a2, CVal.sl a3])] [] = nf_l_toPiece C L a0 a1 a2 a3 := by kernel_rfl
theorem go_l_toPiece (a0 : Int) (a1 : Int) (a2 : Int) (a3 : List CVal) (R : Ret) (h : nf_l_toPiece CC LL a0 a1 a2 a3 = some R) : CC f_l_toPiece [AVal.v (CVal.agg [CVal.int IntKind.i64 a0, CVal.int IntKind.i64 a1, CVal.int IntKind.i64 a2, CVal.sl a3])] [] = some R := fnW (by decide) rfl ((eq_l_toPiece CC LL a0 a1 a2 a3).trans h)
noncomputable def nf_l_szInsS (C : CallT) (L : LoopT) (a : List CVal) (b : Int) : Option Ret :=
  br (decide (IntKind.i64.wrap (b - (↑a.length : Int)) < (0 : Int))) (some (CVal.int IntKind.i64 (-1 : Int), []))
    ((L f_l_szInsS (0 : Nat) lc_l_szInsS_0 [] k_l_szInsS_0
          ((a, IntKind.i64.wrap (b - (↑a.length : Int)), (0 : Int), PUnit.unit), PUnit.unit)).bind
      fun r => loK r (fun r => some r) fun j p => br (j == (0 : Nat)) (some (CVal.int IntKind.i64 p.fst.snd.1, [])) none)
theorem eq_l_szInsS (C : CallT) (L : LoopT) (a : List CVal) (b : Int) : evF E N C L f_l_szInsS [AVal.v (CVal.sl a), AVal.v (CVal.int IntKind.i64 b)] [] = nf_l_szInsS C L a b := by kernel_rfl
theorem go_l_szInsS (a : List CVal) (b : Int) (R : Ret) (h : nf_l_szInsS CC LL a b = some R) : CC f_l_szInsS [AVal.v (CVal.sl a), AVal.v (CVal.int IntKind.i64 b)] [] = some R := fnW (by decide) rfl ((eq_l_szInsS CC LL a b).trans h)
noncomputable def nf_i_lamsOk_1 (C : CallT) (L : LoopT) (a0 : Int) (a1 : Int) (a2 : Int) (a3 : Int) (a4 : Int) (a5 : List CVal) (a6 : Int) (b0 : List CVal) (b10 : Int) (b11 : Int) (b12 : Int) (b13 : List CVal) : Option Ret :=
  br (decide (a0 = (8 : Int)))
    ((C f_i_pieceAt
          [AVal.v
              (CVal.agg
                [CVal.sl b0, CVal.int IntKind.i64 b10, CVal.int IntKind.i64 b11, CVal.int IntKind.i64 b12, CVal.sl b13]),
            AVal.v (CVal.int IntKind.i64 a4)]
          []).bind
      fun r =>
      ((CVal.asInt IntKind.i64 r.1).bind fun n =>
            br (decide (n < (0 : Int))) (some (true, PUnit.unit))
              (r.1.asIdx.bind fun y =>
                br (decide ((0 : Int) ≤ y) && true)
                  (b0[y.toNat]?.bind fun y =>
                    br (CVal.fits true (4 : Nat) y)
                      ((y.cell (1 : Nat)).bind fun c =>
                        (CVal.asInt IntKind.i64 c).bind fun n =>
                          some (!decide ((↑a5.length : Int) = IntKind.i64.wrap (n - (1 : Int))), PUnit.unit))
                      none)
                  none)).bind
        fun y => some (CVal.bool y.1, []))
    ((L f_i_lamsOk_1 (0 : Nat) lc_i_lamsOk_1_0 [] k_i_lamsOk_1_0
          (((CVal.agg
                    [CVal.sl b0, CVal.int IntKind.i64 b10, CVal.int IntKind.i64 b11, CVal.int IntKind.i64 b12,
                      CVal.sl b13]).fp
                (0 : Nat),
              PUnit.unit, a5, (↑a5.length : Int), (0 : Int), PUnit.unit),
            (a0, a1, a2, a3, a4, a5, a6, PUnit.unit), PUnit.unit)).bind
      fun r => loK r (fun r => some r) fun j p => br (j == (0 : Nat)) (some (CVal.bool false, [])) none)
theorem eq_i_lamsOk_1 (C : CallT) (L : LoopT) (a0 : Int) (a1 : Int) (a2 : Int) (a3 : Int) (a4 : Int) (a5 : List CVal) (a6 : Int) (b0 : List CVal) (b10 : Int) (b11 : Int) (b12 : Int) (b13 : List CVal) : evF E N C L f_i_lamsOk_1 [AVal.v
    (CVal.agg
      [CVal.int IntKind.i64 a0, CVal.int IntKind.i64 a1, CVal.int IntKind.i64 a2, CVal.int IntKind.i64 a3,
        CVal.int IntKind.i64 a4, CVal.sl a5, CVal.int IntKind.i64 a6]),
  AVal.v
    ((CVal.agg
          [CVal.sl b0, CVal.int IntKind.i64 b10, CVal.int IntKind.i64 b11, CVal.int IntKind.i64 b12, CVal.sl b13]).fp
      (0 : Nat))] [] = nf_i_lamsOk_1 C L a0 a1 a2 a3 a4 a5 a6 b0 b10 b11 b12 b13 := by kernel_rfl
theorem go_i_lamsOk_1 (a0 : Int) (a1 : Int) (a2 : Int) (a3 : Int) (a4 : Int) (a5 : List CVal) (a6 : Int) (b0 : List CVal) (b10 : Int) (b11 : Int) (b12 : Int) (b13 : List CVal) (R : Ret) (h : nf_i_lamsOk_1 CC LL a0 a1 a2 a3 a4 a5 a6 b0 b10 b11 b12 b13 = some R) : CC f_i_lamsOk_1 [AVal.v
    (CVal.agg
      [CVal.int IntKind.i64 a0, CVal.int IntKind.i64 a1, CVal.int IntKind.i64 a2, CVal.int IntKind.i64 a3,
        CVal.int IntKind.i64 a4, CVal.sl a5, CVal.int IntKind.i64 a6]),
  AVal.v
    ((CVal.agg
          [CVal.sl b0, CVal.int IntKind.i64 b10, CVal.int IntKind.i64 b11, CVal.int IntKind.i64 b12, CVal.sl b13]).fp
      (0 : Nat))] [] = some R := fnW (by decide) rfl ((eq_i_lamsOk_1 CC LL a0 a1 a2 a3 a4 a5 a6 b0 b10 b11 b12 b13).trans h)
noncomputable def nf_i_pieceAt (C : CallT) (L : LoopT) (a0 : List CVal) (a10 : Int) (a11 : Int) (a12 : Int) (a13 : List CVal) (b : Int) : Option Ret :=
  (C f_slices_IndexFunc_Piece
        [AVal.v (CVal.sl a0), AVal.v (CVal.func f_i_pieceAt_1 [(CVal.int IntKind.i64 b).fp (0 : Nat)])] []).bind
    fun r => some (r.1, [])
theorem eq_i_pieceAt (C : CallT) (L : LoopT) (a0 : List CVal) (a10 : Int) (a11 : Int) (a12 : Int) (a13 : List CVal) (b : Int) : evF E N C L f_i_pieceAt [AVal.v
    (CVal.agg [CVal.sl a0, CVal.int IntKind.i64 a10, CVal.int IntKind.i64 a11, CVal.int IntKind.i64 a12, CVal.sl a13]),
  AVal.v (CVal.int IntKind.i64 b)] [] = nf_i_pieceAt C L a0 a10 a11 a12 a13 b := by kernel_rfl
theorem go_i_pieceAt (a0 : List CVal) (a10 : Int) (a11 : Int) (a12 : Int) (a13 : List CVal) (b : Int) (R : Ret) (h : nf_i_pieceAt CC LL a0 a10 a11 a12 a13 b = some R) : CC f_i_pieceAt [AVal.v
    (CVal.agg [CVal.sl a0, CVal.int IntKind.i64 a10, CVal.int IntKind.i64 a11, CVal.int IntKind.i64 a12, CVal.sl a13]),
  AVal.v (CVal.int IntKind.i64 b)] [] = some R := fnW (by decide) rfl ((eq_i_pieceAt CC LL a0 a10 a11 a12 a13 b).trans h)
noncomputable def nf_slices_ContainsFunc_int (C : CallT) (L : LoopT) (a : List CVal) (b : CVal) : Option Ret :=
  (C f_slices_IndexFunc_int [AVal.v (CVal.sl a), AVal.v b] []).bind fun r =>
    (CVal.asInt IntKind.i64 r.1).bind fun n => some (CVal.bool (decide ((0 : Int) ≤ n)), [])
theorem eq_slices_ContainsFunc_int (C : CallT) (L : LoopT) (a : List CVal) (b : CVal) : evF E N C L f_slices_ContainsFunc_int [AVal.v (CVal.sl a), AVal.v b] [] = nf_slices_ContainsFunc_int C L a b := by kernel_rfl
theorem go_slices_ContainsFunc_int (a : List CVal) (b : CVal) (R : Ret) (h : nf_slices_ContainsFunc_int CC LL a b = some R) : CC f_slices_ContainsFunc_int [AVal.v (CVal.sl a), AVal.v b] [] = some R := fnW (by decide) rfl ((eq_slices_ContainsFunc_int CC LL a b).trans h)
noncomputable def nl_s_CodeOk_0 (C : CallT) (L : LoopT) (x01 : Int) (x10 : List CVal) (x11 : Int) (x12 : Int) (x13 : Int) (x14 : List CVal) : Option (LO k_s_CodeOk_0.T) :=
  br (decide (x01 < (↑x10.length : Int)))
    (br (decide ((0 : Int) ≤ x01) && true)
      (x10[x01.toNat]?.bind fun y =>
        br (CVal.fits true (4 : Nat) y)
          ((y.sub (0 : Nat) (4 : Nat)).bind fun y =>
            br (CVal.isAggN (4 : Nat) y)
              ((y.cell (0 : Nat)).bind fun c =>
                (y.cell (1 : Nat)).bind fun c_1 =>
                  (y.cell (2 : Nat)).bind fun c_2 =>
                    (y.cell (3 : Nat)).bind fun c_3 =>
                      ((CVal.asInt IntKind.i64 c).bind fun n =>
                            br (decide (n < (0 : Int))) (some (true, PUnit.unit))
                              (br (decide ((0 : Int) < x01))
                                (br (decide ((0 : Int) ≤ IntKind.i64.wrap (x01 - (1 : Int))) && true)
                                  (x10[(IntKind.i64.wrap (x01 - (1 : Int))).toNat]?.bind fun y =>
                                    br (CVal.fits true (4 : Nat) y)
                                      ((y.cell (0 : Nat)).bind fun c_4 =>
                                        (CVal.asInt IntKind.i64 c_4).bind fun n =>
                                          (CVal.asInt IntKind.i64 c).bind fun n_1 =>
                                            br (decide (n_1 ≤ n)) (some (true, PUnit.unit))
                                              ((C f_s_l9Piece [AVal.v (CVal.agg [c, c_1, c_2, c_3])] []).bind fun r =>
                                                r.1.asBool.bind fun b =>
                                                  br (!b) (some (true, PUnit.unit))
                                                    ((C f_s_l9Lams
                                                          [AVal.v
                                                              (CVal.agg
                                                                [CVal.sl x10, CVal.int IntKind.i64 x11,
                                                                  CVal.int IntKind.i64 x12, CVal.int IntKind.i64 x13,
                                                                  CVal.sl x14]),
                                                            AVal.v (CVal.agg [c, c_1, c_2, c_3])]
                                                          []).bind
                                                      fun r => r.1.asBool.bind fun b => some (!b, PUnit.unit))))
                                      none)
                                  none)
                                ((C f_s_l9Piece [AVal.v (CVal.agg [c, c_1, c_2, c_3])] []).bind fun r =>
                                  r.1.asBool.bind fun b =>
                                    br (!b) (some (true, PUnit.unit))
                                      ((C f_s_l9Lams
                                            [AVal.v
                                                (CVal.agg
                                                  [CVal.sl x10, CVal.int IntKind.i64 x11, CVal.int IntKind.i64 x12,
                                                    CVal.int IntKind.i64 x13, CVal.sl x14]),
                                              AVal.v (CVal.agg [c, c_1, c_2, c_3])]
                                            []).bind
                                        fun r => r.1.asBool.bind fun b => some (!b, PUnit.unit))))).bind
                        fun y =>
                        br y.1 (some (LO.ret (CVal.bool false, [])))
                          (L f_s_CodeOk (0 : Nat) lc_s_CodeOk_0 [] k_s_CodeOk_0
                            ((PUnit.unit, IntKind.i64.wrap (x01 + (1 : Int)), PUnit.unit),
                              (x10, x11, x12, x13, x14, PUnit.unit), PUnit.unit)))
              none)
          none)
      none)
    (some (LO.out (0 : Nat) ((PUnit.unit, x01, PUnit.unit), (x10, x11, x12, x13, x14, PUnit.unit), PUnit.unit)))
theorem el_s_CodeOk_0 (C : CallT) (L : LoopT) (x01 : Int) (x10 : List CVal) (x11 : Int) (x12 : Int) (x13 : Int) (x14 : List CVal) : evL E N C L f_s_CodeOk 0 lc_s_CodeOk_0 [] k_s_CodeOk_0 (((), x01, ()), (x10, x11, x12, x13, x14, ()), ()) = nl_s_CodeOk_0 C L x01 x10 x11 x12 x13 x14 := by kernel_rfl
theorem gl_s_CodeOk_0 (x01 : Int) (x10 : List CVal) (x11 : Int) (x12 : Int) (x13 : Int) (x14 : List CVal) (R : LO k_s_CodeOk_0.T) (h : nl_s_CodeOk_0 CC LL x01 x10 x11 x12 x13 x14 = some R) : LL f_s_CodeOk 0 lc_s_CodeOk_0 [] k_s_CodeOk_0 (((), x01, ()), (x10, x11, x12, x13, x14, ()), ()) = some R := loopW ((el_s_CodeOk_0 CC LL x01 x10 x11 x12 x13 x14).trans h)
noncomputable def nl_s_l9Lams_0 (C : CallT) (L : LoopT) (x00 : CVal) (x02 : Int) (x10 : Int) (x11 : Int) (x12 : Int) (x13 : List CVal) : Option (LO k_s_l9Lams_0.T) :=
  br (decide (x02 < (↑x13.length : Int)))
    (br (decide ((0 : Int) ≤ x02) && true)
      (x13[x02.toNat]?.bind fun y =>
        br (CVal.fits true (7 : Nat) y)
          ((y.sub (0 : Nat) (7 : Nat)).bind fun y =>
            br (CVal.isAggN (7 : Nat) y)
              ((y.cell (0 : Nat)).bind fun c =>
                (y.cell (1 : Nat)).bind fun c_1 =>
                  (y.cell (2 : Nat)).bind fun c_2 =>
                    (y.cell (3 : Nat)).bind fun c_3 =>
                      (y.cell (4 : Nat)).bind fun c_4 =>
                        (y.cell (5 : Nat)).bind fun c_5 =>
                          (y.cell (6 : Nat)).bind fun c_6 =>
                            (CVal.asInt IntKind.i64 c).bind fun n =>
                              br (decide (n = (8 : Int)))
                                (x00.asFp.bind fun y =>
                                  (y.1.sub y.2 (5 : Nat)).bind fun y =>
                                    (C f_s_l9Fun [AVal.v y, AVal.v c_4] []).bind fun r =>
                                      ((CVal.asInt IntKind.i64 r.1).bind fun n =>
                                            br (decide (n < (0 : Int))) (some (true, PUnit.unit))
                                              (c_5.asSl.bind fun xs =>
                                                x00.asFp.bind fun y =>
                                                  (y.1.cell (y.2 + (0 : Nat))).bind fun c =>
                                                    r.1.asIdx.bind fun y =>
                                                      br (decide ((0 : Int) ≤ y) && true)
                                                        (c.asSl.bind fun xs_1 =>
                                                          xs_1[y.toNat]?.bind fun y =>
                                                            br (CVal.fits true (4 : Nat) y)
                                                              ((y.cell (1 : Nat)).bind fun c =>
                                                                (CVal.asInt IntKind.i64 c).bind fun n =>
                                                                  some
                                                                    (!decide
                                                                          ((↑xs.length : Int) =
                                                                            IntKind.i64.wrap (n - (1 : Int))),
                                                                      PUnit.unit))
                                                              none)
                                                        none)).bind
                                        fun y =>
                                        br y.1 (some (LO.ret (CVal.bool false, [])))
                                          ((CVal.asInt IntKind.i64 c).bind fun n =>
                                            (CVal.asInt IntKind.i64 c_1).bind fun n_1 =>
                                              (CVal.asInt IntKind.i64 c_2).bind fun n_2 =>
                                                (CVal.asInt IntKind.i64 c_3).bind fun n_3 =>
                                                  (CVal.asInt IntKind.i64 c_4).bind fun n_4 =>
                                                    c_5.asSl.bind fun xs =>
                                                      (CVal.asInt IntKind.i64 c_6).bind fun n_5 =>
                                                        (L f_s_l9Lams (2 : Nat) lc_s_l9Lams_2 [] k_s_l9Lams_2
                                                              ((x00, PUnit.unit, x02, PUnit.unit, (0 : Int), PUnit.unit),
                                                                (x10, x11, x12, x13, PUnit.unit),
                                                                (n, n_1, n_2, n_3, n_4, xs, n_5, PUnit.unit),
                                                                PUnit.unit)).bind
                                                          fun r =>
                                                          loK r (fun r => some (LO.ret r)) fun j p =>
                                                            br (j == (2 : Nat))
                                                              (L f_s_l9Lams (0 : Nat) lc_s_l9Lams_0 [] k_s_l9Lams_0
                                                                ((p.fst.1, PUnit.unit,
                                                                    IntKind.i64.wrap (p.fst.snd.snd.1 + (1 : Int)),
                                                                    PUnit.unit),
                                                                  (p.snd.fst.1, p.snd.fst.snd.1, p.snd.fst.snd.snd.1,
                                                                    p.snd.fst.snd.snd.snd.1, PUnit.unit),
                                                                  PUnit.unit))
                                                              (br (j == (1 : Nat))
                                                                (L f_s_l9Lams (0 : Nat) lc_s_l9Lams_0 [] k_s_l9Lams_0
                                                                  ((p.fst.1, PUnit.unit,
                                                                      IntKind.i64.wrap (p.fst.snd.snd.1 + (1 : Int)),
                                                                      PUnit.unit),
                                                                    (p.snd.fst.1, p.snd.fst.snd.1, p.snd.fst.snd.snd.1,
                                                                      p.snd.fst.snd.snd.snd.1, PUnit.unit),
                                                                    PUnit.unit))
                                                                (some
                                                                  (LO.out j
                                                                    ((p.fst.1, PUnit.unit, p.fst.snd.snd.1, PUnit.unit),
                                                                      (p.snd.fst.1, p.snd.fst.snd.1, p.snd.fst.snd.snd.1,
                                                                        p.snd.fst.snd.snd.snd.1, PUnit.unit),
                                                                      PUnit.unit))))))
                                ((CVal.asInt IntKind.i64 c).bind fun n =>
                                  (CVal.asInt IntKind.i64 c_1).bind fun n_1 =>
                                    (CVal.asInt IntKind.i64 c_2).bind fun n_2 =>
                                      (CVal.asInt IntKind.i64 c_3).bind fun n_3 =>
                                        (CVal.asInt IntKind.i64 c_4).bind fun n_4 =>
                                          c_5.asSl.bind fun xs =>
                                            (CVal.asInt IntKind.i64 c_6).bind fun n_5 =>
                                              (L f_s_l9Lams (2 : Nat) lc_s_l9Lams_2 [] k_s_l9Lams_2
                                                    ((x00, PUnit.unit, x02, PUnit.unit, (0 : Int), PUnit.unit),
                                                      (x10, x11, x12, x13, PUnit.unit),
                                                      (n, n_1, n_2, n_3, n_4, xs, n_5, PUnit.unit), PUnit.unit)).bind
                                                fun r =>
                                                loK r (fun r => some (LO.ret r)) fun j p =>
                                                  br (j == (2 : Nat))
                                                    (L f_s_l9Lams (0 : Nat) lc_s_l9Lams_0 [] k_s_l9Lams_0
                                                      ((p.fst.1, PUnit.unit,
                                                          IntKind.i64.wrap (p.fst.snd.snd.1 + (1 : Int)), PUnit.unit),
                                                        (p.snd.fst.1, p.snd.fst.snd.1, p.snd.fst.snd.snd.1,
                                                          p.snd.fst.snd.snd.snd.1, PUnit.unit),
                                                        PUnit.unit))
                                                    (br (j == (1 : Nat))
                                                      (L f_s_l9Lams (0 : Nat) lc_s_l9Lams_0 [] k_s_l9Lams_0
                                                        ((p.fst.1, PUnit.unit,
                                                            IntKind.i64.wrap (p.fst.snd.snd.1 + (1 : Int)), PUnit.unit),
                                                          (p.snd.fst.1, p.snd.fst.snd.1, p.snd.fst.snd.snd.1,
                                                            p.snd.fst.snd.snd.snd.1, PUnit.unit),
                                                          PUnit.unit))
                                                      (some
                                                        (LO.out j
                                                          ((p.fst.1, PUnit.unit, p.fst.snd.snd.1, PUnit.unit),
                                                            (p.snd.fst.1, p.snd.fst.snd.1, p.snd.fst.snd.snd.1,
                                                              p.snd.fst.snd.snd.snd.1, PUnit.unit),
                                                            PUnit.unit))))))
              none)
          none)
      none)
    (some (LO.out (0 : Nat) ((x00, PUnit.unit, x02, PUnit.unit), (x10, x11, x12, x13, PUnit.unit), PUnit.unit)))
theorem el_s_l9Lams_0 (C : CallT) (L : LoopT) (x00 : CVal) (x02 : Int) (x10 : Int) (x11 : Int) (x12 : Int) (x13 : List CVal) : evL E N C L f_s_l9Lams 0 lc_s_l9Lams_0 [] k_s_l9Lams_0 ((x00, (), x02, ()), (x10, x11, x12, x13, ()), ()) = nl_s_l9Lams_0 C L x00 x02 x10 x11 x12 x13 := by kernel_rfl
theorem gl_s_l9Lams_0 (x00 : CVal) (x02 : Int) (x10 : Int) (x11 : Int) (x12 : Int) (x13 : List CVal) (R : LO k_s_l9Lams_0.T) (h : nl_s_l9Lams_0 CC LL x00 x02 x10 x11 x12 x13 = some R) : LL f_s_l9Lams 0 lc_s_l9Lams_0 [] k_s_l9Lams_0 ((x00, (), x02, ()), (x10, x11, x12, x13, ()), ()) = some R := loopW ((el_s_l9Lams_0 CC LL x00 x02 x10 x11 x12 x13).trans h)
noncomputable def nl_l_eqInsS_0 (C : CallT) (L : LoopT) (x00 : List CVal) (x01 : List CVal) (x02 : Int) : Option (LO k_l_eqInsS_0.T) :=
  br (decide (x02 < (↑x00.length : Int)))
    (br (decide ((0 : Int) ≤ x02) && true)
      (x00[x02.toNat]?.bind fun y =>
        br (CVal.fits true (7 : Nat) y)
          ((y.sub (0 : Nat) (7 : Nat)).bind fun y =>
            br (decide ((0 : Int) ≤ x02) && true)
              (x01[x02.toNat]?.bind fun y_1 =>
                br (CVal.fits true (7 : Nat) y_1)
                  ((y_1.sub (0 : Nat) (7 : Nat)).bind fun y_2 =>
                    (C f_l_eqIns [AVal.v y, AVal.v y_2] []).bind fun r =>
                      r.1.asBool.bind fun b =>
                        br (!b) (some (LO.ret (CVal.bool false, [])))
                          (L f_l_eqInsS (0 : Nat) lc_l_eqInsS_0 [] k_l_eqInsS_0
                            ((x00, x01, IntKind.i64.wrap (x02 + (1 : Int)), PUnit.unit), PUnit.unit)))
                  none)
              none)
          none)
      none)
    (some (LO.out (0 : Nat) ((x00, x01, x02, PUnit.unit), PUnit.unit)))
theorem el_l_eqInsS_0 (C : CallT) (L : LoopT) (x00 : List CVal) (x01 : List CVal) (x02 : Int) : evL E N C L f_l_eqInsS 0 lc_l_eqInsS_0 [] k_l_eqInsS_0 ((x00, x01, x02, ()), ()) = nl_l_eqInsS_0 C L x00 x01 x02 := by kernel_rfl
theorem gl_l_eqInsS_0 (x00 : List CVal) (x01 : List CVal) (x02 : Int) (R : LO k_l_eqInsS_0.T) (h : nl_l_eqInsS_0 CC LL x00 x01 x02 = some R) : LL f_l_eqInsS 0 lc_l_eqInsS_0 [] k_l_eqInsS_0 ((x00, x01, x02, ()), ()) = some R := loopW ((el_l_eqInsS_0 CC LL x00 x01 x02).trans h)
end Go.Proofs.Ytomkegeojknihaa.Abs
