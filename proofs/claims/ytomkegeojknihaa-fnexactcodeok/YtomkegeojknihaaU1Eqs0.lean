/- What the functions come to in the abstract machine. -/
import Derived.Test.YtomkegeojknihaaU1Ann
import Derived.KernelRfl
set_option linter.unusedVariables false
set_option maxRecDepth 100000
namespace Go.Proofs.Ytomkegeojknihaa.Abs
open Go Go.Proofs
noncomputable def nf_l_FnExactCodeOk (C : CallT) (L : LoopT) (a0 : List CVal) (a10 : Int) (a11 : Int) (a12 : Int) (a13 : List CVal) : Option Ret :=
  (C f_l_szCode
        [AVal.v
            (CVal.agg
              [CVal.sl a0, CVal.int IntKind.i64 a10, CVal.int IntKind.i64 a11, CVal.int IntKind.i64 a12, CVal.sl a13]),
          AVal.v (CVal.int IntKind.i64 (1048576 : Int))]
        []).bind
    fun r =>
    (CVal.asInt IntKind.i64 r.1).bind fun n =>
      br (decide (n < (0 : Int))) (some (CVal.bool true, []))
        ((C f_l_toCode
              [AVal.v
                  (CVal.agg
                    [CVal.sl a0, CVal.int IntKind.i64 a10, CVal.int IntKind.i64 a11, CVal.int IntKind.i64 a12,
                      CVal.sl a13])]
              []).bind
          fun r =>
          (C f_s_CodeOk [AVal.v r.1] []).bind fun r =>
            (C f_l_toCode
                  [AVal.v
                      (CVal.agg
                        [CVal.sl a0, CVal.int IntKind.i64 a10, CVal.int IntKind.i64 a11, CVal.int IntKind.i64 a12,
                          CVal.sl a13])]
                  []).bind
              fun r_1 =>
              br (CVal.isAggN (5 : Nat) r_1.1)
                ((r_1.1.cell (0 : Nat)).bind fun c =>
                  (r_1.1.cell (1 : Nat)).bind fun c_1 =>
                    (r_1.1.cell (2 : Nat)).bind fun c_2 =>
                      (r_1.1.cell (3 : Nat)).bind fun c_3 =>
                        (r_1.1.cell (4 : Nat)).bind fun c_4 =>
                          (C f_i_CodeOk [AVal.v (CVal.agg [c, c_1, c_2, c_3, c_4])] []).bind fun r_2 =>
                            r_2.1.asBool.bind fun b =>
                              r.1.asBool.bind fun b_1 =>
                                br (!b == b_1) (some (CVal.bool false, []))
                                  ((C f_l_toCode
                                        [AVal.v
                                            (CVal.agg
                                              [CVal.sl a0, CVal.int IntKind.i64 a10, CVal.int IntKind.i64 a11,
                                                CVal.int IntKind.i64 a12, CVal.sl a13])]
                                        []).bind
                                    fun r =>
                                    (C f_l_eqCode [AVal.v (CVal.agg [c, c_1, c_2, c_3, c_4]), AVal.v r.1] []).bind
                                      fun r =>
                                      r.1.asBool.bind fun b =>
                                        br (!b) (some (CVal.bool false, [])) (some (CVal.bool true, []))))
                none)
theorem eq_l_FnExactCodeOk (C : CallT) (L : LoopT) (a0 : List CVal) (a10 : Int) (a11 : Int) (a12 : Int) (a13 : List CVal) : evF E N C L f_l_FnExactCodeOk [AVal.v
    (CVal.agg [CVal.sl a0, CVal.int IntKind.i64 a10, CVal.int IntKind.i64 a11, CVal.int IntKind.i64 a12, CVal.sl a13])] [] = nf_l_FnExactCodeOk C L a0 a10 a11 a12 a13 := by kernel_rfl
theorem go_l_FnExactCodeOk (a0 : List CVal) (a10 : Int) (a11 : Int) (a12 : Int) (a13 : List CVal) (R : Ret) (h : nf_l_FnExactCodeOk CC LL a0 a10 a11 a12 a13 = some R) : CC f_l_FnExactCodeOk [AVal.v
    (CVal.agg [CVal.sl a0, CVal.int IntKind.i64 a10, CVal.int IntKind.i64 a11, CVal.int IntKind.i64 a12, CVal.sl a13])] [] = some R := fnW (by decide) rfl ((eq_l_FnExactCodeOk CC LL a0 a10 a11 a12 a13).trans h)
noncomputable def nf_i_Count (C : CallT) (L : LoopT) (a0 : List CVal) (a10 : Int) (a11 : Int) (a12 : Int) (a13 : List CVal) : Option Ret :=
  (C f_i_CodeOk
        [AVal.v
            (CVal.agg
              [CVal.sl a0, CVal.int IntKind.i64 a10, CVal.int IntKind.i64 a11, CVal.int IntKind.i64 a12, CVal.sl a13])]
        []).bind
    fun r =>
    r.1.asBool.bind fun b =>
      br (!b) (some (CVal.int IntKind.i64 (0 : Int), []))
        ((L f_i_Count (0 : Nat) lc_i_Count_0 [] k_i_Count_0
              (((↑a13.length : Int), a0, (↑a0.length : Int), (0 : Int), PUnit.unit), PUnit.unit)).bind
          fun r => loK r (fun r => some r) fun j p => br (j == (0 : Nat)) (some (CVal.int IntKind.i64 p.fst.1, [])) none)
theorem eq_i_Count (C : CallT) (L : LoopT) (a0 : List CVal) (a10 : Int) (a11 : Int) (a12 : Int) (a13 : List CVal) : evF E N C L f_i_Count [AVal.v
    (CVal.agg [CVal.sl a0, CVal.int IntKind.i64 a10, CVal.int IntKind.i64 a11, CVal.int IntKind.i64 a12, CVal.sl a13])] [] = nf_i_Count C L a0 a10 a11 a12 a13 := by kernel_rfl
theorem go_i_Count (a0 : List CVal) (a10 : Int) (a11 : Int) (a12 : Int) (a13 : List CVal) (R : Ret) (h : nf_i_Count CC LL a0 a10 a11 a12 a13 = some R) : CC f_i_Count [AVal.v
    (CVal.agg [CVal.sl a0, CVal.int IntKind.i64 a10, CVal.int IntKind.i64 a11, CVal.int IntKind.i64 a12, CVal.sl a13])] [] = some R := fnW (by decide) rfl ((eq_i_Count CC LL a0 a10 a11 a12 a13).trans h)
noncomputable def nf_i_lamsOk (C : CallT) (L : LoopT) (a0 : List CVal) (a10 : Int) (a11 : Int) (a12 : Int) (a13 : List CVal) (b0 : Int) (b1 : Int) (b2 : Int) (b3 : List CVal) : Option Ret :=
  (C f_slices_ContainsFunc_Ins
        [AVal.v (CVal.sl b3),
          AVal.v
            (CVal.func f_i_lamsOk_1
              [(CVal.agg
                      [CVal.sl a0, CVal.int IntKind.i64 a10, CVal.int IntKind.i64 a11, CVal.int IntKind.i64 a12,
                        CVal.sl a13]).fp
                  (0 : Nat)])]
        []).bind
    fun r => r.1.asBool.bind fun b => some (CVal.bool !b, [])
theorem eq_i_lamsOk (C : CallT) (L : LoopT) (a0 : List CVal) (a10 : Int) (a11 : Int) (a12 : Int) (a13 : List CVal) (b0 : Int) (b1 : Int) (b2 : Int) (b3 : List CVal) : evF E N C L f_i_lamsOk [AVal.v
    (CVal.agg [CVal.sl a0, CVal.int IntKind.i64 a10, CVal.int IntKind.i64 a11, CVal.int IntKind.i64 a12, CVal.sl a13]),
  AVal.v (CVal.agg [CVal.int IntKind.i64 b0, CVal.int IntKind.i64 b1, CVal.int IntKind.i64 b2, CVal.sl b3])] [] = nf_i_lamsOk C L a0 a10 a11 a12 a13 b0 b1 b2 b3 := by kernel_rfl
theorem go_i_lamsOk (a0 : List CVal) (a10 : Int) (a11 : Int) (a12 : Int) (a13 : List CVal) (b0 : Int) (b1 : Int) (b2 : Int) (b3 : List CVal) (R : Ret) (h : nf_i_lamsOk CC LL a0 a10 a11 a12 a13 b0 b1 b2 b3 = some R) : CC f_i_lamsOk [AVal.v
    (CVal.agg [CVal.sl a0, CVal.int IntKind.i64 a10, CVal.int IntKind.i64 a11, CVal.int IntKind.i64 a12, CVal.sl a13]),
  AVal.v (CVal.agg [CVal.int IntKind.i64 b0, CVal.int IntKind.i64 b1, CVal.int IntKind.i64 b2, CVal.sl b3])] [] = some R := fnW (by decide) rfl ((eq_i_lamsOk CC LL a0 a10 a11 a12 a13 b0 b1 b2 b3).trans h)
noncomputable def nf_s_l9Fun (C : CallT) (L : LoopT) (a0 : List CVal) (a10 : Int) (a11 : Int) (a12 : Int) (a13 : List CVal) (b : Int) : Option Ret :=
  (L f_s_l9Fun (0 : Nat) lc_s_l9Fun_0 [] k_s_l9Fun_0
        ((b,
            (CVal.agg
                  [CVal.sl a0, CVal.int IntKind.i64 a10, CVal.int IntKind.i64 a11, CVal.int IntKind.i64 a12,
                    CVal.sl a13]).fp
              (0 : Nat),
            (0 : Int), PUnit.unit),
          PUnit.unit)).bind
    fun r => loK r (fun r => some r) fun j p => br (j == (0 : Nat)) (some (CVal.int IntKind.i64 (-1 : Int), [])) none
theorem eq_s_l9Fun (C : CallT) (L : LoopT) (a0 : List CVal) (a10 : Int) (a11 : Int) (a12 : Int) (a13 : List CVal) (b : Int) : evF E N C L f_s_l9Fun [AVal.v
    (CVal.agg [CVal.sl a0, CVal.int IntKind.i64 a10, CVal.int IntKind.i64 a11, CVal.int IntKind.i64 a12, CVal.sl a13]),
  AVal.v (CVal.int IntKind.i64 b)] [] = nf_s_l9Fun C L a0 a10 a11 a12 a13 b := by kernel_rfl
theorem go_s_l9Fun (a0 : List CVal) (a10 : Int) (a11 : Int) (a12 : Int) (a13 : List CVal) (b : Int) (R : Ret) (h : nf_s_l9Fun CC LL a0 a10 a11 a12 a13 b = some R) : CC f_s_l9Fun [AVal.v
    (CVal.agg [CVal.sl a0, CVal.int IntKind.i64 a10, CVal.int IntKind.i64 a11, CVal.int IntKind.i64 a12, CVal.sl a13]),
  AVal.v (CVal.int IntKind.i64 b)] [] = some R := fnW (by decide) rfl ((eq_s_l9Fun CC LL a0 a10 a11 a12 a13 b).trans h)
noncomputable def nf_s_l9Uses (C : CallT) (L : LoopT) (a : Int) : Option Ret :=
  br (decide (a = (1 : Int))) (some (CVal.agg [CVal.bool true, CVal.bool false, CVal.bool false, CVal.bool false], []))
    (br (decide (a = (2 : Int))) (some (CVal.agg [CVal.bool true, CVal.bool false, CVal.bool false, CVal.bool false], []))
      (br (decide (a = (3 : Int)))
        (some (CVal.agg [CVal.bool true, CVal.bool false, CVal.bool false, CVal.bool false], []))
        (br (decide (a = (8 : Int)))
          (some (CVal.agg [CVal.bool true, CVal.bool false, CVal.bool false, CVal.bool false], []))
          (br (decide (a = (4 : Int)))
            (some (CVal.agg [CVal.bool true, CVal.bool true, CVal.bool false, CVal.bool false], []))
            (br (decide (a = (9 : Int)))
              (some (CVal.agg [CVal.bool true, CVal.bool true, CVal.bool false, CVal.bool false], []))
              (br (decide (a = (10 : Int)))
                (some (CVal.agg [CVal.bool true, CVal.bool true, CVal.bool false, CVal.bool false], []))
                (br (decide (a = (5 : Int)))
                  (some (CVal.agg [CVal.bool true, CVal.bool true, CVal.bool true, CVal.bool false], []))
                  (br (decide (a = (6 : Int)))
                    (some (CVal.agg [CVal.bool true, CVal.bool true, CVal.bool true, CVal.bool false], []))
                    (br (decide (a = (7 : Int)))
                      (some (CVal.agg [CVal.bool true, CVal.bool true, CVal.bool true, CVal.bool false], []))
                      (br (decide (a = (14 : Int)))
                        (some (CVal.agg [CVal.bool true, CVal.bool true, CVal.bool true, CVal.bool false], []))
                        (br (decide (a = (11 : Int)))
                          (some (CVal.agg [CVal.bool false, CVal.bool true, CVal.bool false, CVal.bool true], []))
                          (br (decide (a = (12 : Int)))
                            (some (CVal.agg [CVal.bool false, CVal.bool true, CVal.bool false, CVal.bool true], []))
                            (br (decide (a = (13 : Int)))
                              (some (CVal.agg [CVal.bool false, CVal.bool false, CVal.bool false, CVal.bool true], []))
                              (br (decide (a = (15 : Int)))
                                (some (CVal.agg [CVal.bool false, CVal.bool true, CVal.bool false, CVal.bool false], []))
                                (br (decide (a = (16 : Int)))
                                  (some
                                    (CVal.agg [CVal.bool false, CVal.bool true, CVal.bool false, CVal.bool false], []))
                                  (br (decide (a = (17 : Int)))
                                    (some
                                      (CVal.agg [CVal.bool true, CVal.bool false, CVal.bool false, CVal.bool true], []))
                                    (some
                                      (CVal.agg [CVal.bool false, CVal.bool false, CVal.bool false, CVal.bool false],
                                        []))))))))))))))))))
theorem eq_s_l9Uses (C : CallT) (L : LoopT) (a : Int) : evF E N C L f_s_l9Uses [AVal.v (CVal.int IntKind.i64 a)] [] = nf_s_l9Uses C L a := by kernel_rfl
theorem go_s_l9Uses (a : Int) (R : Ret) (h : nf_s_l9Uses CC LL a = some R) : CC f_s_l9Uses [AVal.v (CVal.int IntKind.i64 a)] [] = some R := fnW (by decide) rfl ((eq_s_l9Uses CC LL a).trans h)
noncomputable def nf_i_insForm (C : CallT) (L : LoopT) (a : Int) : Option Ret :=
  br (decide (a = (1 : Int))) (some (CVal.tup [CVal.str [(68 : UInt8), (78 : UInt8)], CVal.bool true], []))
    (br (decide (a = (2 : Int))) (some (CVal.tup [CVal.str [(68 : UInt8), (78 : UInt8)], CVal.bool true], []))
      (br (decide (a = (3 : Int))) (some (CVal.tup [CVal.str [(68 : UInt8)], CVal.bool true], []))
        (br (decide (a = (4 : Int))) (some (CVal.tup [CVal.str [(68 : UInt8), (88 : UInt8)], CVal.bool true], []))
          (br (decide (a = (9 : Int))) (some (CVal.tup [CVal.str [(68 : UInt8), (88 : UInt8)], CVal.bool true], []))
            (br (decide (a = (10 : Int))) (some (CVal.tup [CVal.str [(68 : UInt8), (88 : UInt8)], CVal.bool true], []))
              (br (decide (a = (5 : Int)))
                (some (CVal.tup [CVal.str [(68 : UInt8), (88 : UInt8), (89 : UInt8), (78 : UInt8)], CVal.bool true], []))
                (br (decide (a = (6 : Int)))
                  (some (CVal.tup [CVal.str [(68 : UInt8), (88 : UInt8), (89 : UInt8)], CVal.bool true], []))
                  (br (decide (a = (7 : Int)))
                    (some (CVal.tup [CVal.str [(68 : UInt8), (88 : UInt8), (89 : UInt8)], CVal.bool true], []))
                    (br (decide (a = (8 : Int)))
                      (some (CVal.tup [CVal.str [(68 : UInt8), (78 : UInt8), (76 : UInt8)], CVal.bool true], []))
                      (br (decide (a = (11 : Int)))
                        (some (CVal.tup [CVal.str [(88 : UInt8), (84 : UInt8)], CVal.bool true], []))
                        (br (decide (a = (12 : Int)))
                          (some (CVal.tup [CVal.str [(88 : UInt8), (84 : UInt8)], CVal.bool true], []))
                          (br (decide (a = (13 : Int))) (some (CVal.tup [CVal.str [(84 : UInt8)], CVal.bool true], []))
                            (br (decide (a = (14 : Int)))
                              (some
                                (CVal.tup
                                    [CVal.str [(68 : UInt8), (88 : UInt8), (89 : UInt8), (76 : UInt8)], CVal.bool true],
                                  []))
                              (br (decide (a = (15 : Int)))
                                (some (CVal.tup [CVal.str [(88 : UInt8)], CVal.bool true], []))
                                (br (decide (a = (16 : Int)))
                                  (some (CVal.tup [CVal.str [(88 : UInt8)], CVal.bool true], []))
                                  (br (decide (a = (17 : Int)))
                                    (some (CVal.tup [CVal.str [(68 : UInt8), (84 : UInt8)], CVal.bool true], []))
                                    (some
                                      (CVal.tup [CVal.str [], CVal.bool (decide (a = (18 : Int)))], []))))))))))))))))))
theorem eq_i_insForm (C : CallT) (L : LoopT) (a : Int) : evF E N C L f_i_insForm [AVal.v (CVal.int IntKind.i64 a)] [] = nf_i_insForm C L a := by kernel_rfl
theorem go_i_insForm (a : Int) (R : Ret) (h : nf_i_insForm CC LL a = some R) : CC f_i_insForm [AVal.v (CVal.int IntKind.i64 a)] [] = some R := fnW (by decide) rfl ((eq_i_insForm CC LL a).trans h)
noncomputable def nf_l_eqIntS (C : CallT) (L : LoopT) (a : List CVal) (b : List CVal) : Option Ret :=
  br (!decide ((↑a.length : Int) = (↑b.length : Int))) (some (CVal.bool false, []))
    ((L f_l_eqIntS (0 : Nat) lc_l_eqIntS_0 [] k_l_eqIntS_0 ((a, b, (0 : Int), PUnit.unit), PUnit.unit)).bind fun r =>
      loK r (fun r => some r) fun j p => br (j == (0 : Nat)) (some (CVal.bool true, [])) none)
theorem eq_l_eqIntS (C : CallT) (L : LoopT) (a : List CVal) (b : List CVal) : evF E N C L f_l_eqIntS [AVal.v (CVal.sl a), AVal.v (CVal.sl b)] [] = nf_l_eqIntS C L a b := by kernel_rfl
theorem go_l_eqIntS (a : List CVal) (b : List CVal) (R : Ret) (h : nf_l_eqIntS CC LL a b = some R) : CC f_l_eqIntS [AVal.v (CVal.sl a), AVal.v (CVal.sl b)] [] = some R := fnW (by decide) rfl ((eq_l_eqIntS CC LL a b).trans h)
noncomputable def nl_l_szPieceS_0 (C : CallT) (L : LoopT) (x00 : List CVal) (x01 : Int) (x02 : Int) : Option (LO k_l_szPieceS_0.T) :=
  br (decide (x02 < (↑x00.length : Int)))
    (br (decide ((0 : Int) ≤ x02) && true)
      (x00[x02.toNat]?.bind fun y =>
        br (CVal.fits true (4 : Nat) y)
          ((y.sub (0 : Nat) (4 : Nat)).bind fun y =>
            (C f_l_szPiece [AVal.v y, AVal.v (CVal.int IntKind.i64 x01)] []).bind fun r =>
              (CVal.asInt IntKind.i64 r.1).bind fun n =>
                br (decide (n < (0 : Int))) (some (LO.ret (CVal.int IntKind.i64 (-1 : Int), [])))
                  ((CVal.asInt IntKind.i64 r.1).bind fun n =>
                    L f_l_szPieceS (0 : Nat) lc_l_szPieceS_0 [] k_l_szPieceS_0
                      ((x00, n, IntKind.i64.wrap (x02 + (1 : Int)), PUnit.unit), PUnit.unit)))
          none)
      none)
    (some (LO.out (0 : Nat) ((x00, x01, x02, PUnit.unit), PUnit.unit)))
theorem el_l_szPieceS_0 (C : CallT) (L : LoopT) (x00 : List CVal) (x01 : Int) (x02 : Int) : evL E N C L f_l_szPieceS 0 lc_l_szPieceS_0 [] k_l_szPieceS_0 ((x00, x01, x02, ()), ()) = nl_l_szPieceS_0 C L x00 x01 x02 := by kernel_rfl
theorem gl_l_szPieceS_0 (x00 : List CVal) (x01 : Int) (x02 : Int) (R : LO k_l_szPieceS_0.T) (h : nl_l_szPieceS_0 CC LL x00 x01 x02 = some R) : LL f_l_szPieceS 0 lc_l_szPieceS_0 [] k_l_szPieceS_0 ((x00, x01, x02, ()), ()) = some R := loopW ((el_l_szPieceS_0 CC LL x00 x01 x02).trans h)
noncomputable def nl_s_l9Ins_1 (C : CallT) (L : LoopT) (x00 : CVal) (x02 : Int) (x10 : Int) (x11 : Int) (x12 : Int) (x13 : Int) (x14 : Int) (x15 : List CVal) (x16 : Int) : Option (LO k_s_l9Ins_1.T) :=
  br (decide (x02 < (↑x15.length : Int)))
    (br (decide ((0 : Int) ≤ x02) && true)
      (x15[x02.toNat]?.bind fun y =>
        br (CVal.fits false (1 : Nat) y)
          ((y.cell (0 : Nat)).bind fun c =>
            x00.asFp.bind fun y =>
              (y.1.cell (y.2 + (2 : Nat))).bind fun c_1 =>
                (CVal.asInt IntKind.i64 c_1).bind fun n =>
                  (C f_s_l1In
                        [AVal.v c, AVal.v (CVal.int IntKind.i64 (0 : Int)),
                          AVal.v (CVal.int IntKind.i64 (IntKind.i64.wrap (n - (1 : Int))))]
                        []).bind
                    fun r =>
                    r.1.asBool.bind fun b =>
                      br (!b) (some (LO.ret (CVal.bool false, [])))
                        (L f_s_l9Ins (1 : Nat) lc_s_l9Ins_1 [] k_s_l9Ins_1
                          ((x00, PUnit.unit, IntKind.i64.wrap (x02 + (1 : Int)), PUnit.unit),
                            (x10, x11, x12, x13, x14, x15, x16, PUnit.unit), PUnit.unit)))
          none)
      none)
    (some
      (LO.out (1 : Nat)
        ((x00, PUnit.unit, x02, PUnit.unit), (x10, x11, x12, x13, x14, x15, x16, PUnit.unit), PUnit.unit)))
theorem el_s_l9Ins_1 (C : CallT) (L : LoopT) (x00 : CVal) (x02 : Int) (x10 : Int) (x11 : Int) (x12 : Int) (x13 : Int) (x14 : Int) (x15 : List CVal) (x16 : Int) : evL E N C L f_s_l9Ins 1 lc_s_l9Ins_1 [] k_s_l9Ins_1 ((x00, (), x02, ()), (x10, x11, x12, x13, x14, x15, x16, ()), ()) = nl_s_l9Ins_1 C L x00 x02 x10 x11 x12 x13 x14 x15 x16 := by kernel_rfl
theorem gl_s_l9Ins_1 (x00 : CVal) (x02 : Int) (x10 : Int) (x11 : Int) (x12 : Int) (x13 : Int) (x14 : Int) (x15 : List CVal) (x16 : Int) (R : LO k_s_l9Ins_1.T) (h : nl_s_l9Ins_1 CC LL x00 x02 x10 x11 x12 x13 x14 x15 x16 = some R) : LL f_s_l9Ins 1 lc_s_l9Ins_1 [] k_s_l9Ins_1 ((x00, (), x02, ()), (x10, x11, x12, x13, x14, x15, x16, ()), ()) = some R := loopW ((el_s_l9Ins_1 CC LL x00 x02 x10 x11 x12 x13 x14 x15 x16).trans h)
noncomputable def nl_slices_IndexFunc_Piece_0 (C : CallT) (L : LoopT) (x00 : List CVal) (x01 : CVal) (x02 : Int) (x03 : Int) : Option (LO k_slices_IndexFunc_Piece_0.T) :=
  br (decide (x03 < x02))
    (br (decide ((0 : Int) ≤ x03) && true)
      (x00[x03.toNat]?.bind fun y =>
        br (CVal.fits true (4 : Nat) y)
          ((y.sub (0 : Nat) (4 : Nat)).bind fun y =>
            (C apId [AVal.v x01, AVal.v y] []).bind fun r =>
              r.1.asBool.bind fun b =>
                br b (some (LO.ret (CVal.int IntKind.i64 x03, [])))
                  (L f_slices_IndexFunc_Piece (0 : Nat) lc_slices_IndexFunc_Piece_0 [] k_slices_IndexFunc_Piece_0
                    ((x00, x01, x02, IntKind.i64.wrap (x03 + (1 : Int)), PUnit.unit), PUnit.unit)))
          none)
      none)
    (some (LO.out (0 : Nat) ((x00, x01, x02, x03, PUnit.unit), PUnit.unit)))
theorem el_slices_IndexFunc_Piece_0 (C : CallT) (L : LoopT) (x00 : List CVal) (x01 : CVal) (x02 : Int) (x03 : Int) : evL E N C L f_slices_IndexFunc_Piece 0 lc_slices_IndexFunc_Piece_0 [] k_slices_IndexFunc_Piece_0 ((x00, x01, x02, x03, ()), ()) = nl_slices_IndexFunc_Piece_0 C L x00 x01 x02 x03 := by kernel_rfl
theorem gl_slices_IndexFunc_Piece_0 (x00 : List CVal) (x01 : CVal) (x02 : Int) (x03 : Int) (R : LO k_slices_IndexFunc_Piece_0.T) (h : nl_slices_IndexFunc_Piece_0 CC LL x00 x01 x02 x03 = some R) : LL f_slices_IndexFunc_Piece 0 lc_slices_IndexFunc_Piece_0 [] k_slices_IndexFunc_Piece_0 ((x00, x01, x02, x03, ()), ()) = some R := loopW ((el_slices_IndexFunc_Piece_0 CC LL x00 x01 x02 x03).trans h)
end Go.Proofs.Ytomkegeojknihaa.Abs
