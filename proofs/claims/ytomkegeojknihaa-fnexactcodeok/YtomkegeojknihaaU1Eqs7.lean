/- What the functions come to in the abstract machine. -/
import Derived.Test.YtomkegeojknihaaU1Ann
import Derived.KernelRfl
set_option linter.unusedVariables false
set_option maxRecDepth 100000
namespace Go.Proofs.Ytomkegeojknihaa.Abs
open Go Go.Proofs
noncomputable def nf_s_Count (C : CallT) (L : LoopT) (a0 : List CVal) (a10 : Int) (a11 : Int) (a12 : Int) (a13 : List CVal) : Option Ret :=
  (C f_s_CodeOk
        [AVal.v
            (CVal.agg
              [CVal.sl a0, CVal.int IntKind.i64 a10, CVal.int IntKind.i64 a11, CVal.int IntKind.i64 a12, CVal.sl a13])]
        []).bind
    fun r =>
    r.1.asBool.bind fun b =>
      br (!b) (some (CVal.int IntKind.i64 (0 : Int), []))
        ((L f_s_Count (0 : Nat) lc_s_Count_0 [] k_s_Count_0
              ((PUnit.unit, (↑a13.length : Int), (0 : Int), PUnit.unit), (a0, a10, a11, a12, a13, PUnit.unit),
                PUnit.unit)).bind
          fun r =>
          loK r (fun r => some r) fun j p => br (j == (0 : Nat)) (some (CVal.int IntKind.i64 p.fst.snd.1, [])) none)
theorem eq_s_Count (C : CallT) (L : LoopT) (a0 : List CVal) (a10 : Int) (a11 : Int) (a12 : Int) (a13 : List CVal) : evF E N C L f_s_Count [AVal.v
    (CVal.agg [CVal.sl a0, CVal.int IntKind.i64 a10, CVal.int IntKind.i64 a11, CVal.int IntKind.i64 a12, CVal.sl a13])] [] = nf_s_Count C L a0 a10 a11 a12 a13 := by kernel_rfl
theorem go_s_Count (a0 : List CVal) (a10 : Int) (a11 : Int) (a12 : Int) (a13 : List CVal) (R : Ret) (h : nf_s_Count CC LL a0 a10 a11 a12 a13 = some R) : CC f_s_Count [AVal.v
    (CVal.agg [CVal.sl a0, CVal.int IntKind.i64 a10, CVal.int IntKind.i64 a11, CVal.int IntKind.i64 a12, CVal.sl a13])] [] = some R := fnW (by decide) rfl ((eq_s_Count CC LL a0 a10 a11 a12 a13).trans h)
noncomputable def nf_i_pieceOk (C : CallT) (L : LoopT) (a0 : Int) (a1 : Int) (a2 : Int) (a3 : List CVal) : Option Ret :=
  ((C f_i_in
            [AVal.v (CVal.int IntKind.i64 (↑a3.length : Int)), AVal.v (CVal.int IntKind.i64 (1 : Int)),
              AVal.v (CVal.int IntKind.i64 (600 : Int))]
            []).bind
        fun r =>
        r.1.asBool.bind fun b =>
          br (!b) (some (true, PUnit.unit))
            ((C f_i_lamOk
                  [AVal.v
                      (CVal.agg [CVal.int IntKind.i64 a0, CVal.int IntKind.i64 a1, CVal.int IntKind.i64 a2, CVal.sl a3])]
                  []).bind
              fun r =>
              r.1.asBool.bind fun b =>
                br (!b) (some (true, PUnit.unit))
                  ((C f_i_in
                        [AVal.v (CVal.int IntKind.i64 a2), AVal.v (CVal.int IntKind.i64 a1),
                          AVal.v (CVal.int IntKind.i64 (400 : Int))]
                        []).bind
                    fun r =>
                    r.1.asBool.bind fun b =>
                      br (!b) (some (true, PUnit.unit))
                        ((C f_slices_ContainsFunc_Ins
                              [AVal.v (CVal.sl a3),
                                AVal.v
                                  (CVal.func f_i_pieceOk_1
                                    [(CVal.agg
                                            [CVal.int IntKind.i64 a0, CVal.int IntKind.i64 a1, CVal.int IntKind.i64 a2,
                                              CVal.sl a3]).fp
                                        (0 : Nat)])]
                              []).bind
                          fun r =>
                          (bif false then CVal.bool true else r.1).asBool.bind fun b => some (b, PUnit.unit))))).bind
    fun y =>
    br y.1 (some (CVal.bool false, []))
      ((br (decide ((0 : Int) ≤ IntKind.i64.wrap ((↑a3.length : Int) - (1 : Int))) && true)
            (a3[(IntKind.i64.wrap ((↑a3.length : Int) - (1 : Int))).toNat]?.bind fun y =>
              br (CVal.fits true (7 : Nat) y)
                ((y.cell (0 : Nat)).bind fun c =>
                  (CVal.asInt IntKind.i64 c).bind fun n =>
                    br (decide (n = (15 : Int))) (some (true, PUnit.unit))
                      (br (decide ((0 : Int) ≤ IntKind.i64.wrap ((↑a3.length : Int) - (1 : Int))) && true)
                        (a3[(IntKind.i64.wrap ((↑a3.length : Int) - (1 : Int))).toNat]?.bind fun y =>
                          br (CVal.fits true (7 : Nat) y)
                            ((y.cell (0 : Nat)).bind fun c =>
                              (CVal.asInt IntKind.i64 c).bind fun n => some (decide (n = (13 : Int)), PUnit.unit))
                            none)
                        none))
                none)
            none).bind
        fun y => some (CVal.bool y.1, []))
theorem eq_i_pieceOk (C : CallT) (L : LoopT) (a0 : Int) (a1 : Int) (a2 : Int) (a3 : List CVal) : evF E N C L f_i_pieceOk [AVal.v (CVal.agg [CVal.int IntKind.i64 a0, CVal.int IntKind.i64 a1, CVal.int IntKind.i64 a2, CVal.sl a3])] [] = nf_i_pieceOk C L a0 a1 a2 a3 := by kernel_rfl
theorem go_i_pieceOk (a0 : Int) (a1 : Int) (a2 : Int) (a3 : List CVal) (R : Ret) (h : nf_i_pieceOk CC LL a0 a1 a2 a3 = some R) : CC f_i_pieceOk [AVal.v (CVal.agg [CVal.int IntKind.i64 a0, CVal.int IntKind.i64 a1, CVal.int IntKind.i64 a2, CVal.sl a3])] [] = some R := fnW (by decide) rfl ((eq_i_pieceOk CC LL a0 a1 a2 a3).trans h)
noncomputable def nf_s_l9Ins (C : CallT) (L : LoopT) (a0 : Int) (a1 : Int) (a2 : Int) (a3 : List CVal) (b0 : Int) (b1 : Int) (b2 : Int) (b3 : Int) (b4 : Int) (b5 : List CVal) (b6 : Int) : Option Ret :=
  (C f_s_l9Uses [AVal.v (CVal.int IntKind.i64 b0)] []).bind fun r =>
    br (CVal.isAggN (4 : Nat) r.1)
      ((r.1.cell (0 : Nat)).bind fun c =>
        (r.1.cell (1 : Nat)).bind fun c_1 =>
          (r.1.cell (2 : Nat)).bind fun c_2 =>
            (r.1.cell (3 : Nat)).bind fun c_3 =>
              ((C f_s_l1In
                        [AVal.v (CVal.int IntKind.i64 b0), AVal.v (CVal.int IntKind.i64 (1 : Int)),
                          AVal.v (CVal.int IntKind.i64 (18 : Int))]
                        []).bind
                    fun r =>
                    r.1.asBool.bind fun b =>
                      br (!b) (some (true, PUnit.unit))
                        ((C f_s_l9Reg [AVal.v c, AVal.v (CVal.int IntKind.i64 b1), AVal.v (CVal.int IntKind.i64 a2)]
                              []).bind
                          fun r =>
                          r.1.asBool.bind fun b =>
                            br (!b) (some (true, PUnit.unit))
                              ((C f_s_l9Reg
                                    [AVal.v c_1, AVal.v (CVal.int IntKind.i64 b2), AVal.v (CVal.int IntKind.i64 a2)]
                                    []).bind
                                fun r =>
                                r.1.asBool.bind fun b =>
                                  br (!b) (some (true, PUnit.unit))
                                    ((C f_s_l9Reg
                                          [AVal.v c_2, AVal.v (CVal.int IntKind.i64 b3), AVal.v (CVal.int IntKind.i64 a2)]
                                          []).bind
                                      fun r =>
                                      r.1.asBool.bind fun b =>
                                        br (!b) (some (true, PUnit.unit))
                                          (c_3.asBool.bind fun b =>
                                            br b
                                              ((C f_s_l1In
                                                    [AVal.v (CVal.int IntKind.i64 b6),
                                                      AVal.v (CVal.int IntKind.i64 (0 : Int)),
                                                      AVal.v
                                                        (CVal.int IntKind.i64
                                                          (IntKind.i64.wrap ((↑a3.length : Int) - (1 : Int))))]
                                                    []).bind
                                                fun r =>
                                                r.1.asBool.bind fun b =>
                                                  br (!b) (some (true, PUnit.unit))
                                                    (c_3.asBool.bind fun b =>
                                                      br (!b) (some (!decide (b6 = (0 : Int)), PUnit.unit))
                                                        (some (false, PUnit.unit))))
                                              (c_3.asBool.bind fun b =>
                                                br (!b) (some (!decide (b6 = (0 : Int)), PUnit.unit))
                                                  (some (false, PUnit.unit)))))))).bind
                fun y =>
                br y.1 (some (CVal.bool false, []))
                  ((br (!decide (b0 = (8 : Int)))
                        (br (!decide (b0 = (14 : Int))) (some (decide ((0 : Int) < (↑b5.length : Int)), PUnit.unit))
                          (some (false, PUnit.unit)))
                        (some (false, PUnit.unit))).bind
                    fun y =>
                    br y.1 (some (CVal.bool false, []))
                      (br (decide (b0 = (1 : Int)))
                        ((C f_s_l1In
                              [AVal.v (CVal.int IntKind.i64 b4), AVal.v (CVal.int IntKind.i64 (-1000000 : Int)),
                                AVal.v (CVal.int IntKind.i64 (1000000 : Int))]
                              []).bind
                          fun r => some (r.1, []))
                        (br (decide (b0 = (2 : Int)))
                          ((C f_s_l1In
                                [AVal.v (CVal.int IntKind.i64 b4), AVal.v (CVal.int IntKind.i64 (0 : Int)),
                                  AVal.v (CVal.int IntKind.i64 (1 : Int))]
                                []).bind
                            fun r => some (r.1, []))
                          (br (decide (b0 = (5 : Int)))
                            ((C f_s_l1In
                                  [AVal.v (CVal.int IntKind.i64 b4), AVal.v (CVal.int IntKind.i64 (1 : Int)),
                                    AVal.v (CVal.int IntKind.i64 (5 : Int))]
                                  []).bind
                              fun r => some (r.1, []))
                            (br (decide (b0 = (8 : Int)))
                              ((L f_s_l9Ins (1 : Nat) lc_s_l9Ins_1 [] k_s_l9Ins_1
                                    (((CVal.agg
                                              [CVal.int IntKind.i64 a0, CVal.int IntKind.i64 a1, CVal.int IntKind.i64 a2,
                                                CVal.sl a3]).fp
                                          (0 : Nat),
                                        PUnit.unit, (0 : Int), PUnit.unit),
                                      (b0, b1, b2, b3, b4, b5, b6, PUnit.unit), PUnit.unit)).bind
                                fun r =>
                                loK r (fun r => some r) fun j p =>
                                  br (j == (1 : Nat))
                                    (((C f_s_l1In
                                              [AVal.v (CVal.int IntKind.i64 p.snd.fst.snd.snd.snd.snd.1),
                                                AVal.v (CVal.int IntKind.i64 (0 : Int)),
                                                AVal.v (CVal.int IntKind.i64 (149 : Int))]
                                              []).bind
                                          fun r =>
                                          r.1.asBool.bind fun b =>
                                            br b
                                              (some
                                                (decide
                                                    ((↑(List.length p.snd.fst.snd.snd.snd.snd.snd.1) : Int) <
                                                      (100 : Int)),
                                                  PUnit.unit))
                                              (some (false, PUnit.unit))).bind
                                      fun y => some (CVal.bool y.1, []))
                                    (br (j == (0 : Nat))
                                      (some (CVal.bool (decide (p.snd.fst.snd.snd.snd.snd.1 = (0 : Int))), [])) none))
                              (br (decide (b0 = (14 : Int)))
                                ((L f_s_l9Ins (3 : Nat) lc_s_l9Ins_3 [] k_s_l9Ins_3
                                      ((PUnit.unit, (1 : Int), PUnit.unit), (b0, b1, b2, b3, b4, b5, b6, PUnit.unit),
                                        PUnit.unit)).bind
                                  fun r =>
                                  loK r (fun r => some r) fun j p =>
                                    br (j == (3 : Nat))
                                      ((br (decide (p.snd.fst.snd.snd.snd.snd.1 = (0 : Int)))
                                            (some
                                              (decide
                                                  ((↑(List.length p.snd.fst.snd.snd.snd.snd.snd.1) : Int) ≤ (200 : Int)),
                                                PUnit.unit))
                                            (some (false, PUnit.unit))).bind
                                        fun y => some (CVal.bool y.1, []))
                                      (br (j == (0 : Nat))
                                        (some (CVal.bool (decide (p.snd.fst.snd.snd.snd.snd.1 = (0 : Int))), [])) none))
                                (some (CVal.bool (decide (b4 = (0 : Int))), [])))))))))
      none
theorem eq_s_l9Ins (C : CallT) (L : LoopT) (a0 : Int) (a1 : Int) (a2 : Int) (a3 : List CVal) (b0 : Int) (b1 : Int) (b2 : Int) (b3 : Int) (b4 : Int) (b5 : List CVal) (b6 : Int) : evF E N C L f_s_l9Ins [AVal.v (CVal.agg [CVal.int IntKind.i64 a0, CVal.int IntKind.i64 a1, CVal.int IntKind.i64 a2, CVal.sl a3]),
  AVal.v
    (CVal.agg
      [CVal.int IntKind.i64 b0, CVal.int IntKind.i64 b1, CVal.int IntKind.i64 b2, CVal.int IntKind.i64 b3,
        CVal.int IntKind.i64 b4, CVal.sl b5, CVal.int IntKind.i64 b6])] [] = nf_s_l9Ins C L a0 a1 a2 a3 b0 b1 b2 b3 b4 b5 b6 := by kernel_rfl
theorem go_s_l9Ins (a0 : Int) (a1 : Int) (a2 : Int) (a3 : List CVal) (b0 : Int) (b1 : Int) (b2 : Int) (b3 : Int) (b4 : Int) (b5 : List CVal) (b6 : Int) (R : Ret) (h : nf_s_l9Ins CC LL a0 a1 a2 a3 b0 b1 b2 b3 b4 b5 b6 = some R) : CC f_s_l9Ins [AVal.v (CVal.agg [CVal.int IntKind.i64 a0, CVal.int IntKind.i64 a1, CVal.int IntKind.i64 a2, CVal.sl a3]),
  AVal.v
    (CVal.agg
      [CVal.int IntKind.i64 b0, CVal.int IntKind.i64 b1, CVal.int IntKind.i64 b2, CVal.int IntKind.i64 b3,
        CVal.int IntKind.i64 b4, CVal.sl b5, CVal.int IntKind.i64 b6])] [] = some R := fnW (by decide) rfl ((eq_s_l9Ins CC LL a0 a1 a2 a3 b0 b1 b2 b3 b4 b5 b6).trans h)
noncomputable def nf_l_toIns (C : CallT) (L : LoopT) (a0 : Int) (a1 : Int) (a2 : Int) (a3 : Int) (a4 : Int) (a5 : List CVal) (a6 : Int) : Option Ret :=
  (C f_l_toIntS [AVal.v (CVal.sl a5)] []).bind fun r =>
    br (r.1.isFlat && true)
      (some
        (CVal.agg
            [CVal.int IntKind.i64 a0, CVal.int IntKind.i64 a1, CVal.int IntKind.i64 a2, CVal.int IntKind.i64 a3,
              CVal.int IntKind.i64 a4, r.1, CVal.int IntKind.i64 a6],
          []))
      none
theorem eq_l_toIns (C : CallT) (L : LoopT) (a0 : Int) (a1 : Int) (a2 : Int) (a3 : Int) (a4 : Int) (a5 : List CVal) (a6 : Int) : evF E N C L f_l_toIns [AVal.v
    (CVal.agg
      [CVal.int IntKind.i64 a0, CVal.int IntKind.i64 a1, CVal.int IntKind.i64 a2, CVal.int IntKind.i64 a3,
        CVal.int IntKind.i64 a4, CVal.sl a5, CVal.int IntKind.i64 a6])] [] = nf_l_toIns C L a0 a1 a2 a3 a4 a5 a6 := by kernel_rfl
theorem go_l_toIns (a0 : Int) (a1 : Int) (a2 : Int) (a3 : Int) (a4 : Int) (a5 : List CVal) (a6 : Int) (R : Ret) (h : nf_l_toIns CC LL a0 a1 a2 a3 a4 a5 a6 = some R) : CC f_l_toIns [AVal.v
    (CVal.agg
      [CVal.int IntKind.i64 a0, CVal.int IntKind.i64 a1, CVal.int IntKind.i64 a2, CVal.int IntKind.i64 a3,
        CVal.int IntKind.i64 a4, CVal.sl a5, CVal.int IntKind.i64 a6])] [] = some R := fnW (by decide) rfl ((eq_l_toIns CC LL a0 a1 a2 a3 a4 a5 a6).trans h)
noncomputable def nf_l_toIntS (C : CallT) (L : LoopT) (a : List CVal) : Option Ret :=
  br (decide ((↑a.length : Int) = (↑a.length : Int)) && decide ((↑a.length : Int) ≤ (1048576 : Int)))
    ((L f_l_toIntS (0 : Nat) lc_l_toIntS_0 [] k_l_toIntS_0
          ((a, PUnit.unit, (0 : Int), PUnit.unit),
            List.replicate (↑a.length : Int).toNat (CVal.int IntKind.i64 (0 : Int)), PUnit.unit)).bind
      fun r => loK r (fun r => some r) fun j p => br (j == (0 : Nat)) (some (CVal.sl p.snd.1, [])) none)
    none
theorem eq_l_toIntS (C : CallT) (L : LoopT) (a : List CVal) : evF E N C L f_l_toIntS [AVal.v (CVal.sl a)] [] = nf_l_toIntS C L a := by kernel_rfl
theorem go_l_toIntS (a : List CVal) (R : Ret) (h : nf_l_toIntS CC LL a = some R) : CC f_l_toIntS [AVal.v (CVal.sl a)] [] = some R := fnW (by decide) rfl ((eq_l_toIntS CC LL a).trans h)
noncomputable def nf_i_pieceAt_1 (C : CallT) (L : LoopT) (a0 : Int) (a1 : Int) (a2 : Int) (a3 : List CVal) (b : Int) : Option Ret :=
  some (CVal.bool (decide (a0 = b)), [])
theorem eq_i_pieceAt_1 (C : CallT) (L : LoopT) (a0 : Int) (a1 : Int) (a2 : Int) (a3 : List CVal) (b : Int) : evF E N C L f_i_pieceAt_1 [AVal.v (CVal.agg [CVal.int IntKind.i64 a0, CVal.int IntKind.i64 a1, CVal.int IntKind.i64 a2, CVal.sl a3]),
  AVal.v ((CVal.int IntKind.i64 b).fp (0 : Nat))] [] = nf_i_pieceAt_1 C L a0 a1 a2 a3 b := by kernel_rfl
theorem go_i_pieceAt_1 (a0 : Int) (a1 : Int) (a2 : Int) (a3 : List CVal) (b : Int) (R : Ret) (h : nf_i_pieceAt_1 CC LL a0 a1 a2 a3 b = some R) : CC f_i_pieceAt_1 [AVal.v (CVal.agg [CVal.int IntKind.i64 a0, CVal.int IntKind.i64 a1, CVal.int IntKind.i64 a2, CVal.sl a3]),
  AVal.v ((CVal.int IntKind.i64 b).fp (0 : Nat))] [] = some R := fnW (by decide) rfl ((eq_i_pieceAt_1 CC LL a0 a1 a2 a3 b).trans h)
noncomputable def nl_i_Count_0 (C : CallT) (L : LoopT) (x00 : Int) (x01 : List CVal) (x02 : Int) (x03 : Int) : Option (LO k_i_Count_0.T) :=
  br (decide (x03 < x02))
    (br (decide ((0 : Int) ≤ x03) && true)
      (x01[x03.toNat]?.bind fun y =>
        br (CVal.fits true (4 : Nat) y)
          ((y.sub (0 : Nat) (4 : Nat)).bind fun y =>
            br (CVal.isAggN (4 : Nat) y)
              ((y.cell (0 : Nat)).bind fun c =>
                (y.cell (1 : Nat)).bind fun c =>
                  (y.cell (2 : Nat)).bind fun c =>
                    (y.cell (3 : Nat)).bind fun c =>
                      c.asSl.bind fun xs =>
                        L f_i_Count (0 : Nat) lc_i_Count_0 [] k_i_Count_0
                          ((IntKind.i64.wrap (x00 + (↑xs.length : Int)), x01, x02, IntKind.i64.wrap (x03 + (1 : Int)),
                              PUnit.unit),
                            PUnit.unit))
              none)
          none)
      none)
    (some (LO.out (0 : Nat) ((x00, x01, x02, x03, PUnit.unit), PUnit.unit)))
theorem el_i_Count_0 (C : CallT) (L : LoopT) (x00 : Int) (x01 : List CVal) (x02 : Int) (x03 : Int) : evL E N C L f_i_Count 0 lc_i_Count_0 [] k_i_Count_0 ((x00, x01, x02, x03, ()), ()) = nl_i_Count_0 C L x00 x01 x02 x03 := by kernel_rfl
theorem gl_i_Count_0 (x00 : Int) (x01 : List CVal) (x02 : Int) (x03 : Int) (R : LO k_i_Count_0.T) (h : nl_i_Count_0 CC LL x00 x01 x02 x03 = some R) : LL f_i_Count 0 lc_i_Count_0 [] k_i_Count_0 ((x00, x01, x02, x03, ()), ()) = some R := loopW ((el_i_Count_0 CC LL x00 x01 x02 x03).trans h)
noncomputable def nl_l_toInsS_0 (C : CallT) (L : LoopT) (x00 : List CVal) (x02 : Int) (x1 : List CVal) : Option (LO k_l_toInsS_0.T) :=
  br (decide (x02 < (↑x00.length : Int)))
    (br (decide ((0 : Int) ≤ x02) && true)
      (x00[x02.toNat]?.bind fun y =>
        br (CVal.fits true (7 : Nat) y)
          ((y.sub (0 : Nat) (7 : Nat)).bind fun y =>
            (C f_l_toIns [AVal.v y] []).bind fun r =>
              br (decide ((0 : Int) ≤ x02) && true)
                (br (decide (x02.toNat < x1.length) && true)
                  (x1[x02.toNat]?.bind fun y =>
                    br (CVal.fits true (7 : Nat) r.1)
                      (br (CVal.fits true (7 : Nat) y)
                        (L f_l_toInsS (0 : Nat) lc_l_toInsS_0 [] k_l_toInsS_0
                          ((x00, PUnit.unit, IntKind.i64.wrap (x02 + (1 : Int)), PUnit.unit), x1.set x02.toNat r.1,
                            PUnit.unit))
                        (br (y.isAgg && decide ((0 : Nat) + r.1.cells.length ≤ y.cells.length))
                          (L f_l_toInsS (0 : Nat) lc_l_toInsS_0 [] k_l_toInsS_0
                            ((x00, PUnit.unit, IntKind.i64.wrap (x02 + (1 : Int)), PUnit.unit),
                              x1.set x02.toNat (CVal.agg (splice y.cells (0 : Nat) r.1.cells)), PUnit.unit))
                          none))
                      none)
                  none)
                none)
          none)
      none)
    (some (LO.out (0 : Nat) ((x00, PUnit.unit, x02, PUnit.unit), x1, PUnit.unit)))
theorem el_l_toInsS_0 (C : CallT) (L : LoopT) (x00 : List CVal) (x02 : Int) (x1 : List CVal) : evL E N C L f_l_toInsS 0 lc_l_toInsS_0 [] k_l_toInsS_0 ((x00, (), x02, ()), x1, ()) = nl_l_toInsS_0 C L x00 x02 x1 := by kernel_rfl
theorem gl_l_toInsS_0 (x00 : List CVal) (x02 : Int) (x1 : List CVal) (R : LO k_l_toInsS_0.T) (h : nl_l_toInsS_0 CC LL x00 x02 x1 = some R) : LL f_l_toInsS 0 lc_l_toInsS_0 [] k_l_toInsS_0 ((x00, (), x02, ()), x1, ()) = some R := loopW ((el_l_toInsS_0 CC LL x00 x02 x1).trans h)
noncomputable def nl_l_toIntS_0 (C : CallT) (L : LoopT) (x00 : List CVal) (x02 : Int) (x1 : List CVal) : Option (LO k_l_toIntS_0.T) :=
  br (decide (x02 < (↑x00.length : Int)))
    (br (decide ((0 : Int) ≤ x02) && true)
      (x00[x02.toNat]?.bind fun y =>
        br (CVal.fits false (1 : Nat) y)
          ((y.cell (0 : Nat)).bind fun c =>
            br (decide ((0 : Int) ≤ x02) && true)
              (br (decide (x02.toNat < x1.length) && true)
                (x1[x02.toNat]?.bind fun y =>
                  br (CVal.fits false (1 : Nat) c)
                    (br (CVal.fits false (1 : Nat) y)
                      (L f_l_toIntS (0 : Nat) lc_l_toIntS_0 [] k_l_toIntS_0
                        ((x00, PUnit.unit, IntKind.i64.wrap (x02 + (1 : Int)), PUnit.unit), x1.set x02.toNat c,
                          PUnit.unit))
                      (br (y.isAgg && decide ((0 : Nat) + c.cells.length ≤ y.cells.length))
                        (L f_l_toIntS (0 : Nat) lc_l_toIntS_0 [] k_l_toIntS_0
                          ((x00, PUnit.unit, IntKind.i64.wrap (x02 + (1 : Int)), PUnit.unit),
                            x1.set x02.toNat (CVal.agg (splice y.cells (0 : Nat) c.cells)), PUnit.unit))
                        none))
                    none)
                none)
              none)
          none)
      none)
    (some (LO.out (0 : Nat) ((x00, PUnit.unit, x02, PUnit.unit), x1, PUnit.unit)))
theorem el_l_toIntS_0 (C : CallT) (L : LoopT) (x00 : List CVal) (x02 : Int) (x1 : List CVal) : evL E N C L f_l_toIntS 0 lc_l_toIntS_0 [] k_l_toIntS_0 ((x00, (), x02, ()), x1, ()) = nl_l_toIntS_0 C L x00 x02 x1 := by kernel_rfl
theorem gl_l_toIntS_0 (x00 : List CVal) (x02 : Int) (x1 : List CVal) (R : LO k_l_toIntS_0.T) (h : nl_l_toIntS_0 CC LL x00 x02 x1 = some R) : LL f_l_toIntS 0 lc_l_toIntS_0 [] k_l_toIntS_0 ((x00, (), x02, ()), x1, ()) = some R := loopW ((el_l_toIntS_0 CC LL x00 x02 x1).trans h)
end Go.Proofs.Ytomkegeojknihaa.Abs
