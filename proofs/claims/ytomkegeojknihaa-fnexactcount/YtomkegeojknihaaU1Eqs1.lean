/- What the functions come to in the abstract machine. -/
import Derived.Test.YtomkegeojknihaaU1Ann
import Derived.KernelRfl
set_option linter.unusedVariables false
set_option maxRecDepth 100000
namespace Go.Proofs.Ytomkegeojknihaa.Abs
open Go Go.Proofs
noncomputable def nf_l_FnExactCount (C : CallT) (L : LoopT) (a0 : List CVal) (a10 : Int) (a11 : Int) (a12 : Int) (a13 : List CVal) : Option Ret :=
  (C f_l_szCode
        [AVal.v
            (CVal.agg
              [CVal.sl a0, CVal.int IntKind.i64 a10, CVal.int IntKind.i64 a11, CVal.int IntKind.i64 a12, CVal.sl a13]),
          AVal.v (CVal.int IntKind.i64 (1048576 : Int))]
        []).bind
    fun r =>
    (CVal.asInt IntKind.i64 r.1).bind fun n =>
      br (decide (n < (0 : Int))) (some (CVal.bool true, []))
        ((C f_l_toCode
              [AVal.v
                  (CVal.agg
                    [CVal.sl a0, CVal.int IntKind.i64 a10, CVal.int IntKind.i64 a11, CVal.int IntKind.i64 a12,
                      CVal.sl a13])]
              []).bind
          fun r =>
          (C f_s_Count [AVal.v r.1] []).bind fun r =>
            (C f_l_toCode
                  [AVal.v
                      (CVal.agg
                        [CVal.sl a0, CVal.int IntKind.i64 a10, CVal.int IntKind.i64 a11, CVal.int IntKind.i64 a12,
                          CVal.sl a13])]
                  []).bind
              fun r_1 =>
              br (CVal.isAggN (5 : Nat) r_1.1)
                ((r_1.1.cell (0 : Nat)).bind fun c =>
                  (r_1.1.cell (1 : Nat)).bind fun c_1 =>
                    (r_1.1.cell (2 : Nat)).bind fun c_2 =>
                      (r_1.1.cell (3 : Nat)).bind fun c_3 =>
                        (r_1.1.cell (4 : Nat)).bind fun c_4 =>
                          (C f_i_Count [AVal.v (CVal.agg [c, c_1, c_2, c_3, c_4])] []).bind fun r_2 =>
                            (CVal.asInt IntKind.i64 r_2.1).bind fun n =>
                              (CVal.asInt IntKind.i64 r.1).bind fun n_1 =>
                                br (!decide (n = n_1)) (some (CVal.bool false, []))
                                  ((C f_l_toCode
                                        [AVal.v
                                            (CVal.agg
                                              [CVal.sl a0, CVal.int IntKind.i64 a10, CVal.int IntKind.i64 a11,
                                                CVal.int IntKind.i64 a12, CVal.sl a13])]
                                        []).bind
                                    fun r =>
                                    (C f_l_eqCode [AVal.v (CVal.agg [c, c_1, c_2, c_3, c_4]), AVal.v r.1] []).bind
                                      fun r =>
                                      r.1.asBool.bind fun b =>
                                        br (!b) (some (CVal.bool false, [])) (some (CVal.bool true, []))))
                none)
theorem eq_l_FnExactCount (C : CallT) (L : LoopT) (a0 : List CVal) (a10 : Int) (a11 : Int) (a12 : Int) (a13 : List CVal) : evF E N C L f_l_FnExactCount [AVal.v
    (CVal.agg [CVal.sl a0, CVal.int IntKind.i64 a10, CVal.int IntKind.i64 a11, CVal.int IntKind.i64 a12, CVal.sl a13])] [] = nf_l_FnExactCount C L a0 a10 a11 a12 a13 := by kernel_rfl
theorem go_l_FnExactCount (a0 : List CVal) (a10 : Int) (a11 : Int) (a12 : Int) (a13 : List CVal) (R : Ret) (h : nf_l_FnExactCount CC LL a0 a10 a11 a12 a13 = some R) : CC f_l_FnExactCount [AVal.v
    (CVal.agg [CVal.sl a0, CVal.int IntKind.i64 a10, CVal.int IntKind.i64 a11, CVal.int IntKind.i64 a12, CVal.sl a13])] [] = some R := fnW (by decide) rfl ((eq_l_FnExactCount CC LL a0 a10 a11 a12 a13).trans h)
noncomputable def nf_l_szPieceS (C : CallT) (L : LoopT) (a : List CVal) (b : Int) : Option Ret :=
  br (decide (IntKind.i64.wrap (b - (↑a.length : Int)) < (0 : Int))) (some (CVal.int IntKind.i64 (-1 : Int), []))
    ((L f_l_szPieceS (0 : Nat) lc_l_szPieceS_0 [] k_l_szPieceS_0
          ((a, IntKind.i64.wrap (b - (↑a.length : Int)), (0 : Int), PUnit.unit), PUnit.unit)).bind
      fun r => loK r (fun r => some r) fun j p => br (j == (0 : Nat)) (some (CVal.int IntKind.i64 p.fst.snd.1, [])) none)
theorem eq_l_szPieceS (C : CallT) (L : LoopT) (a : List CVal) (b : Int) : evF E N C L f_l_szPieceS [AVal.v (CVal.sl a), AVal.v (CVal.int IntKind.i64 b)] [] = nf_l_szPieceS C L a b := by kernel_rfl
theorem go_l_szPieceS (a : List CVal) (b : Int) (R : Ret) (h : nf_l_szPieceS CC LL a b = some R) : CC f_l_szPieceS [AVal.v (CVal.sl a), AVal.v (CVal.int IntKind.i64 b)] [] = some R := fnW (by decide) rfl ((eq_l_szPieceS CC LL a b).trans h)
noncomputable def nf_i_in (C : CallT) (L : LoopT) (a : Int) (b : Int) (c : Int) : Option Ret :=
  (br (decide (b ≤ a)) (some (decide (a ≤ c), PUnit.unit)) (some (false, PUnit.unit))).bind fun y =>
    some (CVal.bool y.1, [])
theorem eq_i_in (C : CallT) (L : LoopT) (a : Int) (b : Int) (c : Int) : evF E N C L f_i_in [AVal.v (CVal.int IntKind.i64 a), AVal.v (CVal.int IntKind.i64 b), AVal.v (CVal.int IntKind.i64 c)] [] = nf_i_in C L a b c := by kernel_rfl
theorem go_i_in (a : Int) (b : Int) (c : Int) (R : Ret) (h : nf_i_in CC LL a b c = some R) : CC f_i_in [AVal.v (CVal.int IntKind.i64 a), AVal.v (CVal.int IntKind.i64 b), AVal.v (CVal.int IntKind.i64 c)] [] = some R := fnW (by decide) rfl ((eq_i_in CC LL a b c).trans h)
noncomputable def nf_i_lamOk (C : CallT) (L : LoopT) (a0 : Int) (a1 : Int) (a2 : Int) (a3 : List CVal) : Option Ret :=
  (br (decide (a0 = (-1 : Int)))
        (br (decide (a1 = (0 : Int))) (some (true, PUnit.unit))
          ((C f_i_in
                [AVal.v (CVal.int IntKind.i64 a0), AVal.v (CVal.int IntKind.i64 (0 : Int)),
                  AVal.v (CVal.int IntKind.i64 (149 : Int))]
                []).bind
            fun r =>
            r.1.asBool.bind fun b => br b (some (decide ((1 : Int) ≤ a1), PUnit.unit)) (some (false, PUnit.unit))))
        ((C f_i_in
              [AVal.v (CVal.int IntKind.i64 a0), AVal.v (CVal.int IntKind.i64 (0 : Int)),
                AVal.v (CVal.int IntKind.i64 (149 : Int))]
              []).bind
          fun r =>
          r.1.asBool.bind fun b => br b (some (decide ((1 : Int) ≤ a1), PUnit.unit)) (some (false, PUnit.unit)))).bind
    fun y => some (CVal.bool y.1, [])
theorem eq_i_lamOk (C : CallT) (L : LoopT) (a0 : Int) (a1 : Int) (a2 : Int) (a3 : List CVal) : evF E N C L f_i_lamOk [AVal.v (CVal.agg [CVal.int IntKind.i64 a0, CVal.int IntKind.i64 a1, CVal.int IntKind.i64 a2, CVal.sl a3])] [] = nf_i_lamOk C L a0 a1 a2 a3 := by kernel_rfl
theorem go_i_lamOk (a0 : Int) (a1 : Int) (a2 : Int) (a3 : List CVal) (R : Ret) (h : nf_i_lamOk CC LL a0 a1 a2 a3 = some R) : CC f_i_lamOk [AVal.v (CVal.agg [CVal.int IntKind.i64 a0, CVal.int IntKind.i64 a1, CVal.int IntKind.i64 a2, CVal.sl a3])] [] = some R := fnW (by decide) rfl ((eq_i_lamOk CC LL a0 a1 a2 a3).trans h)
noncomputable def nf_s_l9Reg (C : CallT) (L : LoopT) (a : Bool) (b : Int) (c : Int) : Option Ret :=
  br (!a) (some (CVal.bool (decide (b = (0 : Int))), []))
    ((C f_s_l1In
          [AVal.v (CVal.int IntKind.i64 b), AVal.v (CVal.int IntKind.i64 (0 : Int)),
            AVal.v (CVal.int IntKind.i64 (IntKind.i64.wrap (c - (1 : Int))))]
          []).bind
      fun r => some (r.1, []))
theorem eq_s_l9Reg (C : CallT) (L : LoopT) (a : Bool) (b : Int) (c : Int) : evF E N C L f_s_l9Reg [AVal.v (CVal.bool a), AVal.v (CVal.int IntKind.i64 b), AVal.v (CVal.int IntKind.i64 c)] [] = nf_s_l9Reg C L a b c := by kernel_rfl
theorem go_s_l9Reg (a : Bool) (b : Int) (c : Int) (R : Ret) (h : nf_s_l9Reg CC LL a b c = some R) : CC f_s_l9Reg [AVal.v (CVal.bool a), AVal.v (CVal.int IntKind.i64 b), AVal.v (CVal.int IntKind.i64 c)] [] = some R := fnW (by decide) rfl ((eq_s_l9Reg CC LL a b c).trans h)
noncomputable def nf_i_numOk (C : CallT) (L : LoopT) (a0 : Int) (a1 : Int) (a2 : Int) (a3 : Int) (a4 : Int) (a5 : List CVal) (a6 : Int) : Option Ret :=
  br (decide (a0 = (1 : Int)))
    ((C f_i_in
          [AVal.v (CVal.int IntKind.i64 a4), AVal.v (CVal.int IntKind.i64 (-1000000 : Int)),
            AVal.v (CVal.int IntKind.i64 (1000000 : Int))]
          []).bind
      fun r => some (r.1, []))
    (br (decide (a0 = (2 : Int)))
      ((C f_i_in
            [AVal.v (CVal.int IntKind.i64 a4), AVal.v (CVal.int IntKind.i64 (0 : Int)),
              AVal.v (CVal.int IntKind.i64 (1 : Int))]
            []).bind
        fun r => some (r.1, []))
      (br (decide (a0 = (5 : Int)))
        ((C f_i_in
              [AVal.v (CVal.int IntKind.i64 a4), AVal.v (CVal.int IntKind.i64 (1 : Int)),
                AVal.v (CVal.int IntKind.i64 (5 : Int))]
              []).bind
          fun r => some (r.1, []))
        (br (decide (a0 = (8 : Int)))
          (((C f_i_in
                    [AVal.v (CVal.int IntKind.i64 a4), AVal.v (CVal.int IntKind.i64 (0 : Int)),
                      AVal.v (CVal.int IntKind.i64 (149 : Int))]
                    []).bind
                fun r =>
                r.1.asBool.bind fun b =>
                  br b (some (decide ((↑a5.length : Int) < (100 : Int)), PUnit.unit)) (some (false, PUnit.unit))).bind
            fun y => some (CVal.bool y.1, []))
          (some (CVal.bool (decide (a4 = (0 : Int))), [])))))
theorem eq_i_numOk (C : CallT) (L : LoopT) (a0 : Int) (a1 : Int) (a2 : Int) (a3 : Int) (a4 : Int) (a5 : List CVal) (a6 : Int) : evF E N C L f_i_numOk [AVal.v
    (CVal.agg
      [CVal.int IntKind.i64 a0, CVal.int IntKind.i64 a1, CVal.int IntKind.i64 a2, CVal.int IntKind.i64 a3,
        CVal.int IntKind.i64 a4, CVal.sl a5, CVal.int IntKind.i64 a6])] [] = nf_i_numOk C L a0 a1 a2 a3 a4 a5 a6 := by kernel_rfl
theorem go_i_numOk (a0 : Int) (a1 : Int) (a2 : Int) (a3 : Int) (a4 : Int) (a5 : List CVal) (a6 : Int) (R : Ret) (h : nf_i_numOk CC LL a0 a1 a2 a3 a4 a5 a6 = some R) : CC f_i_numOk [AVal.v
    (CVal.agg
      [CVal.int IntKind.i64 a0, CVal.int IntKind.i64 a1, CVal.int IntKind.i64 a2, CVal.int IntKind.i64 a3,
        CVal.int IntKind.i64 a4, CVal.sl a5, CVal.int IntKind.i64 a6])] [] = some R := fnW (by decide) rfl ((eq_i_numOk CC LL a0 a1 a2 a3 a4 a5 a6).trans h)
noncomputable def nf_slices_Contains_byte (C : CallT) (L : LoopT) (a : List CVal) (b : Int) : Option Ret :=
  (C f_slices_Index_byte [AVal.v (CVal.sl a), AVal.v (CVal.int IntKind.u8 b)] []).bind fun r =>
    (CVal.asInt IntKind.i64 r.1).bind fun n => some (CVal.bool (decide ((0 : Int) ≤ n)), [])
theorem eq_slices_Contains_byte (C : CallT) (L : LoopT) (a : List CVal) (b : Int) : evF E N C L f_slices_Contains_byte [AVal.v (CVal.sl a), AVal.v (CVal.int IntKind.u8 b)] [] = nf_slices_Contains_byte C L a b := by kernel_rfl
theorem go_slices_Contains_byte (a : List CVal) (b : Int) (R : Ret) (h : nf_slices_Contains_byte CC LL a b = some R) : CC f_slices_Contains_byte [AVal.v (CVal.sl a), AVal.v (CVal.int IntKind.u8 b)] [] = some R := fnW (by decide) rfl ((eq_slices_Contains_byte CC LL a b).trans h)
noncomputable def nl_l_toPieceS_0 (C : CallT) (L : LoopT) (x00 : List CVal) (x02 : Int) (x1 : List CVal) : Option (LO k_l_toPieceS_0.T) :=
  br (decide (x02 < (↑x00.length : Int)))
    (br (decide ((0 : Int) ≤ x02) && true)
      (x00[x02.toNat]?.bind fun y =>
        br (CVal.fits true (4 : Nat) y)
          ((y.sub (0 : Nat) (4 : Nat)).bind fun y =>
            (C f_l_toPiece [AVal.v y] []).bind fun r =>
              br (decide ((0 : Int) ≤ x02) && true)
                (br (decide (x02.toNat < x1.length) && true)
                  (x1[x02.toNat]?.bind fun y =>
                    br (CVal.fits true (4 : Nat) r.1)
                      (br (CVal.fits true (4 : Nat) y)
                        (L f_l_toPieceS (0 : Nat) lc_l_toPieceS_0 [] k_l_toPieceS_0
                          ((x00, PUnit.unit, IntKind.i64.wrap (x02 + (1 : Int)), PUnit.unit), x1.set x02.toNat r.1,
                            PUnit.unit))
                        (br (y.isAgg && decide ((0 : Nat) + r.1.cells.length ≤ y.cells.length))
                          (L f_l_toPieceS (0 : Nat) lc_l_toPieceS_0 [] k_l_toPieceS_0
                            ((x00, PUnit.unit, IntKind.i64.wrap (x02 + (1 : Int)), PUnit.unit),
                              x1.set x02.toNat (CVal.agg (splice y.cells (0 : Nat) r.1.cells)), PUnit.unit))
                          none))
                      none)
                  none)
                none)
          none)
      none)
    (some (LO.out (0 : Nat) ((x00, PUnit.unit, x02, PUnit.unit), x1, PUnit.unit)))
theorem el_l_toPieceS_0 (C : CallT) (L : LoopT) (x00 : List CVal) (x02 : Int) (x1 : List CVal) : evL E N C L f_l_toPieceS 0 lc_l_toPieceS_0 [] k_l_toPieceS_0 ((x00, (), x02, ()), x1, ()) = nl_l_toPieceS_0 C L x00 x02 x1 := by kernel_rfl
theorem gl_l_toPieceS_0 (x00 : List CVal) (x02 : Int) (x1 : List CVal) (R : LO k_l_toPieceS_0.T) (h : nl_l_toPieceS_0 CC LL x00 x02 x1 = some R) : LL f_l_toPieceS 0 lc_l_toPieceS_0 [] k_l_toPieceS_0 ((x00, (), x02, ()), x1, ()) = some R := loopW ((el_l_toPieceS_0 CC LL x00 x02 x1).trans h)
noncomputable def nl_s_l9Ins_3 (C : CallT) (L : LoopT) (x01 : Int) (x10 : Int) (x11 : Int) (x12 : Int) (x13 : Int) (x14 : Int) (x15 : List CVal) (x16 : Int) : Option (LO k_s_l9Ins_3.T) :=
  br (decide (x01 < (↑x15.length : Int)))
    (br (decide ((0 : Int) ≤ IntKind.i64.wrap (x01 - (1 : Int))) && true)
      (x15[(IntKind.i64.wrap (x01 - (1 : Int))).toNat]?.bind fun y =>
        br (CVal.fits false (1 : Nat) y)
          ((y.cell (0 : Nat)).bind fun c =>
            br (decide ((0 : Int) ≤ x01) && true)
              (x15[x01.toNat]?.bind fun y =>
                br (CVal.fits false (1 : Nat) y)
                  ((y.cell (0 : Nat)).bind fun c_1 =>
                    (CVal.asInt IntKind.i64 c).bind fun n =>
                      (CVal.asInt IntKind.i64 c_1).bind fun n_1 =>
                        br (decide (n_1 ≤ n)) (some (LO.ret (CVal.bool false, [])))
                          (L f_s_l9Ins (3 : Nat) lc_s_l9Ins_3 [] k_s_l9Ins_3
                            ((PUnit.unit, IntKind.i64.wrap (x01 + (1 : Int)), PUnit.unit),
                              (x10, x11, x12, x13, x14, x15, x16, PUnit.unit), PUnit.unit)))
                  none)
              none)
          none)
      none)
    (some (LO.out (3 : Nat) ((PUnit.unit, x01, PUnit.unit), (x10, x11, x12, x13, x14, x15, x16, PUnit.unit), PUnit.unit)))
theorem el_s_l9Ins_3 (C : CallT) (L : LoopT) (x01 : Int) (x10 : Int) (x11 : Int) (x12 : Int) (x13 : Int) (x14 : Int) (x15 : List CVal) (x16 : Int) : evL E N C L f_s_l9Ins 3 lc_s_l9Ins_3 [] k_s_l9Ins_3 (((), x01, ()), (x10, x11, x12, x13, x14, x15, x16, ()), ()) = nl_s_l9Ins_3 C L x01 x10 x11 x12 x13 x14 x15 x16 := by kernel_rfl
theorem gl_s_l9Ins_3 (x01 : Int) (x10 : Int) (x11 : Int) (x12 : Int) (x13 : Int) (x14 : Int) (x15 : List CVal) (x16 : Int) (R : LO k_s_l9Ins_3.T) (h : nl_s_l9Ins_3 CC LL x01 x10 x11 x12 x13 x14 x15 x16 = some R) : LL f_s_l9Ins 3 lc_s_l9Ins_3 [] k_s_l9Ins_3 (((), x01, ()), (x10, x11, x12, x13, x14, x15, x16, ()), ()) = some R := loopW ((el_s_l9Ins_3 CC LL x01 x10 x11 x12 x13 x14 x15 x16).trans h)
noncomputable def nl_l_eqIntS_0 (C : CallT) (L : LoopT) (x00 : List CVal) (x01 : List CVal) (x02 : Int) : Option (LO k_l_eqIntS_0.T) :=
  br (decide (x02 < (↑x00.length : Int)))
    (br (decide ((0 : Int) ≤ x02) && true)
      (x00[x02.toNat]?.bind fun y =>
        br (CVal.fits false (1 : Nat) y)
          ((y.cell (0 : Nat)).bind fun c =>
            br (decide ((0 : Int) ≤ x02) && true)
              (x01[x02.toNat]?.bind fun y =>
                br (CVal.fits false (1 : Nat) y)
                  ((y.cell (0 : Nat)).bind fun c_1 =>
                    (CVal.asInt IntKind.i64 c).bind fun n =>
                      (CVal.asInt IntKind.i64 c_1).bind fun n_1 =>
                        br (!decide (n = n_1)) (some (LO.ret (CVal.bool false, [])))
                          (L f_l_eqIntS (0 : Nat) lc_l_eqIntS_0 [] k_l_eqIntS_0
                            ((x00, x01, IntKind.i64.wrap (x02 + (1 : Int)), PUnit.unit), PUnit.unit)))
                  none)
              none)
          none)
      none)
    (some (LO.out (0 : Nat) ((x00, x01, x02, PUnit.unit), PUnit.unit)))
theorem el_l_eqIntS_0 (C : CallT) (L : LoopT) (x00 : List CVal) (x01 : List CVal) (x02 : Int) : evL E N C L f_l_eqIntS 0 lc_l_eqIntS_0 [] k_l_eqIntS_0 ((x00, x01, x02, ()), ()) = nl_l_eqIntS_0 C L x00 x01 x02 := by kernel_rfl
theorem gl_l_eqIntS_0 (x00 : List CVal) (x01 : List CVal) (x02 : Int) (R : LO k_l_eqIntS_0.T) (h : nl_l_eqIntS_0 CC LL x00 x01 x02 = some R) : LL f_l_eqIntS 0 lc_l_eqIntS_0 [] k_l_eqIntS_0 ((x00, x01, x02, ()), ()) = some R := loopW ((el_l_eqIntS_0 CC LL x00 x01 x02).trans h)
end Go.Proofs.Ytomkegeojknihaa.Abs
