/- What the functions come to in the abstract machine. -/
import Derived.Test.YtomkegeojknihaaU1Ann
import Derived.KernelRfl
set_option linter.unusedVariables false
set_option maxRecDepth 100000
namespace Go.Proofs.Ytomkegeojknihaa.Abs
open Go Go.Proofs
noncomputable def nf_i_CodeOk (C : CallT) (L : LoopT) (a0 : List CVal) (a10 : Int) (a11 : Int) (a12 : Int) (a13 : List CVal) : Option Ret :=
  (br (decide ((200 : Int) < (↑a0.length : Int))) (some (true, PUnit.unit))
        (br (!decide (a10 = (-1 : Int))) (some (true, PUnit.unit))
          (br (!decide (a11 = (0 : Int))) (some (true, PUnit.unit))
            ((C f_i_pieceOk
                  [AVal.v
                      (CVal.agg
                        [CVal.int IntKind.i64 a10, CVal.int IntKind.i64 a11, CVal.int IntKind.i64 a12, CVal.sl a13])]
                  []).bind
              fun r =>
              r.1.asBool.bind fun b =>
                br (!b) (some (true, PUnit.unit))
                  ((C f_i_lamsOk
                        [AVal.v
                            (CVal.agg
                              [CVal.sl a0, CVal.int IntKind.i64 a10, CVal.int IntKind.i64 a11, CVal.int IntKind.i64 a12,
                                CVal.sl a13]),
                          AVal.v
                            (CVal.agg
                              [CVal.int IntKind.i64 a10, CVal.int IntKind.i64 a11, CVal.int IntKind.i64 a12,
                                CVal.sl a13])]
                        []).bind
                    fun r => r.1.asBool.bind fun b => some (!b, PUnit.unit)))))).bind
    fun y =>
    br y.1 (some (CVal.bool false, []))
      ((L f_i_CodeOk (0 : Nat) lc_i_CodeOk_0 [] k_i_CodeOk_0
            ((PUnit.unit, a0, (↑a0.length : Int), (0 : Int), PUnit.unit), (a0, a10, a11, a12, a13, PUnit.unit),
              PUnit.unit)).bind
        fun r => loK r (fun r => some r) fun j p => br (j == (0 : Nat)) (some (CVal.bool true, [])) none)
theorem eq_i_CodeOk (C : CallT) (L : LoopT) (a0 : List CVal) (a10 : Int) (a11 : Int) (a12 : Int) (a13 : List CVal) : evF E N C L f_i_CodeOk [AVal.v
    (CVal.agg [CVal.sl a0, CVal.int IntKind.i64 a10, CVal.int IntKind.i64 a11, CVal.int IntKind.i64 a12, CVal.sl a13])] [] = nf_i_CodeOk C L a0 a10 a11 a12 a13 := by kernel_rfl
theorem go_i_CodeOk (a0 : List CVal) (a10 : Int) (a11 : Int) (a12 : Int) (a13 : List CVal) (R : Ret) (h : nf_i_CodeOk CC LL a0 a10 a11 a12 a13 = some R) : CC f_i_CodeOk [AVal.v
    (CVal.agg [CVal.sl a0, CVal.int IntKind.i64 a10, CVal.int IntKind.i64 a11, CVal.int IntKind.i64 a12, CVal.sl a13])] [] = some R := fnW (by decide) rfl ((eq_i_CodeOk CC LL a0 a10 a11 a12 a13).trans h)
noncomputable def nf_s_l9Piece (C : CallT) (L : LoopT) (a0 : Int) (a1 : Int) (a2 : Int) (a3 : List CVal) : Option Ret :=
  ((C f_s_l1In
            [AVal.v (CVal.int IntKind.i64 a0), AVal.v (CVal.int IntKind.i64 (-1 : Int)),
              AVal.v (CVal.int IntKind.i64 (149 : Int))]
            []).bind
        fun r =>
        r.1.asBool.bind fun b =>
          br (!b) (some (true, PUnit.unit))
            (br (decide (a1 < (0 : Int))) (some (true, PUnit.unit))
              (br (decide (a0 < (0 : Int)))
                (br (!decide (a1 = (0 : Int))) (some (true, PUnit.unit))
                  (br (decide ((0 : Int) ≤ a0))
                    (br (decide (a1 < (1 : Int))) (some (true, PUnit.unit))
                      ((C f_s_l1In
                            [AVal.v (CVal.int IntKind.i64 a2), AVal.v (CVal.int IntKind.i64 a1),
                              AVal.v (CVal.int IntKind.i64 (400 : Int))]
                            []).bind
                        fun r =>
                        r.1.asBool.bind fun b =>
                          br (!b) (some (true, PUnit.unit))
                            ((C f_s_l1In
                                  [AVal.v (CVal.int IntKind.i64 (↑a3.length : Int)),
                                    AVal.v (CVal.int IntKind.i64 (1 : Int)), AVal.v (CVal.int IntKind.i64 (600 : Int))]
                                  []).bind
                              fun r => r.1.asBool.bind fun b => some (!b, PUnit.unit))))
                    ((C f_s_l1In
                          [AVal.v (CVal.int IntKind.i64 a2), AVal.v (CVal.int IntKind.i64 a1),
                            AVal.v (CVal.int IntKind.i64 (400 : Int))]
                          []).bind
                      fun r =>
                      r.1.asBool.bind fun b =>
                        br (!b) (some (true, PUnit.unit))
                          ((C f_s_l1In
                                [AVal.v (CVal.int IntKind.i64 (↑a3.length : Int)),
                                  AVal.v (CVal.int IntKind.i64 (1 : Int)), AVal.v (CVal.int IntKind.i64 (600 : Int))]
                                []).bind
                            fun r => r.1.asBool.bind fun b => some (!b, PUnit.unit)))))
                (br (decide ((0 : Int) ≤ a0))
                  (br (decide (a1 < (1 : Int))) (some (true, PUnit.unit))
                    ((C f_s_l1In
                          [AVal.v (CVal.int IntKind.i64 a2), AVal.v (CVal.int IntKind.i64 a1),
                            AVal.v (CVal.int IntKind.i64 (400 : Int))]
                          []).bind
                      fun r =>
                      r.1.asBool.bind fun b =>
                        br (!b) (some (true, PUnit.unit))
                          ((C f_s_l1In
                                [AVal.v (CVal.int IntKind.i64 (↑a3.length : Int)),
                                  AVal.v (CVal.int IntKind.i64 (1 : Int)), AVal.v (CVal.int IntKind.i64 (600 : Int))]
                                []).bind
                            fun r => r.1.asBool.bind fun b => some (!b, PUnit.unit))))
                  ((C f_s_l1In
                        [AVal.v (CVal.int IntKind.i64 a2), AVal.v (CVal.int IntKind.i64 a1),
                          AVal.v (CVal.int IntKind.i64 (400 : Int))]
                        []).bind
                    fun r =>
                    r.1.asBool.bind fun b =>
                      br (!b) (some (true, PUnit.unit))
                        ((C f_s_l1In
                              [AVal.v (CVal.int IntKind.i64 (↑a3.length : Int)), AVal.v (CVal.int IntKind.i64 (1 : Int)),
                                AVal.v (CVal.int IntKind.i64 (600 : Int))]
                              []).bind
                          fun r => r.1.asBool.bind fun b => some (!b, PUnit.unit))))))).bind
    fun y =>
    br y.1 (some (CVal.bool false, []))
      ((L f_s_l9Piece (0 : Nat) lc_s_l9Piece_0 [] k_s_l9Piece_0
            (((CVal.agg [CVal.int IntKind.i64 a0, CVal.int IntKind.i64 a1, CVal.int IntKind.i64 a2, CVal.sl a3]).fp
                  (0 : Nat),
                (↑a3.length : Int), (0 : Int), PUnit.unit),
              PUnit.unit)).bind
        fun r =>
        loK r (fun r => some r) fun j p =>
          br (j == (0 : Nat))
            (((CVal.asFp p.fst.1).bind fun y =>
                  (y.1.cell (y.2 + (3 : Nat))).bind fun c =>
                    br (decide ((0 : Int) ≤ IntKind.i64.wrap (p.fst.snd.1 - (1 : Int))) && true)
                      (c.asSl.bind fun xs =>
                        xs[(IntKind.i64.wrap (p.fst.snd.1 - (1 : Int))).toNat]?.bind fun y =>
                          br (CVal.fits true (7 : Nat) y)
                            ((y.cell (0 : Nat)).bind fun c =>
                              (CVal.asInt IntKind.i64 c).bind fun n =>
                                br (decide (n = (15 : Int))) (some (true, PUnit.unit))
                                  ((CVal.asFp p.fst.1).bind fun y =>
                                    (y.1.cell (y.2 + (3 : Nat))).bind fun c =>
                                      br (decide ((0 : Int) ≤ IntKind.i64.wrap (p.fst.snd.1 - (1 : Int))) && true)
                                        (c.asSl.bind fun xs =>
                                          xs[(IntKind.i64.wrap (p.fst.snd.1 - (1 : Int))).toNat]?.bind fun y =>
                                            br (CVal.fits true (7 : Nat) y)
                                              ((y.cell (0 : Nat)).bind fun c =>
                                                (CVal.asInt IntKind.i64 c).bind fun n =>
                                                  some (decide (n = (13 : Int)), PUnit.unit))
                                              none)
                                        none))
                            none)
                      none).bind
              fun y => some (CVal.bool y.1, []))
            none)
theorem eq_s_l9Piece (C : CallT) (L : LoopT) (a0 : Int) (a1 : Int) (a2 : Int) (a3 : List CVal) : evF E N C L f_s_l9Piece [AVal.v (CVal.agg [CVal.int IntKind.i64 a0, CVal.int IntKind.i64 a1, CVal.int IntKind.i64 a2, CVal.sl a3])] [] = nf_s_l9Piece C L a0 a1 a2 a3 := by kernel_rfl
theorem go_s_l9Piece (a0 : Int) (a1 : Int) (a2 : Int) (a3 : List CVal) (R : Ret) (h : nf_s_l9Piece CC LL a0 a1 a2 a3 = some R) : CC f_s_l9Piece [AVal.v (CVal.agg [CVal.int IntKind.i64 a0, CVal.int IntKind.i64 a1, CVal.int IntKind.i64 a2, CVal.sl a3])] [] = some R := fnW (by decide) rfl ((eq_s_l9Piece CC LL a0 a1 a2 a3).trans h)
noncomputable def nf_l_toInsS (C : CallT) (L : LoopT) (a : List CVal) : Option Ret :=
  br (decide ((↑a.length : Int) = (↑a.length : Int)) && decide ((↑a.length : Int) ≤ (1048576 : Int)))
    ((L f_l_toInsS (0 : Nat) lc_l_toInsS_0 [] k_l_toInsS_0
          ((a, PUnit.unit, (0 : Int), PUnit.unit),
            List.replicate (↑a.length : Int).toNat
              (CVal.agg
                [CVal.int IntKind.i64 (0 : Int), CVal.int IntKind.i64 (0 : Int), CVal.int IntKind.i64 (0 : Int),
                  CVal.int IntKind.i64 (0 : Int), CVal.int IntKind.i64 (0 : Int), CVal.sl [],
                  CVal.int IntKind.i64 (0 : Int)]),
            PUnit.unit)).bind
      fun r => loK r (fun r => some r) fun j p => br (j == (0 : Nat)) (some (CVal.sl p.snd.1, [])) none)
    none
theorem eq_l_toInsS (C : CallT) (L : LoopT) (a : List CVal) : evF E N C L f_l_toInsS [AVal.v (CVal.sl a)] [] = nf_l_toInsS C L a := by kernel_rfl
theorem go_l_toInsS (a : List CVal) (R : Ret) (h : nf_l_toInsS CC LL a = some R) : CC f_l_toInsS [AVal.v (CVal.sl a)] [] = some R := fnW (by decide) rfl ((eq_l_toInsS CC LL a).trans h)
noncomputable def nf_l_eqInsS (C : CallT) (L : LoopT) (a : List CVal) (b : List CVal) : Option Ret :=
  br (!decide ((↑a.length : Int) = (↑b.length : Int))) (some (CVal.bool false, []))
    ((L f_l_eqInsS (0 : Nat) lc_l_eqInsS_0 [] k_l_eqInsS_0 ((a, b, (0 : Int), PUnit.unit), PUnit.unit)).bind fun r =>
      loK r (fun r => some r) fun j p => br (j == (0 : Nat)) (some (CVal.bool true, [])) none)
theorem eq_l_eqInsS (C : CallT) (L : LoopT) (a : List CVal) (b : List CVal) : evF E N C L f_l_eqInsS [AVal.v (CVal.sl a), AVal.v (CVal.sl b)] [] = nf_l_eqInsS C L a b := by kernel_rfl
theorem go_l_eqInsS (a : List CVal) (b : List CVal) (R : Ret) (h : nf_l_eqInsS CC LL a b = some R) : CC f_l_eqInsS [AVal.v (CVal.sl a), AVal.v (CVal.sl b)] [] = some R := fnW (by decide) rfl ((eq_l_eqInsS CC LL a b).trans h)
noncomputable def nf_l_eqIns (C : CallT) (L : LoopT) (a0 : Int) (a1 : Int) (a2 : Int) (a3 : Int) (a4 : Int) (a5 : List CVal) (a6 : Int) (b0 : Int) (b1 : Int) (b2 : Int) (b3 : Int) (b4 : Int) (b5 : List CVal) (b6 : Int) : Option Ret :=
  br (!decide (a0 = b0)) (some (CVal.bool false, []))
    (br (!decide (a1 = b1)) (some (CVal.bool false, []))
      (br (!decide (a2 = b2)) (some (CVal.bool false, []))
        (br (!decide (a3 = b3)) (some (CVal.bool false, []))
          (br (!decide (a4 = b4)) (some (CVal.bool false, []))
            ((C f_l_eqIntS [AVal.v (CVal.sl a5), AVal.v (CVal.sl b5)] []).bind fun r =>
              r.1.asBool.bind fun b =>
                br (!b) (some (CVal.bool false, []))
                  (br (!decide (a6 = b6)) (some (CVal.bool false, [])) (some (CVal.bool true, []))))))))
theorem eq_l_eqIns (C : CallT) (L : LoopT) (a0 : Int) (a1 : Int) (a2 : Int) (a3 : Int) (a4 : Int) (a5 : List CVal) (a6 : Int) (b0 : Int) (b1 : Int) (b2 : Int) (b3 : Int) (b4 : Int) (b5 : List CVal) (b6 : Int) : evF E N C L f_l_eqIns [AVal.v
    (CVal.agg
      [CVal.int IntKind.i64 a0, CVal.int IntKind.i64 a1, CVal.int IntKind.i64 a2, CVal.int IntKind.i64 a3,
        CVal.int IntKind.i64 a4, CVal.sl a5, CVal.int IntKind.i64 a6]),
  AVal.v
    (CVal.agg
      [CVal.int IntKind.i64 b0, CVal.int IntKind.i64 b1, CVal.int IntKind.i64 b2, CVal.int IntKind.i64 b3,
        CVal.int IntKind.i64 b4, CVal.sl b5, CVal.int IntKind.i64 b6])] [] = nf_l_eqIns C L a0 a1 a2 a3 a4 a5 a6 b0 b1 b2 b3 b4 b5 b6 := by kernel_rfl
theorem go_l_eqIns (a0 : Int) (a1 : Int) (a2 : Int) (a3 : Int) (a4 : Int) (a5 : List CVal) (a6 : Int) (b0 : Int) (b1 : Int) (b2 : Int) (b3 : Int) (b4 : Int) (b5 : List CVal) (b6 : Int) (R : Ret) (h : nf_l_eqIns CC LL a0 a1 a2 a3 a4 a5 a6 b0 b1 b2 b3 b4 b5 b6 = some R) : CC f_l_eqIns [AVal.v
    (CVal.agg
      [CVal.int IntKind.i64 a0, CVal.int IntKind.i64 a1, CVal.int IntKind.i64 a2, CVal.int IntKind.i64 a3,
        CVal.int IntKind.i64 a4, CVal.sl a5, CVal.int IntKind.i64 a6]),
  AVal.v
    (CVal.agg
      [CVal.int IntKind.i64 b0, CVal.int IntKind.i64 b1, CVal.int IntKind.i64 b2, CVal.int IntKind.i64 b3,
        CVal.int IntKind.i64 b4, CVal.sl b5, CVal.int IntKind.i64 b6])] [] = some R := fnW (by decide) rfl ((eq_l_eqIns CC LL a0 a1 a2 a3 a4 a5 a6 b0 b1 b2 b3 b4 b5 b6).trans h)
noncomputable def nf_i_insOk_1 (C : CallT) (L : LoopT) (a : Int) (b0 : Int) (b1 : Int) (b2 : Int) (b3 : List CVal) : Option Ret :=
  (C f_i_in
        [AVal.v (CVal.int IntKind.i64 a), AVal.v (CVal.int IntKind.i64 (0 : Int)),
          AVal.v (CVal.int IntKind.i64 (IntKind.i64.wrap (b2 - (1 : Int))))]
        []).bind
    fun r => r.1.asBool.bind fun b => some (CVal.bool !b, [])
theorem eq_i_insOk_1 (C : CallT) (L : LoopT) (a : Int) (b0 : Int) (b1 : Int) (b2 : Int) (b3 : List CVal) : evF E N C L f_i_insOk_1 [AVal.v (CVal.int IntKind.i64 a),
  AVal.v
    ((CVal.agg [CVal.int IntKind.i64 b0, CVal.int IntKind.i64 b1, CVal.int IntKind.i64 b2, CVal.sl b3]).fp (0 : Nat))] [] = nf_i_insOk_1 C L a b0 b1 b2 b3 := by kernel_rfl
theorem go_i_insOk_1 (a : Int) (b0 : Int) (b1 : Int) (b2 : Int) (b3 : List CVal) (R : Ret) (h : nf_i_insOk_1 CC LL a b0 b1 b2 b3 = some R) : CC f_i_insOk_1 [AVal.v (CVal.int IntKind.i64 a),
  AVal.v
    ((CVal.agg [CVal.int IntKind.i64 b0, CVal.int IntKind.i64 b1, CVal.int IntKind.i64 b2, CVal.sl b3]).fp (0 : Nat))] [] = some R := fnW (by decide) rfl ((eq_i_insOk_1 CC LL a b0 b1 b2 b3).trans h)
noncomputable def nl_i_CodeOk_0 (C : CallT) (L : LoopT) (x01 : List CVal) (x02 : Int) (x03 : Int) (x10 : List CVal) (x11 : Int) (x12 : Int) (x13 : Int) (x14 : List CVal) : Option (LO k_i_CodeOk_0.T) :=
  br (decide (x03 < x02))
    (br (decide ((0 : Int) ≤ x03) && true)
      (x01[x03.toNat]?.bind fun y =>
        br (CVal.fits true (4 : Nat) y)
          ((y.sub (0 : Nat) (4 : Nat)).bind fun y =>
            br (CVal.isAggN (4 : Nat) y)
              ((y.cell (0 : Nat)).bind fun c =>
                (y.cell (1 : Nat)).bind fun c_1 =>
                  (y.cell (2 : Nat)).bind fun c_2 =>
                    (y.cell (3 : Nat)).bind fun c_3 =>
                      ((C f_i_in
                                [AVal.v c, AVal.v (CVal.int IntKind.i64 (0 : Int)),
                                  AVal.v (CVal.int IntKind.i64 (149 : Int))]
                                []).bind
                            fun r =>
                            r.1.asBool.bind fun b =>
                              br (!b) (some (true, PUnit.unit))
                                (br (decide ((0 : Int) < x03))
                                  (br (decide ((0 : Int) ≤ IntKind.i64.wrap (x03 - (1 : Int))) && true)
                                    (x10[(IntKind.i64.wrap (x03 - (1 : Int))).toNat]?.bind fun y =>
                                      br (CVal.fits true (4 : Nat) y)
                                        ((y.cell (0 : Nat)).bind fun c_4 =>
                                          (CVal.asInt IntKind.i64 c_4).bind fun n =>
                                            (CVal.asInt IntKind.i64 c).bind fun n_1 =>
                                              br (decide (n_1 ≤ n)) (some (true, PUnit.unit))
                                                ((CVal.asInt IntKind.i64 c_1).bind fun n =>
                                                  br (decide (n < (1 : Int))) (some (true, PUnit.unit))
                                                    ((C f_i_pieceOk [AVal.v (CVal.agg [c, c_1, c_2, c_3])] []).bind
                                                      fun r =>
                                                      r.1.asBool.bind fun b =>
                                                        br (!b) (some (true, PUnit.unit))
                                                          ((C f_i_lamsOk
                                                                [AVal.v
                                                                    (CVal.agg
                                                                      [CVal.sl x10, CVal.int IntKind.i64 x11,
                                                                        CVal.int IntKind.i64 x12,
                                                                        CVal.int IntKind.i64 x13, CVal.sl x14]),
                                                                  AVal.v (CVal.agg [c, c_1, c_2, c_3])]
                                                                []).bind
                                                            fun r => r.1.asBool.bind fun b => some (!b, PUnit.unit)))))
                                        none)
                                    none)
                                  ((CVal.asInt IntKind.i64 c_1).bind fun n =>
                                    br (decide (n < (1 : Int))) (some (true, PUnit.unit))
                                      ((C f_i_pieceOk [AVal.v (CVal.agg [c, c_1, c_2, c_3])] []).bind fun r =>
                                        r.1.asBool.bind fun b =>
                                          br (!b) (some (true, PUnit.unit))
                                            ((C f_i_lamsOk
                                                  [AVal.v
                                                      (CVal.agg
                                                        [CVal.sl x10, CVal.int IntKind.i64 x11, CVal.int IntKind.i64 x12,
                                                          CVal.int IntKind.i64 x13, CVal.sl x14]),
                                                    AVal.v (CVal.agg [c, c_1, c_2, c_3])]
                                                  []).bind
                                              fun r => r.1.asBool.bind fun b => some (!b, PUnit.unit)))))).bind
                        fun y =>
                        br y.1 (some (LO.ret (CVal.bool false, [])))
                          (L f_i_CodeOk (0 : Nat) lc_i_CodeOk_0 [] k_i_CodeOk_0
                            ((PUnit.unit, x01, x02, IntKind.i64.wrap (x03 + (1 : Int)), PUnit.unit),
                              (x10, x11, x12, x13, x14, PUnit.unit), PUnit.unit)))
              none)
          none)
      none)
    (some (LO.out (0 : Nat) ((PUnit.unit, x01, x02, x03, PUnit.unit), (x10, x11, x12, x13, x14, PUnit.unit), PUnit.unit)))
theorem el_i_CodeOk_0 (C : CallT) (L : LoopT) (x01 : List CVal) (x02 : Int) (x03 : Int) (x10 : List CVal) (x11 : Int) (x12 : Int) (x13 : Int) (x14 : List CVal) : evL E N C L f_i_CodeOk 0 lc_i_CodeOk_0 [] k_i_CodeOk_0 (((), x01, x02, x03, ()), (x10, x11, x12, x13, x14, ()), ()) = nl_i_CodeOk_0 C L x01 x02 x03 x10 x11 x12 x13 x14 := by kernel_rfl
theorem gl_i_CodeOk_0 (x01 : List CVal) (x02 : Int) (x03 : Int) (x10 : List CVal) (x11 : Int) (x12 : Int) (x13 : Int) (x14 : List CVal) (R : LO k_i_CodeOk_0.T) (h : nl_i_CodeOk_0 CC LL x01 x02 x03 x10 x11 x12 x13 x14 = some R) : LL f_i_CodeOk 0 lc_i_CodeOk_0 [] k_i_CodeOk_0 (((), x01, x02, x03, ()), (x10, x11, x12, x13, x14, ()), ()) = some R := loopW ((el_i_CodeOk_0 CC LL x01 x02 x03 x10 x11 x12 x13 x14).trans h)
noncomputable def nl_l_eqPieceS_0 (C : CallT) (L : LoopT) (x00 : List CVal) (x01 : List CVal) (x02 : Int) : Option (LO k_l_eqPieceS_0.T) :=
  br (decide (x02 < (↑x00.length : Int)))
    (br (decide ((0 : Int) ≤ x02) && true)
      (x00[x02.toNat]?.bind fun y =>
        br (CVal.fits true (4 : Nat) y)
          ((y.sub (0 : Nat) (4 : Nat)).bind fun y =>
            br (decide ((0 : Int) ≤ x02) && true)
              (x01[x02.toNat]?.bind fun y_1 =>
                br (CVal.fits true (4 : Nat) y_1)
                  ((y_1.sub (0 : Nat) (4 : Nat)).bind fun y_2 =>
                    (C f_l_eqPiece [AVal.v y, AVal.v y_2] []).bind fun r =>
                      r.1.asBool.bind fun b =>
                        br (!b) (some (LO.ret (CVal.bool false, [])))
                          (L f_l_eqPieceS (0 : Nat) lc_l_eqPieceS_0 [] k_l_eqPieceS_0
                            ((x00, x01, IntKind.i64.wrap (x02 + (1 : Int)), PUnit.unit), PUnit.unit)))
                  none)
              none)
          none)
      none)
    (some (LO.out (0 : Nat) ((x00, x01, x02, PUnit.unit), PUnit.unit)))
theorem el_l_eqPieceS_0 (C : CallT) (L : LoopT) (x00 : List CVal) (x01 : List CVal) (x02 : Int) : evL E N C L f_l_eqPieceS 0 lc_l_eqPieceS_0 [] k_l_eqPieceS_0 ((x00, x01, x02, ()), ()) = nl_l_eqPieceS_0 C L x00 x01 x02 := by kernel_rfl
theorem gl_l_eqPieceS_0 (x00 : List CVal) (x01 : List CVal) (x02 : Int) (R : LO k_l_eqPieceS_0.T) (h : nl_l_eqPieceS_0 CC LL x00 x01 x02 = some R) : LL f_l_eqPieceS 0 lc_l_eqPieceS_0 [] k_l_eqPieceS_0 ((x00, x01, x02, ()), ()) = some R := loopW ((el_l_eqPieceS_0 CC LL x00 x01 x02).trans h)
noncomputable def nl_slices_IndexFunc_Ins_0 (C : CallT) (L : LoopT) (x00 : List CVal) (x01 : CVal) (x02 : Int) (x03 : Int) : Option (LO k_slices_IndexFunc_Ins_0.T) :=
  br (decide (x03 < x02))
    (br (decide ((0 : Int) ≤ x03) && true)
      (x00[x03.toNat]?.bind fun y =>
        br (CVal.fits true (7 : Nat) y)
          ((y.sub (0 : Nat) (7 : Nat)).bind fun y =>
            (C apId [AVal.v x01, AVal.v y] []).bind fun r =>
              r.1.asBool.bind fun b =>
                br b (some (LO.ret (CVal.int IntKind.i64 x03, [])))
                  (L f_slices_IndexFunc_Ins (0 : Nat) lc_slices_IndexFunc_Ins_0 [] k_slices_IndexFunc_Ins_0
                    ((x00, x01, x02, IntKind.i64.wrap (x03 + (1 : Int)), PUnit.unit), PUnit.unit)))
          none)
      none)
    (some (LO.out (0 : Nat) ((x00, x01, x02, x03, PUnit.unit), PUnit.unit)))
theorem el_slices_IndexFunc_Ins_0 (C : CallT) (L : LoopT) (x00 : List CVal) (x01 : CVal) (x02 : Int) (x03 : Int) : evL E N C L f_slices_IndexFunc_Ins 0 lc_slices_IndexFunc_Ins_0 [] k_slices_IndexFunc_Ins_0 ((x00, x01, x02, x03, ()), ()) = nl_slices_IndexFunc_Ins_0 C L x00 x01 x02 x03 := by kernel_rfl
theorem gl_slices_IndexFunc_Ins_0 (x00 : List CVal) (x01 : CVal) (x02 : Int) (x03 : Int) (R : LO k_slices_IndexFunc_Ins_0.T) (h : nl_slices_IndexFunc_Ins_0 CC LL x00 x01 x02 x03 = some R) : LL f_slices_IndexFunc_Ins 0 lc_slices_IndexFunc_Ins_0 [] k_slices_IndexFunc_Ins_0 ((x00, x01, x02, x03, ()), ()) = some R := loopW ((el_slices_IndexFunc_Ins_0 CC LL x00 x01 x02 x03).trans h)
end Go.Proofs.Ytomkegeojknihaa.Abs
