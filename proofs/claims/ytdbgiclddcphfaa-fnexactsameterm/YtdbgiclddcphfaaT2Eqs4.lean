/- What the functions come to in the abstract machine. -/
import Derived.Test.YtdbgiclddcphfaaT2Ann
import Derived.KernelRfl
set_option linter.unusedVariables false
set_option maxRecDepth 100000
namespace Go.Proofs.Ytdbgiclddcphfaa.Abs
open Go Go.Proofs
noncomputable def nf_l_FnExactSameTerm (C : CallT) (L : LoopT) (a0 : Int) (a1 : Int) (a2 : List UInt8) (a3 : List UInt8) (a40 : Int) (a41 : Int) (a42 : List CVal) (a5 : List CVal) (a6 : List CVal) (b0 : Int) (b1 : Int) (b2 : List UInt8) (b3 : List UInt8) (b40 : Int) (b41 : Int) (b42 : List CVal) (b5 : List CVal) (b6 : List CVal) : Option Ret :=
  (C f_l_szTerm
        [AVal.v
            (CVal.agg
              [CVal.int IntKind.i64 a0, CVal.int IntKind.i64 a1, CVal.str a2, CVal.str a3, CVal.int IntKind.i64 a40,
                CVal.int IntKind.i64 a41, CVal.sl a42, CVal.sl a5, CVal.sl a6]),
          AVal.v (CVal.int IntKind.i64 (1048576 : Int))]
        []).bind
    fun r =>
    (CVal.asInt IntKind.i64 r.1).bind fun n =>
      br (decide (n < (0 : Int))) (some (CVal.bool true, []))
        ((C f_l_szTerm
              [AVal.v
                  (CVal.agg
                    [CVal.int IntKind.i64 b0, CVal.int IntKind.i64 b1, CVal.str b2, CVal.str b3, CVal.int IntKind.i64 b40,
                      CVal.int IntKind.i64 b41, CVal.sl b42, CVal.sl b5, CVal.sl b6]),
                AVal.v r.1]
              []).bind
          fun r =>
          (CVal.asInt IntKind.i64 r.1).bind fun n =>
            br (decide (n < (0 : Int))) (some (CVal.bool true, []))
              ((C f_l_toTerm
                    [AVal.v
                        (CVal.agg
                          [CVal.int IntKind.i64 a0, CVal.int IntKind.i64 a1, CVal.str a2, CVal.str a3,
                            CVal.int IntKind.i64 a40, CVal.int IntKind.i64 a41, CVal.sl a42, CVal.sl a5, CVal.sl a6])]
                    []).bind
                fun r =>
                (C f_l_toTerm
                      [AVal.v
                          (CVal.agg
                            [CVal.int IntKind.i64 b0, CVal.int IntKind.i64 b1, CVal.str b2, CVal.str b3,
                              CVal.int IntKind.i64 b40, CVal.int IntKind.i64 b41, CVal.sl b42, CVal.sl b5, CVal.sl b6])]
                      []).bind
                  fun r_1 =>
                  (C f_s_SameTerm [AVal.v r.1, AVal.v r_1.1] []).bind fun r =>
                    (C f_l_toTerm
                          [AVal.v
                              (CVal.agg
                                [CVal.int IntKind.i64 a0, CVal.int IntKind.i64 a1, CVal.str a2, CVal.str a3,
                                  CVal.int IntKind.i64 a40, CVal.int IntKind.i64 a41, CVal.sl a42, CVal.sl a5,
                                  CVal.sl a6])]
                          []).bind
                      fun r_2 =>
                      br (CVal.isAggN (9 : Nat) r_2.1)
                        ((r_2.1.cell (0 : Nat)).bind fun c =>
                          (r_2.1.cell (1 : Nat)).bind fun c_1 =>
                            (r_2.1.cell (2 : Nat)).bind fun c_2 =>
                              (r_2.1.cell (3 : Nat)).bind fun c_3 =>
                                (r_2.1.cell (4 : Nat)).bind fun c_4 =>
                                  (r_2.1.cell (5 : Nat)).bind fun c_5 =>
                                    (r_2.1.cell (6 : Nat)).bind fun c_6 =>
                                      (r_2.1.cell (7 : Nat)).bind fun c_7 =>
                                        (r_2.1.cell (8 : Nat)).bind fun c_8 =>
                                          (C f_l_toTerm
                                                [AVal.v
                                                    (CVal.agg
                                                      [CVal.int IntKind.i64 b0, CVal.int IntKind.i64 b1, CVal.str b2,
                                                        CVal.str b3, CVal.int IntKind.i64 b40, CVal.int IntKind.i64 b41,
                                                        CVal.sl b42, CVal.sl b5, CVal.sl b6])]
                                                []).bind
                                            fun r_3 =>
                                            br (CVal.isAggN (9 : Nat) r_3.1)
                                              ((r_3.1.cell (0 : Nat)).bind fun c_9 =>
                                                (r_3.1.cell (1 : Nat)).bind fun c_10 =>
                                                  (r_3.1.cell (2 : Nat)).bind fun c_11 =>
                                                    (r_3.1.cell (3 : Nat)).bind fun c_12 =>
                                                      (r_3.1.cell (4 : Nat)).bind fun c_13 =>
                                                        (r_3.1.cell (5 : Nat)).bind fun c_14 =>
                                                          (r_3.1.cell (6 : Nat)).bind fun c_15 =>
                                                            (r_3.1.cell (7 : Nat)).bind fun c_16 =>
                                                              (r_3.1.cell (8 : Nat)).bind fun c_17 =>
                                                                (C f_i_SameTerm
                                                                      [AVal.v
                                                                          (CVal.agg
                                                                            [c, c_1, c_2, c_3, c_4, c_5, c_6, c_7, c_8]),
                                                                        AVal.v
                                                                          (CVal.agg
                                                                            [c_9, c_10, c_11, c_12, c_13, c_14, c_15,
                                                                              c_16, c_17])]
                                                                      []).bind
                                                                  fun r_4 =>
                                                                  r_4.1.asBool.bind fun b =>
                                                                    r.1.asBool.bind fun b_1 =>
                                                                      br (!b == b_1) (some (CVal.bool false, []))
                                                                        ((C f_l_toTerm
                                                                              [AVal.v
                                                                                  (CVal.agg
                                                                                    [CVal.int IntKind.i64 a0,
                                                                                      CVal.int IntKind.i64 a1,
                                                                                      CVal.str a2, CVal.str a3,
                                                                                      CVal.int IntKind.i64 a40,
                                                                                      CVal.int IntKind.i64 a41,
                                                                                      CVal.sl a42, CVal.sl a5,
                                                                                      CVal.sl a6])]
                                                                              []).bind
                                                                          fun r =>
                                                                          (C f_l_eqTerm
                                                                                [AVal.v
                                                                                    (CVal.agg
                                                                                      [c, c_1, c_2, c_3, c_4, c_5, c_6,
                                                                                        c_7, c_8]),
                                                                                  AVal.v r.1]
                                                                                []).bind
                                                                            fun r =>
                                                                            r.1.asBool.bind fun b =>
                                                                              br (!b) (some (CVal.bool false, []))
                                                                                ((C f_l_toTerm
                                                                                      [AVal.v
                                                                                          (CVal.agg
                                                                                            [CVal.int IntKind.i64 b0,
                                                                                              CVal.int IntKind.i64 b1,
                                                                                              CVal.str b2, CVal.str b3,
                                                                                              CVal.int IntKind.i64 b40,
                                                                                              CVal.int IntKind.i64 b41,
                                                                                              CVal.sl b42, CVal.sl b5,
                                                                                              CVal.sl b6])]
                                                                                      []).bind
                                                                                  fun r =>
                                                                                  (C f_l_eqTerm
                                                                                        [AVal.v
                                                                                            (CVal.agg
                                                                                              [c_9, c_10, c_11, c_12,
                                                                                                c_13, c_14, c_15, c_16,
                                                                                                c_17]),
                                                                                          AVal.v r.1]
                                                                                        []).bind
                                                                                    fun r =>
                                                                                    r.1.asBool.bind fun b =>
                                                                                      br (!b) (some (CVal.bool false, []))
                                                                                        (some (CVal.bool true, [])))))
                                              none)
                        none))
theorem eq_l_FnExactSameTerm (C : CallT) (L : LoopT) (a0 : Int) (a1 : Int) (a2 : List UInt8) (a3 : List UInt8) (a40 : Int) (a41 : Int) (a42 : List CVal) (a5 : List CVal) (a6 : List CVal) (b0 : Int) (b1 : Int) (b2 : List UInt8) (b3 : List UInt8) (b40 : Int) (b41 : Int) (b42 : List CVal) (b5 : List CVal) (b6 : List CVal) : evF E N C L f_l_FnExactSameTerm [AVal.v
    (CVal.agg
      [CVal.int IntKind.i64 a0, CVal.int IntKind.i64 a1, CVal.str a2, CVal.str a3, CVal.int IntKind.i64 a40,
        CVal.int IntKind.i64 a41, CVal.sl a42, CVal.sl a5, CVal.sl a6]),
  AVal.v
    (CVal.agg
      [CVal.int IntKind.i64 b0, CVal.int IntKind.i64 b1, CVal.str b2, CVal.str b3, CVal.int IntKind.i64 b40,
        CVal.int IntKind.i64 b41, CVal.sl b42, CVal.sl b5, CVal.sl b6])] [] = nf_l_FnExactSameTerm C L a0 a1 a2 a3 a40 a41 a42 a5 a6 b0 b1 b2 b3 b40 b41 b42 b5 b6 := by kernel_rfl
theorem go_l_FnExactSameTerm (a0 : Int) (a1 : Int) (a2 : List UInt8) (a3 : List UInt8) (a40 : Int) (a41 : Int) (a42 : List CVal) (a5 : List CVal) (a6 : List CVal) (b0 : Int) (b1 : Int) (b2 : List UInt8) (b3 : List UInt8) (b40 : Int) (b41 : Int) (b42 : List CVal) (b5 : List CVal) (b6 : List CVal) (R : Ret) (h : nf_l_FnExactSameTerm CC LL a0 a1 a2 a3 a40 a41 a42 a5 a6 b0 b1 b2 b3 b40 b41 b42 b5 b6 = some R) : CC f_l_FnExactSameTerm [AVal.v
    (CVal.agg
      [CVal.int IntKind.i64 a0, CVal.int IntKind.i64 a1, CVal.str a2, CVal.str a3, CVal.int IntKind.i64 a40,
        CVal.int IntKind.i64 a41, CVal.sl a42, CVal.sl a5, CVal.sl a6]),
  AVal.v
    (CVal.agg
      [CVal.int IntKind.i64 b0, CVal.int IntKind.i64 b1, CVal.str b2, CVal.str b3, CVal.int IntKind.i64 b40,
        CVal.int IntKind.i64 b41, CVal.sl b42, CVal.sl b5, CVal.sl b6])] [] = some R := fnW (by decide) ((eq_l_FnExactSameTerm CC LL a0 a1 a2 a3 a40 a41 a42 a5 a6 b0 b1 b2 b3 b40 b41 b42 b5 b6).trans h)
noncomputable def nf_s_Ground (C : CallT) (L : LoopT) (a0 : Int) (a1 : Int) (a2 : List CVal) : Option Ret :=
  ((C f_s_TyOk [AVal.v (CVal.agg [CVal.int IntKind.i64 a0, CVal.int IntKind.i64 a1, CVal.sl a2])] []).bind fun r =>
        r.1.asBool.bind fun b =>
          br b
            ((C f_s_l1Vars [AVal.v (CVal.agg [CVal.int IntKind.i64 a0, CVal.int IntKind.i64 a1, CVal.sl a2])] []).bind
              fun r => (CVal.asInt IntKind.i64 r.1).bind fun n => some (decide (n = (0 : Int)), PUnit.unit))
            (some (false, PUnit.unit))).bind
    fun y => some (CVal.bool y.1, [])
theorem eq_s_Ground (C : CallT) (L : LoopT) (a0 : Int) (a1 : Int) (a2 : List CVal) : evF E N C L f_s_Ground [AVal.v (CVal.agg [CVal.int IntKind.i64 a0, CVal.int IntKind.i64 a1, CVal.sl a2])] [] = nf_s_Ground C L a0 a1 a2 := by kernel_rfl
theorem go_s_Ground (a0 : Int) (a1 : Int) (a2 : List CVal) (R : Ret) (h : nf_s_Ground CC LL a0 a1 a2 = some R) : CC f_s_Ground [AVal.v (CVal.agg [CVal.int IntKind.i64 a0, CVal.int IntKind.i64 a1, CVal.sl a2])] [] = some R := fnW (by decide) ((eq_s_Ground CC LL a0 a1 a2).trans h)
noncomputable def nf_i_IsValue (C : CallT) (L : LoopT) (a0 : Int) (a1 : Int) (a2 : List UInt8) (a3 : List UInt8) (a40 : Int) (a41 : Int) (a42 : List CVal) (a5 : List CVal) (a6 : List CVal) : Option Ret :=
  (C f_i_isValue
        [AVal.v
            (CVal.agg
              [CVal.int IntKind.i64 a0, CVal.int IntKind.i64 a1, CVal.str a2, CVal.str a3, CVal.int IntKind.i64 a40,
                CVal.int IntKind.i64 a41, CVal.sl a42, CVal.sl a5, CVal.sl a6])]
        []).bind
    fun r => some (r.1, [])
theorem eq_i_IsValue (C : CallT) (L : LoopT) (a0 : Int) (a1 : Int) (a2 : List UInt8) (a3 : List UInt8) (a40 : Int) (a41 : Int) (a42 : List CVal) (a5 : List CVal) (a6 : List CVal) : evF E N C L f_i_IsValue [AVal.v
    (CVal.agg
      [CVal.int IntKind.i64 a0, CVal.int IntKind.i64 a1, CVal.str a2, CVal.str a3, CVal.int IntKind.i64 a40,
        CVal.int IntKind.i64 a41, CVal.sl a42, CVal.sl a5, CVal.sl a6])] [] = nf_i_IsValue C L a0 a1 a2 a3 a40 a41 a42 a5 a6 := by kernel_rfl
theorem go_i_IsValue (a0 : Int) (a1 : Int) (a2 : List UInt8) (a3 : List UInt8) (a40 : Int) (a41 : Int) (a42 : List CVal) (a5 : List CVal) (a6 : List CVal) (R : Ret) (h : nf_i_IsValue CC LL a0 a1 a2 a3 a40 a41 a42 a5 a6 = some R) : CC f_i_IsValue [AVal.v
    (CVal.agg
      [CVal.int IntKind.i64 a0, CVal.int IntKind.i64 a1, CVal.str a2, CVal.str a3, CVal.int IntKind.i64 a40,
        CVal.int IntKind.i64 a41, CVal.sl a42, CVal.sl a5, CVal.sl a6])] [] = some R := fnW (by decide) ((eq_i_IsValue CC LL a0 a1 a2 a3 a40 a41 a42 a5 a6).trans h)
noncomputable def nf_i_SameTerm (C : CallT) (L : LoopT) (a0 : Int) (a1 : Int) (a2 : List UInt8) (a3 : List UInt8) (a40 : Int) (a41 : Int) (a42 : List CVal) (a5 : List CVal) (a6 : List CVal) (b0 : Int) (b1 : Int) (b2 : List UInt8) (b3 : List UInt8) (b40 : Int) (b41 : Int) (b42 : List CVal) (b5 : List CVal) (b6 : List CVal) : Option Ret :=
  (br (decide (a0 = b0))
        (br (decide (a1 = b1))
          (br (decide (a2 = b2))
            (br (decide (a3 = b3))
              ((C f_i_SameTy
                    [AVal.v (CVal.agg [CVal.int IntKind.i64 a40, CVal.int IntKind.i64 a41, CVal.sl a42]),
                      AVal.v (CVal.agg [CVal.int IntKind.i64 b40, CVal.int IntKind.i64 b41, CVal.sl b42])]
                    []).bind
                fun r =>
                (bif true then r.1 else CVal.bool false).asBool.bind fun b =>
                  br b
                    ((C f_slices_EqualFunc_Ty [AVal.v (CVal.sl a5), AVal.v (CVal.sl b5), AVal.v (CVal.func f_i_SameTy [])]
                          []).bind
                      fun r =>
                      (bif true then r.1 else CVal.bool false).asBool.bind fun b =>
                        br b
                          ((C f_slices_EqualFunc_Term
                                [AVal.v (CVal.sl a6), AVal.v (CVal.sl b6), AVal.v (CVal.func f_i_SameTerm [])] []).bind
                            fun r => (bif true then r.1 else CVal.bool false).asBool.bind fun b => some (b, PUnit.unit))
                          (some (false, PUnit.unit)))
                    (some (false, PUnit.unit)))
              (some (false, PUnit.unit)))
            (some (false, PUnit.unit)))
          (some (false, PUnit.unit)))
        (some (false, PUnit.unit))).bind
    fun y => some (CVal.bool y.1, [])
theorem eq_i_SameTerm (C : CallT) (L : LoopT) (a0 : Int) (a1 : Int) (a2 : List UInt8) (a3 : List UInt8) (a40 : Int) (a41 : Int) (a42 : List CVal) (a5 : List CVal) (a6 : List CVal) (b0 : Int) (b1 : Int) (b2 : List UInt8) (b3 : List UInt8) (b40 : Int) (b41 : Int) (b42 : List CVal) (b5 : List CVal) (b6 : List CVal) : evF E N C L f_i_SameTerm [AVal.v
    (CVal.agg
      [CVal.int IntKind.i64 a0, CVal.int IntKind.i64 a1, CVal.str a2, CVal.str a3, CVal.int IntKind.i64 a40,
        CVal.int IntKind.i64 a41, CVal.sl a42, CVal.sl a5, CVal.sl a6]),
  AVal.v
    (CVal.agg
      [CVal.int IntKind.i64 b0, CVal.int IntKind.i64 b1, CVal.str b2, CVal.str b3, CVal.int IntKind.i64 b40,
        CVal.int IntKind.i64 b41, CVal.sl b42, CVal.sl b5, CVal.sl b6])] [] = nf_i_SameTerm C L a0 a1 a2 a3 a40 a41 a42 a5 a6 b0 b1 b2 b3 b40 b41 b42 b5 b6 := by kernel_rfl
theorem go_i_SameTerm (a0 : Int) (a1 : Int) (a2 : List UInt8) (a3 : List UInt8) (a40 : Int) (a41 : Int) (a42 : List CVal) (a5 : List CVal) (a6 : List CVal) (b0 : Int) (b1 : Int) (b2 : List UInt8) (b3 : List UInt8) (b40 : Int) (b41 : Int) (b42 : List CVal) (b5 : List CVal) (b6 : List CVal) (R : Ret) (h : nf_i_SameTerm CC LL a0 a1 a2 a3 a40 a41 a42 a5 a6 b0 b1 b2 b3 b40 b41 b42 b5 b6 = some R) : CC f_i_SameTerm [AVal.v
    (CVal.agg
      [CVal.int IntKind.i64 a0, CVal.int IntKind.i64 a1, CVal.str a2, CVal.str a3, CVal.int IntKind.i64 a40,
        CVal.int IntKind.i64 a41, CVal.sl a42, CVal.sl a5, CVal.sl a6]),
  AVal.v
    (CVal.agg
      [CVal.int IntKind.i64 b0, CVal.int IntKind.i64 b1, CVal.str b2, CVal.str b3, CVal.int IntKind.i64 b40,
        CVal.int IntKind.i64 b41, CVal.sl b42, CVal.sl b5, CVal.sl b6])] [] = some R := fnW (by decide) ((eq_i_SameTerm CC LL a0 a1 a2 a3 a40 a41 a42 a5 a6 b0 b1 b2 b3 b40 b41 b42 b5 b6).trans h)
noncomputable def nf_i_TermOk (C : CallT) (L : LoopT) (a0 : Int) (a1 : Int) (a2 : List UInt8) (a3 : List UInt8) (a40 : Int) (a41 : Int) (a42 : List CVal) (a5 : List CVal) (a6 : List CVal) : Option Ret :=
  (C f_i_termSize
        [AVal.v
            (CVal.agg
              [CVal.int IntKind.i64 a0, CVal.int IntKind.i64 a1, CVal.str a2, CVal.str a3, CVal.int IntKind.i64 a40,
                CVal.int IntKind.i64 a41, CVal.sl a42, CVal.sl a5, CVal.sl a6])]
        []).bind
    fun r =>
    r.1.asTup.bind fun y =>
      y[(0 : Nat)]?.bind fun y =>
        r.1.asTup.bind fun y_1 =>
          y_1[(1 : Nat)]?.bind fun y_2 =>
            r.1.asTup.bind fun y_3 =>
              y_3[(2 : Nat)]?.bind fun y_4 =>
                (y_4.asBool.bind fun b =>
                      br b
                        ((CVal.asInt IntKind.i64 y).bind fun n =>
                          br (decide (n ≤ (24 : Int)))
                            ((CVal.asInt IntKind.i64 y_2).bind fun n => some (decide (n ≤ (150 : Int)), PUnit.unit))
                            (some (false, PUnit.unit)))
                        (some (false, PUnit.unit))).bind
                  fun y => some (CVal.bool y.1, [])
theorem eq_i_TermOk (C : CallT) (L : LoopT) (a0 : Int) (a1 : Int) (a2 : List UInt8) (a3 : List UInt8) (a40 : Int) (a41 : Int) (a42 : List CVal) (a5 : List CVal) (a6 : List CVal) : evF E N C L f_i_TermOk [AVal.v
    (CVal.agg
      [CVal.int IntKind.i64 a0, CVal.int IntKind.i64 a1, CVal.str a2, CVal.str a3, CVal.int IntKind.i64 a40,
        CVal.int IntKind.i64 a41, CVal.sl a42, CVal.sl a5, CVal.sl a6])] [] = nf_i_TermOk C L a0 a1 a2 a3 a40 a41 a42 a5 a6 := by kernel_rfl
theorem go_i_TermOk (a0 : Int) (a1 : Int) (a2 : List UInt8) (a3 : List UInt8) (a40 : Int) (a41 : Int) (a42 : List CVal) (a5 : List CVal) (a6 : List CVal) (R : Ret) (h : nf_i_TermOk CC LL a0 a1 a2 a3 a40 a41 a42 a5 a6 = some R) : CC f_i_TermOk [AVal.v
    (CVal.agg
      [CVal.int IntKind.i64 a0, CVal.int IntKind.i64 a1, CVal.str a2, CVal.str a3, CVal.int IntKind.i64 a40,
        CVal.int IntKind.i64 a41, CVal.sl a42, CVal.sl a5, CVal.sl a6])] [] = some R := fnW (by decide) ((eq_i_TermOk CC LL a0 a1 a2 a3 a40 a41 a42 a5 a6).trans h)
noncomputable def nf_l_toTyS (C : CallT) (L : LoopT) (a : List CVal) : Option Ret :=
  br (decide ((↑a.length : Int) = (↑a.length : Int)) && decide ((↑a.length : Int) ≤ (1048576 : Int)))
    ((L f_l_toTyS (0 : Nat) lc_l_toTyS_0 [] k_l_toTyS_0
          ((a, PUnit.unit, (0 : Int), PUnit.unit),
            List.replicate (↑a.length : Int).toNat
              (CVal.agg [CVal.int IntKind.i64 (0 : Int), CVal.int IntKind.i64 (0 : Int), CVal.sl []]),
            PUnit.unit)).bind
      fun r => loK r (fun r => some r) fun j p => br (j == (0 : Nat)) (some (CVal.sl p.snd.1, [])) none)
    none
theorem eq_l_toTyS (C : CallT) (L : LoopT) (a : List CVal) : evF E N C L f_l_toTyS [AVal.v (CVal.sl a)] [] = nf_l_toTyS C L a := by kernel_rfl
theorem go_l_toTyS (a : List CVal) (R : Ret) (h : nf_l_toTyS CC LL a = some R) : CC f_l_toTyS [AVal.v (CVal.sl a)] [] = some R := fnW (by decide) ((eq_l_toTyS CC LL a).trans h)
noncomputable def nf_l_toTermS (C : CallT) (L : LoopT) (a : List CVal) : Option Ret :=
  br (decide ((↑a.length : Int) = (↑a.length : Int)) && decide ((↑a.length : Int) ≤ (1048576 : Int)))
    ((L f_l_toTermS (0 : Nat) lc_l_toTermS_0 [] k_l_toTermS_0
          ((a, PUnit.unit, (0 : Int), PUnit.unit),
            List.replicate (↑a.length : Int).toNat
              (CVal.agg
                [CVal.int IntKind.i64 (0 : Int), CVal.int IntKind.i64 (0 : Int), CVal.str [], CVal.str [],
                  CVal.int IntKind.i64 (0 : Int), CVal.int IntKind.i64 (0 : Int), CVal.sl [], CVal.sl [], CVal.sl []]),
            PUnit.unit)).bind
      fun r => loK r (fun r => some r) fun j p => br (j == (0 : Nat)) (some (CVal.sl p.snd.1, [])) none)
    none
theorem eq_l_toTermS (C : CallT) (L : LoopT) (a : List CVal) : evF E N C L f_l_toTermS [AVal.v (CVal.sl a)] [] = nf_l_toTermS C L a := by kernel_rfl
theorem go_l_toTermS (a : List CVal) (R : Ret) (h : nf_l_toTermS CC LL a = some R) : CC f_l_toTermS [AVal.v (CVal.sl a)] [] = some R := fnW (by decide) ((eq_l_toTermS CC LL a).trans h)
noncomputable def nf_s_SameTy (C : CallT) (L : LoopT) (a0 : Int) (a1 : Int) (a2 : List CVal) (b0 : Int) (b1 : Int) (b2 : List CVal) : Option Ret :=
  (br (!decide (a0 = b0)) (some (true, PUnit.unit))
        (br (!decide (a1 = b1)) (some (true, PUnit.unit))
          (some (!decide ((↑a2.length : Int) = (↑b2.length : Int)), PUnit.unit)))).bind
    fun y =>
    br y.1 (some (CVal.bool false, []))
      ((L f_s_SameTy (0 : Nat) lc_s_SameTy_0 [] k_s_SameTy_0
            ((PUnit.unit, PUnit.unit, (0 : Int), PUnit.unit), (a0, a1, a2, PUnit.unit), (b0, b1, b2, PUnit.unit),
              PUnit.unit)).bind
        fun r => loK r (fun r => some r) fun j p => br (j == (0 : Nat)) (some (CVal.bool true, [])) none)
theorem eq_s_SameTy (C : CallT) (L : LoopT) (a0 : Int) (a1 : Int) (a2 : List CVal) (b0 : Int) (b1 : Int) (b2 : List CVal) : evF E N C L f_s_SameTy [AVal.v (CVal.agg [CVal.int IntKind.i64 a0, CVal.int IntKind.i64 a1, CVal.sl a2]),
  AVal.v (CVal.agg [CVal.int IntKind.i64 b0, CVal.int IntKind.i64 b1, CVal.sl b2])] [] = nf_s_SameTy C L a0 a1 a2 b0 b1 b2 := by kernel_rfl
theorem go_s_SameTy (a0 : Int) (a1 : Int) (a2 : List CVal) (b0 : Int) (b1 : Int) (b2 : List CVal) (R : Ret) (h : nf_s_SameTy CC LL a0 a1 a2 b0 b1 b2 = some R) : CC f_s_SameTy [AVal.v (CVal.agg [CVal.int IntKind.i64 a0, CVal.int IntKind.i64 a1, CVal.sl a2]),
  AVal.v (CVal.agg [CVal.int IntKind.i64 b0, CVal.int IntKind.i64 b1, CVal.sl b2])] [] = some R := fnW (by decide) ((eq_s_SameTy CC LL a0 a1 a2 b0 b1 b2).trans h)
noncomputable def nf_i_SubstTy_1 (C : CallT) (L : LoopT) (a0 : Int) (a1 : Int) (a2 : List CVal) : Option Ret :=
  (C f_i_TyOk [AVal.v (CVal.agg [CVal.int IntKind.i64 a0, CVal.int IntKind.i64 a1, CVal.sl a2])] []).bind fun r =>
    r.1.asBool.bind fun b => some (CVal.bool !b, [])
theorem eq_i_SubstTy_1 (C : CallT) (L : LoopT) (a0 : Int) (a1 : Int) (a2 : List CVal) : evF E N C L f_i_SubstTy_1 [AVal.v (CVal.agg [CVal.int IntKind.i64 a0, CVal.int IntKind.i64 a1, CVal.sl a2])] [] = nf_i_SubstTy_1 C L a0 a1 a2 := by kernel_rfl
theorem go_i_SubstTy_1 (a0 : Int) (a1 : Int) (a2 : List CVal) (R : Ret) (h : nf_i_SubstTy_1 CC LL a0 a1 a2 = some R) : CC f_i_SubstTy_1 [AVal.v (CVal.agg [CVal.int IntKind.i64 a0, CVal.int IntKind.i64 a1, CVal.sl a2])] [] = some R := fnW (by decide) ((eq_i_SubstTy_1 CC LL a0 a1 a2).trans h)
noncomputable def nf_s_l5Mono (C : CallT) (L : LoopT) (a0 : Int) (a1 : Int) (a2 : List UInt8) (a3 : List UInt8) (a40 : Int) (a41 : Int) (a42 : List CVal) (a5 : List CVal) (a6 : List CVal) : Option Ret :=
  (br (decide (a0 = (6 : Int)))
        (br (decide ((0 : Int) < a1)) (some (true, PUnit.unit))
          (br (decide ((0 : Int) < (↑a5.length : Int))) (some (true, PUnit.unit))
            ((C f_s_l1Vars [AVal.v (CVal.agg [CVal.int IntKind.i64 a40, CVal.int IntKind.i64 a41, CVal.sl a42])] []).bind
              fun r => (CVal.asInt IntKind.i64 r.1).bind fun n => some (decide ((0 : Int) < n), PUnit.unit))))
        (br (decide (a0 = (7 : Int)))
          (br (decide ((0 : Int) < a1)) (some (true, PUnit.unit))
            (br (decide ((0 : Int) < (↑a5.length : Int))) (some (true, PUnit.unit))
              ((C f_s_l1Vars [AVal.v (CVal.agg [CVal.int IntKind.i64 a40, CVal.int IntKind.i64 a41, CVal.sl a42])]
                    []).bind
                fun r => (CVal.asInt IntKind.i64 r.1).bind fun n => some (decide ((0 : Int) < n), PUnit.unit))))
          (br (decide ((0 : Int) < (↑a5.length : Int))) (some (true, PUnit.unit))
            ((C f_s_l1Vars [AVal.v (CVal.agg [CVal.int IntKind.i64 a40, CVal.int IntKind.i64 a41, CVal.sl a42])] []).bind
              fun r => (CVal.asInt IntKind.i64 r.1).bind fun n => some (decide ((0 : Int) < n), PUnit.unit))))).bind
    fun y =>
    br y.1 (some (CVal.bool false, []))
      ((L f_s_l5Mono (0 : Nat) lc_s_l5Mono_0 [] k_s_l5Mono_0
            ((PUnit.unit, (0 : Int), PUnit.unit), (a0, a1, a2, a3, a40, a41, a42, a5, a6, PUnit.unit), PUnit.unit)).bind
        fun r => loK r (fun r => some r) fun j p => br (j == (0 : Nat)) (some (CVal.bool true, [])) none)
theorem eq_s_l5Mono (C : CallT) (L : LoopT) (a0 : Int) (a1 : Int) (a2 : List UInt8) (a3 : List UInt8) (a40 : Int) (a41 : Int) (a42 : List CVal) (a5 : List CVal) (a6 : List CVal) : evF E N C L f_s_l5Mono [AVal.v
    (CVal.agg
      [CVal.int IntKind.i64 a0, CVal.int IntKind.i64 a1, CVal.str a2, CVal.str a3, CVal.int IntKind.i64 a40,
        CVal.int IntKind.i64 a41, CVal.sl a42, CVal.sl a5, CVal.sl a6])] [] = nf_s_l5Mono C L a0 a1 a2 a3 a40 a41 a42 a5 a6 := by kernel_rfl
theorem go_s_l5Mono (a0 : Int) (a1 : Int) (a2 : List UInt8) (a3 : List UInt8) (a40 : Int) (a41 : Int) (a42 : List CVal) (a5 : List CVal) (a6 : List CVal) (R : Ret) (h : nf_s_l5Mono CC LL a0 a1 a2 a3 a40 a41 a42 a5 a6 = some R) : CC f_s_l5Mono [AVal.v
    (CVal.agg
      [CVal.int IntKind.i64 a0, CVal.int IntKind.i64 a1, CVal.str a2, CVal.str a3, CVal.int IntKind.i64 a40,
        CVal.int IntKind.i64 a41, CVal.sl a42, CVal.sl a5, CVal.sl a6])] [] = some R := fnW (by decide) ((eq_s_l5Mono CC LL a0 a1 a2 a3 a40 a41 a42 a5 a6).trans h)
noncomputable def nf_l_eqIns (C : CallT) (L : LoopT) (a0 : Int) (a1 : Int) (a2 : Int) (a3 : Int) (a4 : Int) (a5 : List CVal) (a6 : Int) (b0 : Int) (b1 : Int) (b2 : Int) (b3 : Int) (b4 : Int) (b5 : List CVal) (b6 : Int) : Option Ret :=
  br (!decide (a0 = b0)) (some (CVal.bool false, []))
    (br (!decide (a1 = b1)) (some (CVal.bool false, []))
      (br (!decide (a2 = b2)) (some (CVal.bool false, []))
        (br (!decide (a3 = b3)) (some (CVal.bool false, []))
          (br (!decide (a4 = b4)) (some (CVal.bool false, []))
            ((C f_l_eqIntS [AVal.v (CVal.sl a5), AVal.v (CVal.sl b5)] []).bind fun r =>
              r.1.asBool.bind fun b =>
                br (!b) (some (CVal.bool false, []))
                  (br (!decide (a6 = b6)) (some (CVal.bool false, [])) (some (CVal.bool true, []))))))))
theorem eq_l_eqIns (C : CallT) (L : LoopT) (a0 : Int) (a1 : Int) (a2 : Int) (a3 : Int) (a4 : Int) (a5 : List CVal) (a6 : Int) (b0 : Int) (b1 : Int) (b2 : Int) (b3 : Int) (b4 : Int) (b5 : List CVal) (b6 : Int) : evF E N C L f_l_eqIns [AVal.v
    (CVal.agg
      [CVal.int IntKind.i64 a0, CVal.int IntKind.i64 a1, CVal.int IntKind.i64 a2, CVal.int IntKind.i64 a3,
        CVal.int IntKind.i64 a4, CVal.sl a5, CVal.int IntKind.i64 a6]),
  AVal.v
    (CVal.agg
      [CVal.int IntKind.i64 b0, CVal.int IntKind.i64 b1, CVal.int IntKind.i64 b2, CVal.int IntKind.i64 b3,
        CVal.int IntKind.i64 b4, CVal.sl b5, CVal.int IntKind.i64 b6])] [] = nf_l_eqIns C L a0 a1 a2 a3 a4 a5 a6 b0 b1 b2 b3 b4 b5 b6 := by kernel_rfl
theorem go_l_eqIns (a0 : Int) (a1 : Int) (a2 : Int) (a3 : Int) (a4 : Int) (a5 : List CVal) (a6 : Int) (b0 : Int) (b1 : Int) (b2 : Int) (b3 : Int) (b4 : Int) (b5 : List CVal) (b6 : Int) (R : Ret) (h : nf_l_eqIns CC LL a0 a1 a2 a3 a4 a5 a6 b0 b1 b2 b3 b4 b5 b6 = some R) : CC f_l_eqIns [AVal.v
    (CVal.agg
      [CVal.int IntKind.i64 a0, CVal.int IntKind.i64 a1, CVal.int IntKind.i64 a2, CVal.int IntKind.i64 a3,
        CVal.int IntKind.i64 a4, CVal.sl a5, CVal.int IntKind.i64 a6]),
  AVal.v
    (CVal.agg
      [CVal.int IntKind.i64 b0, CVal.int IntKind.i64 b1, CVal.int IntKind.i64 b2, CVal.int IntKind.i64 b3,
        CVal.int IntKind.i64 b4, CVal.sl b5, CVal.int IntKind.i64 b6])] [] = some R := fnW (by decide) ((eq_l_eqIns CC LL a0 a1 a2 a3 a4 a5 a6 b0 b1 b2 b3 b4 b5 b6).trans h)
noncomputable def nf_i_tyParts (C : CallT) (L : LoopT) (a : Int) : Option Ret :=
  br (decide (a = (1 : Int))) (some (CVal.int IntKind.i64 (0 : Int), []))
    (br (decide (a = (2 : Int))) (some (CVal.int IntKind.i64 (0 : Int), []))
      (br (decide (a = (3 : Int))) (some (CVal.int IntKind.i64 (0 : Int), []))
        (br (decide (a = (6 : Int))) (some (CVal.int IntKind.i64 (1 : Int), []))
          (br (decide (a = (4 : Int))) (some (CVal.int IntKind.i64 (2 : Int), []))
            (br (decide (a = (5 : Int))) (some (CVal.int IntKind.i64 (2 : Int), []))
              (some (CVal.int IntKind.i64 (-1 : Int), [])))))))
theorem eq_i_tyParts (C : CallT) (L : LoopT) (a : Int) : evF E N C L f_i_tyParts [AVal.v (CVal.int IntKind.i64 a)] [] = nf_i_tyParts C L a := by kernel_rfl
theorem go_i_tyParts (a : Int) (R : Ret) (h : nf_i_tyParts CC LL a = some R) : CC f_i_tyParts [AVal.v (CVal.int IntKind.i64 a)] [] = some R := fnW (by decide) ((eq_i_tyParts CC LL a).trans h)
noncomputable def nf_l_szIntS (C : CallT) (L : LoopT) (a : List CVal) (b : Int) : Option Ret :=
  br (decide (IntKind.i64.wrap (b - (↑a.length : Int)) < (0 : Int))) (some (CVal.int IntKind.i64 (-1 : Int), []))
    (some (CVal.int IntKind.i64 (IntKind.i64.wrap (b - (↑a.length : Int))), []))
theorem eq_l_szIntS (C : CallT) (L : LoopT) (a : List CVal) (b : Int) : evF E N C L f_l_szIntS [AVal.v (CVal.sl a), AVal.v (CVal.int IntKind.i64 b)] [] = nf_l_szIntS C L a b := by kernel_rfl
theorem go_l_szIntS (a : List CVal) (b : Int) (R : Ret) (h : nf_l_szIntS CC LL a b = some R) : CC f_l_szIntS [AVal.v (CVal.sl a), AVal.v (CVal.int IntKind.i64 b)] [] = some R := fnW (by decide) ((eq_l_szIntS CC LL a b).trans h)
noncomputable def nf_i_namesOk (C : CallT) (L : LoopT) (a : Int) (b : List UInt8) (c : List UInt8) : Option Ret :=
  br (decide (a = (14 : Int)))
    (((C f_i_isName [AVal.v (CVal.str b)] []).bind fun r =>
          r.1.asBool.bind fun b_1 =>
            br b_1
              ((C f_i_isName [AVal.v (CVal.str c)] []).bind fun r =>
                (bif true then r.1 else CVal.bool false).asBool.bind fun b_2 =>
                  br b_2 (some (!decide (b = c), PUnit.unit)) (some (false, PUnit.unit)))
              (some (false, PUnit.unit))).bind
      fun y => some (CVal.bool y.1, []))
    ((br (decide (c = []))
          ((C f_i_isName [AVal.v (CVal.str b)] []).bind fun r =>
            (C f_i_bindsS [AVal.v (CVal.int IntKind.i64 a)] []).bind fun r_1 =>
              r_1.1.asBool.bind fun b_1 =>
                br b_1
                  (r.1.asBool.bind fun b_2 =>
                    br (b_2 == true)
                      (br (decide (b = [])) (some (true, PUnit.unit))
                        ((C f_i_isName [AVal.v (CVal.str b)] []).bind fun r =>
                          (bif true then bif false then CVal.bool true else r.1 else CVal.bool false).asBool.bind fun b =>
                            some (b, PUnit.unit)))
                      (some (false, PUnit.unit)))
                  (r.1.asBool.bind fun b_2 =>
                    br (b_2 == decide (a = (3 : Int)))
                      (br (decide (b = [])) (some (true, PUnit.unit))
                        ((C f_i_isName [AVal.v (CVal.str b)] []).bind fun r =>
                          (bif true then bif false then CVal.bool true else r.1 else CVal.bool false).asBool.bind fun b =>
                            some (b, PUnit.unit)))
                      (some (false, PUnit.unit))))
          (some (false, PUnit.unit))).bind
      fun y => some (CVal.bool y.1, []))
theorem eq_i_namesOk (C : CallT) (L : LoopT) (a : Int) (b : List UInt8) (c : List UInt8) : evF E N C L f_i_namesOk [AVal.v (CVal.int IntKind.i64 a), AVal.v (CVal.str b), AVal.v (CVal.str c)] [] = nf_i_namesOk C L a b c := by kernel_rfl
theorem go_i_namesOk (a : Int) (b : List UInt8) (c : List UInt8) (R : Ret) (h : nf_i_namesOk CC LL a b c = some R) : CC f_i_namesOk [AVal.v (CVal.int IntKind.i64 a), AVal.v (CVal.str b), AVal.v (CVal.str c)] [] = some R := fnW (by decide) ((eq_i_namesOk CC LL a b c).trans h)
noncomputable def nl_s_DrawSubstTy_0 (C : CallT) (L : LoopT) (x01 : CVal) (x04 : Int) (x10 : Int) (x11 : Int) (x12 : List CVal) (x20 : Int) (x21 : Int) (x22 : List CVal) (x3 : List CVal) : Option (LO k_s_DrawSubstTy_0.T) :=
  br (decide ((0 : Int) < x04))
    ((C f_s_l1Any [AVal.v x01] []).bind fun r =>
      br ([r.1].all (CVal.fits (aggT E.P (29 : Nat)) (E.P.cellsOf (29 : Nat))))
        (br
          (decide (x3.length + (1 : Nat) ≤ (4294967296 : Nat)) && true &&
            [r.1].all (CVal.fits (aggT E.P (29 : Nat)) (E.P.cellsOf (29 : Nat))))
          (L f_s_DrawSubstTy (0 : Nat) lc_s_DrawSubstTy_0 [] k_s_DrawSubstTy_0
            ((PUnit.unit, x01, PUnit.unit, PUnit.unit, IntKind.i64.wrap (x04 - (1 : Int)), PUnit.unit),
              (x10, x11, x12, PUnit.unit), (x20, x21, x22, PUnit.unit), x3 ++ [r.1], PUnit.unit))
          none)
        none)
    (some
      (LO.out (0 : Nat)
        ((PUnit.unit, x01, PUnit.unit, PUnit.unit, x04, PUnit.unit), (x10, x11, x12, PUnit.unit),
          (x20, x21, x22, PUnit.unit), x3, PUnit.unit)))
theorem el_s_DrawSubstTy_0 (C : CallT) (L : LoopT) (x01 : CVal) (x04 : Int) (x10 : Int) (x11 : Int) (x12 : List CVal) (x20 : Int) (x21 : Int) (x22 : List CVal) (x3 : List CVal) : evL E N C L f_s_DrawSubstTy 0 lc_s_DrawSubstTy_0 [] k_s_DrawSubstTy_0 (((), x01, (), (), x04, ()), (x10, x11, x12, ()), (x20, x21, x22, ()), x3, ()) = nl_s_DrawSubstTy_0 C L x01 x04 x10 x11 x12 x20 x21 x22 x3 := by kernel_rfl
theorem gl_s_DrawSubstTy_0 (x01 : CVal) (x04 : Int) (x10 : Int) (x11 : Int) (x12 : List CVal) (x20 : Int) (x21 : Int) (x22 : List CVal) (x3 : List CVal) (R : LO k_s_DrawSubstTy_0.T) (h : nl_s_DrawSubstTy_0 CC LL x01 x04 x10 x11 x12 x20 x21 x22 x3 = some R) : LL f_s_DrawSubstTy 0 lc_s_DrawSubstTy_0 [] k_s_DrawSubstTy_0 (((), x01, (), (), x04, ()), (x10, x11, x12, ()), (x20, x21, x22, ()), x3, ()) = some R := loopW ((el_s_DrawSubstTy_0 CC LL x01 x04 x10 x11 x12 x20 x21 x22 x3).trans h)
noncomputable def nl_l_toTermS_0 (C : CallT) (L : LoopT) (x00 : List CVal) (x02 : Int) (x1 : List CVal) : Option (LO k_l_toTermS_0.T) :=
  br (decide (x02 < (↑x00.length : Int)))
    (br (decide ((0 : Int) ≤ x02) && true)
      (x00[x02.toNat]?.bind fun y =>
        br (CVal.fits true (9 : Nat) y)
          ((y.sub (0 : Nat) (9 : Nat)).bind fun y =>
            (C f_l_toTerm [AVal.v y] []).bind fun r =>
              br (decide ((0 : Int) ≤ x02) && true)
                (br (decide (x02.toNat < x1.length) && true)
                  (x1[x02.toNat]?.bind fun y =>
                    br (CVal.fits true (9 : Nat) r.1)
                      (br (CVal.fits true (9 : Nat) y)
                        (L f_l_toTermS (0 : Nat) lc_l_toTermS_0 [] k_l_toTermS_0
                          ((x00, PUnit.unit, IntKind.i64.wrap (x02 + (1 : Int)), PUnit.unit), x1.set x02.toNat r.1,
                            PUnit.unit))
                        (br (y.isAgg && decide ((0 : Nat) + r.1.cells.length ≤ y.cells.length))
                          (L f_l_toTermS (0 : Nat) lc_l_toTermS_0 [] k_l_toTermS_0
                            ((x00, PUnit.unit, IntKind.i64.wrap (x02 + (1 : Int)), PUnit.unit),
                              x1.set x02.toNat (CVal.agg (splice y.cells (0 : Nat) r.1.cells)), PUnit.unit))
                          none))
                      none)
                  none)
                none)
          none)
      none)
    (some (LO.out (0 : Nat) ((x00, PUnit.unit, x02, PUnit.unit), x1, PUnit.unit)))
theorem el_l_toTermS_0 (C : CallT) (L : LoopT) (x00 : List CVal) (x02 : Int) (x1 : List CVal) : evL E N C L f_l_toTermS 0 lc_l_toTermS_0 [] k_l_toTermS_0 ((x00, (), x02, ()), x1, ()) = nl_l_toTermS_0 C L x00 x02 x1 := by kernel_rfl
theorem gl_l_toTermS_0 (x00 : List CVal) (x02 : Int) (x1 : List CVal) (R : LO k_l_toTermS_0.T) (h : nl_l_toTermS_0 CC LL x00 x02 x1 = some R) : LL f_l_toTermS 0 lc_l_toTermS_0 [] k_l_toTermS_0 ((x00, (), x02, ()), x1, ()) = some R := loopW ((el_l_toTermS_0 CC LL x00 x02 x1).trans h)
noncomputable def nl_slices_EqualFunc_Ty_0 (C : CallT) (L : LoopT) (x00 : List CVal) (x01 : CVal) (x02 : List CVal) (x03 : Int) (x04 : Int) : Option (LO k_slices_EqualFunc_Ty_0.T) :=
  br (decide (x04 < x03))
    (br (decide ((0 : Int) ≤ x04) && true)
      (x02[x04.toNat]?.bind fun y =>
        br (CVal.fits true (3 : Nat) y)
          ((y.sub (0 : Nat) (3 : Nat)).bind fun y =>
            br (CVal.isAggN (3 : Nat) y)
              ((y.cell (0 : Nat)).bind fun c =>
                (y.cell (1 : Nat)).bind fun c_1 =>
                  (y.cell (2 : Nat)).bind fun c_2 =>
                    br (decide ((0 : Int) ≤ x04) && true)
                      (x00[x04.toNat]?.bind fun y =>
                        br (CVal.fits true (3 : Nat) y)
                          ((y.sub (0 : Nat) (3 : Nat)).bind fun y =>
                            br (CVal.isAggN (3 : Nat) y)
                              ((y.cell (0 : Nat)).bind fun c_3 =>
                                (y.cell (1 : Nat)).bind fun c_4 =>
                                  (y.cell (2 : Nat)).bind fun c_5 =>
                                    (C apId
                                          [AVal.v x01, AVal.v (CVal.agg [c, c_1, c_2]), AVal.v (CVal.agg [c_3, c_4, c_5])]
                                          []).bind
                                      fun r =>
                                      r.1.asBool.bind fun b =>
                                        br (!b) (some (LO.ret (CVal.bool false, [])))
                                          (L f_slices_EqualFunc_Ty (0 : Nat) lc_slices_EqualFunc_Ty_0 []
                                            k_slices_EqualFunc_Ty_0
                                            ((x00, x01, x02, x03, IntKind.i64.wrap (x04 + (1 : Int)), PUnit.unit),
                                              PUnit.unit)))
                              none)
                          none)
                      none)
              none)
          none)
      none)
    (some (LO.out (0 : Nat) ((x00, x01, x02, x03, x04, PUnit.unit), PUnit.unit)))
theorem el_slices_EqualFunc_Ty_0 (C : CallT) (L : LoopT) (x00 : List CVal) (x01 : CVal) (x02 : List CVal) (x03 : Int) (x04 : Int) : evL E N C L f_slices_EqualFunc_Ty 0 lc_slices_EqualFunc_Ty_0 [] k_slices_EqualFunc_Ty_0 ((x00, x01, x02, x03, x04, ()), ()) = nl_slices_EqualFunc_Ty_0 C L x00 x01 x02 x03 x04 := by kernel_rfl
theorem gl_slices_EqualFunc_Ty_0 (x00 : List CVal) (x01 : CVal) (x02 : List CVal) (x03 : Int) (x04 : Int) (R : LO k_slices_EqualFunc_Ty_0.T) (h : nl_slices_EqualFunc_Ty_0 CC LL x00 x01 x02 x03 x04 = some R) : LL f_slices_EqualFunc_Ty 0 lc_slices_EqualFunc_Ty_0 [] k_slices_EqualFunc_Ty_0 ((x00, x01, x02, x03, x04, ()), ()) = some R := loopW ((el_slices_EqualFunc_Ty_0 CC LL x00 x01 x02 x03 x04).trans h)
noncomputable def nl_s_l2Plain_0 (C : CallT) (L : LoopT) (x01 : Int) (x10 : Int) (x11 : Int) (x12 : List UInt8) (x13 : List UInt8) (x14 : Int) (x15 : Int) (x16 : List CVal) (x17 : List CVal) (x18 : List CVal) : Option (LO k_s_l2Plain_0.T) :=
  br (decide (x01 < (↑x18.length : Int)))
    (br (decide ((0 : Int) ≤ x01) && true)
      (x18[x01.toNat]?.bind fun y =>
        br (CVal.fits true (9 : Nat) y)
          ((y.sub (0 : Nat) (9 : Nat)).bind fun y =>
            (C f_s_l2Plain [AVal.v y] []).bind fun r =>
              r.1.asBool.bind fun b =>
                br (!b) (some (LO.ret (CVal.bool false, [])))
                  (L f_s_l2Plain (0 : Nat) lc_s_l2Plain_0 [] k_s_l2Plain_0
                    ((PUnit.unit, IntKind.i64.wrap (x01 + (1 : Int)), PUnit.unit),
                      (x10, x11, x12, x13, x14, x15, x16, x17, x18, PUnit.unit), PUnit.unit)))
          none)
      none)
    (some
      (LO.out (0 : Nat)
        ((PUnit.unit, x01, PUnit.unit), (x10, x11, x12, x13, x14, x15, x16, x17, x18, PUnit.unit), PUnit.unit)))
theorem el_s_l2Plain_0 (C : CallT) (L : LoopT) (x01 : Int) (x10 : Int) (x11 : Int) (x12 : List UInt8) (x13 : List UInt8) (x14 : Int) (x15 : Int) (x16 : List CVal) (x17 : List CVal) (x18 : List CVal) : evL E N C L f_s_l2Plain 0 lc_s_l2Plain_0 [] k_s_l2Plain_0 (((), x01, ()), (x10, x11, x12, x13, x14, x15, x16, x17, x18, ()), ()) = nl_s_l2Plain_0 C L x01 x10 x11 x12 x13 x14 x15 x16 x17 x18 := by kernel_rfl
theorem gl_s_l2Plain_0 (x01 : Int) (x10 : Int) (x11 : Int) (x12 : List UInt8) (x13 : List UInt8) (x14 : Int) (x15 : Int) (x16 : List CVal) (x17 : List CVal) (x18 : List CVal) (R : LO k_s_l2Plain_0.T) (h : nl_s_l2Plain_0 CC LL x01 x10 x11 x12 x13 x14 x15 x16 x17 x18 = some R) : LL f_s_l2Plain 0 lc_s_l2Plain_0 [] k_s_l2Plain_0 (((), x01, ()), (x10, x11, x12, x13, x14, x15, x16, x17, x18, ()), ()) = some R := loopW ((el_s_l2Plain_0 CC LL x01 x10 x11 x12 x13 x14 x15 x16 x17 x18).trans h)
noncomputable def nl_s_l2One_0 (C : CallT) (L : LoopT) (x01 : Int) (x10 : Int) (x11 : Int) (x12 : List UInt8) (x13 : List UInt8) (x14 : Int) (x15 : Int) (x16 : List CVal) (x17 : List CVal) (x18 : List CVal) : Option (LO k_s_l2One_0.T) :=
  br (decide (x01 < (↑x17.length : Int)))
    (br (decide ((0 : Int) ≤ x01) && true)
      (x17[x01.toNat]?.bind fun y =>
        br (CVal.fits true (3 : Nat) y)
          ((y.sub (0 : Nat) (3 : Nat)).bind fun y =>
            (C f_s_TyOk [AVal.v y] []).bind fun r =>
              r.1.asBool.bind fun b =>
                br (!b) (some (LO.ret (CVal.bool false, [])))
                  (L f_s_l2One (0 : Nat) lc_s_l2One_0 [] k_s_l2One_0
                    ((PUnit.unit, IntKind.i64.wrap (x01 + (1 : Int)), PUnit.unit),
                      (x10, x11, x12, x13, x14, x15, x16, x17, x18, PUnit.unit), PUnit.unit)))
          none)
      none)
    (some
      (LO.out (0 : Nat)
        ((PUnit.unit, x01, PUnit.unit), (x10, x11, x12, x13, x14, x15, x16, x17, x18, PUnit.unit), PUnit.unit)))
theorem el_s_l2One_0 (C : CallT) (L : LoopT) (x01 : Int) (x10 : Int) (x11 : Int) (x12 : List UInt8) (x13 : List UInt8) (x14 : Int) (x15 : Int) (x16 : List CVal) (x17 : List CVal) (x18 : List CVal) : evL E N C L f_s_l2One 0 lc_s_l2One_0 [] k_s_l2One_0 (((), x01, ()), (x10, x11, x12, x13, x14, x15, x16, x17, x18, ()), ()) = nl_s_l2One_0 C L x01 x10 x11 x12 x13 x14 x15 x16 x17 x18 := by kernel_rfl
theorem gl_s_l2One_0 (x01 : Int) (x10 : Int) (x11 : Int) (x12 : List UInt8) (x13 : List UInt8) (x14 : Int) (x15 : Int) (x16 : List CVal) (x17 : List CVal) (x18 : List CVal) (R : LO k_s_l2One_0.T) (h : nl_s_l2One_0 CC LL x01 x10 x11 x12 x13 x14 x15 x16 x17 x18 = some R) : LL f_s_l2One 0 lc_s_l2One_0 [] k_s_l2One_0 (((), x01, ()), (x10, x11, x12, x13, x14, x15, x16, x17, x18, ()), ()) = some R := loopW ((el_s_l2One_0 CC LL x01 x10 x11 x12 x13 x14 x15 x16 x17 x18).trans h)
end Go.Proofs.Ytdbgiclddcphfaa.Abs
