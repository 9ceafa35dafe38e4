/- What the functions come to in the abstract machine. -/
import Derived.Test.YtdbgiclddcphfaaT2Ann
import Derived.KernelRfl
set_option linter.unusedVariables false
set_option maxRecDepth 100000
namespace Go.Proofs.Ytdbgiclddcphfaa.Abs
open Go Go.Proofs
noncomputable def nf_l_FnSubst (C : CallT) (L : LoopT) (a : List CVal) : Option Ret :=
  (C f_l_big [AVal.v (CVal.sl a)] []).bind fun r =>
    r.1.asBool.bind fun b =>
      br b (some (CVal.bool true, []))
        ((C f_s_DrawSubstTy [AVal.v (CVal.sl a)] []).bind fun r =>
          r.1.asTup.bind fun y =>
            y[(0 : Nat)]?.bind fun y =>
              r.1.asTup.bind fun y_1 =>
                y_1[(1 : Nat)]?.bind fun y_2 =>
                  br (CVal.isAggN (3 : Nat) y)
                    ((y.cell (0 : Nat)).bind fun c =>
                      (y.cell (1 : Nat)).bind fun c_1 =>
                        (y.cell (2 : Nat)).bind fun c_2 =>
                          (C f_i_SubstTy [AVal.v (CVal.agg [c, c_1, c_2]), AVal.v y_2] []).bind fun r =>
                            r.1.asTup.bind fun y =>
                              y[(0 : Nat)]?.bind fun y =>
                                r.1.asTup.bind fun y_3 =>
                                  y_3[(1 : Nat)]?.bind fun y_4 =>
                                    br (CVal.isAggN (3 : Nat) y)
                                      ((y.cell (0 : Nat)).bind fun c_3 =>
                                        (y.cell (1 : Nat)).bind fun c_4 =>
                                          (y.cell (2 : Nat)).bind fun c_5 =>
                                            (C f_s_SubstTy [AVal.v (CVal.agg [c, c_1, c_2]), AVal.v y_2] []).bind fun r =>
                                              r.1.asTup.bind fun y =>
                                                y[(0 : Nat)]?.bind fun y =>
                                                  r.1.asTup.bind fun y_5 =>
                                                    y_5[(1 : Nat)]?.bind fun y_6 =>
                                                      br (CVal.isAggN (3 : Nat) y)
                                                        ((y.cell (0 : Nat)).bind fun c_6 =>
                                                          (y.cell (1 : Nat)).bind fun c_7 =>
                                                            (y.cell (2 : Nat)).bind fun c_8 =>
                                                              (y_4.asBool.bind fun b =>
                                                                    y_6.asBool.bind fun b_1 =>
                                                                      br (!b == b_1) (some (true, PUnit.unit))
                                                                        (y_4.asBool.bind fun b =>
                                                                          some (!b, PUnit.unit))).bind
                                                                fun y =>
                                                                br y.1
                                                                  ((y_4.asBool.bind fun b =>
                                                                        y_6.asBool.bind fun b_1 =>
                                                                          br (b == b_1)
                                                                            ((CVal.asInt IntKind.i64 c_3).bind fun n =>
                                                                              some (decide (n = (0 : Int)), PUnit.unit))
                                                                            (some (false, PUnit.unit))).bind
                                                                    fun y => some (CVal.bool y.1, []))
                                                                  (y_2.asSl.bind fun xs =>
                                                                    (CVal.asInt IntKind.i64 c).bind fun n =>
                                                                      (CVal.asInt IntKind.i64 c_1).bind fun n_1 =>
                                                                        c_2.asSl.bind fun xs_1 =>
                                                                          (CVal.asInt IntKind.i64 c_3).bind fun n_2 =>
                                                                            (CVal.asInt IntKind.i64 c_4).bind fun n_3 =>
                                                                              c_5.asSl.bind fun xs_2 =>
                                                                                (L f_l_FnSubst (0 : Nat) lc_l_FnSubst_0 []
                                                                                      k_l_FnSubst_0
                                                                                      ((PUnit.unit, xs, PUnit.unit,
                                                                                          (0 : Int), true, (0 : Int),
                                                                                          PUnit.unit),
                                                                                        (n, n_1, xs_1, PUnit.unit),
                                                                                        (n_2, n_3, xs_2, PUnit.unit),
                                                                                        PUnit.unit)).bind
                                                                                  fun r =>
                                                                                  loK r (fun r => some r) fun j p =>
                                                                                    br (j == (0 : Nat))
                                                                                      ((C f_i_SubstTy
                                                                                            [AVal.v
                                                                                                (CVal.agg
                                                                                                  [CVal.int IntKind.i64
                                                                                                      p.snd.fst.1,
                                                                                                    CVal.int IntKind.i64
                                                                                                      p.snd.fst.snd.1,
                                                                                                    CVal.sl
                                                                                                      p.snd.fst.snd.snd.1]),
                                                                                              AVal.v
                                                                                                (CVal.sl
                                                                                                  [CVal.agg
                                                                                                      [CVal.int
                                                                                                          IntKind.i64
                                                                                                          (3 : Int),
                                                                                                        CVal.int
                                                                                                          IntKind.i64
                                                                                                          (0 : Int),
                                                                                                        CVal.sl []],
                                                                                                    CVal.agg
                                                                                                      [CVal.int
                                                                                                          IntKind.i64
                                                                                                          (3 : Int),
                                                                                                        CVal.int
                                                                                                          IntKind.i64
                                                                                                          (1 : Int),
                                                                                                        CVal.sl []]])]
                                                                                            []).bind
                                                                                        fun r =>
                                                                                        r.1.asTup.bind fun y =>
                                                                                          y[(0 : Nat)]?.bind fun y =>
                                                                                            r.1.asTup.bind fun y_7 =>
                                                                                              y_7[(1 : Nat)]?.bind
                                                                                                fun y_8 =>
                                                                                                br
                                                                                                  (CVal.isAggN (3 : Nat)
                                                                                                    y)
                                                                                                  ((y.cell (0 : Nat)).bind
                                                                                                    fun c =>
                                                                                                    (y.cell
                                                                                                          (1 : Nat)).bind
                                                                                                      fun c_9 =>
                                                                                                      (y.cell
                                                                                                            (2 :
                                                                                                              Nat)).bind
                                                                                                        fun c_10 =>
                                                                                                        ((C f_i_TyOk
                                                                                                                  [AVal.v
                                                                                                                      (CVal.agg
                                                                                                                        [CVal.int
                                                                                                                            IntKind.i64
                                                                                                                            p.snd.snd.fst.1,
                                                                                                                          CVal.int
                                                                                                                            IntKind.i64
                                                                                                                            p.snd.snd.fst.snd.1,
                                                                                                                          CVal.sl
                                                                                                                            p.snd.snd.fst.snd.snd.1])]
                                                                                                                  []).bind
                                                                                                              fun r =>
                                                                                                              r.1.asBool.bind
                                                                                                                fun b =>
                                                                                                                br b
                                                                                                                  ((C
                                                                                                                        f_i_VarsOf
                                                                                                                        [AVal.v
                                                                                                                            (CVal.agg
                                                                                                                              [CVal.int
                                                                                                                                  IntKind.i64
                                                                                                                                  p.snd.snd.fst.1,
                                                                                                                                CVal.int
                                                                                                                                  IntKind.i64
                                                                                                                                  p.snd.snd.fst.snd.1,
                                                                                                                                CVal.sl
                                                                                                                                  p.snd.snd.fst.snd.snd.1])]
                                                                                                                        []).bind
                                                                                                                    fun
                                                                                                                      r =>
                                                                                                                    (CVal.asInt
                                                                                                                          IntKind.i64
                                                                                                                          r.1).bind
                                                                                                                      fun
                                                                                                                        n =>
                                                                                                                      br
                                                                                                                        (decide
                                                                                                                          (n ≤
                                                                                                                            p.fst.snd.snd.snd.1))
                                                                                                                        (br
                                                                                                                          (!p.fst.snd.snd.snd.snd.1)
                                                                                                                          (y_8.asBool.bind
                                                                                                                            fun
                                                                                                                              b =>
                                                                                                                            br
                                                                                                                              b
                                                                                                                              ((C
                                                                                                                                    f_i_SameTy
                                                                                                                                    [AVal.v
                                                                                                                                        (CVal.agg
                                                                                                                                          [c,
                                                                                                                                            c_9,
                                                                                                                                            c_10]),
                                                                                                                                      AVal.v
                                                                                                                                        (CVal.agg
                                                                                                                                          [CVal.int
                                                                                                                                              IntKind.i64
                                                                                                                                              p.snd.fst.1,
                                                                                                                                            CVal.int
                                                                                                                                              IntKind.i64
                                                                                                                                              p.snd.fst.snd.1,
                                                                                                                                            CVal.sl
                                                                                                                                              p.snd.fst.snd.snd.1])]
                                                                                                                                    []).bind
                                                                                                                                fun
                                                                                                                                  r =>
                                                                                                                                (bif
                                                                                                                                          true then
                                                                                                                                        r.1
                                                                                                                                      else
                                                                                                                                        CVal.bool
                                                                                                                                          false).asBool.bind
                                                                                                                                  fun
                                                                                                                                    b =>
                                                                                                                                  some
                                                                                                                                    (b,
                                                                                                                                      PUnit.unit))
                                                                                                                              (some
                                                                                                                                (false,
                                                                                                                                  PUnit.unit)))
                                                                                                                          ((C
                                                                                                                                f_i_Ground
                                                                                                                                [AVal.v
                                                                                                                                    (CVal.agg
                                                                                                                                      [CVal.int
                                                                                                                                          IntKind.i64
                                                                                                                                          p.snd.snd.fst.1,
                                                                                                                                        CVal.int
                                                                                                                                          IntKind.i64
                                                                                                                                          p.snd.snd.fst.snd.1,
                                                                                                                                        CVal.sl
                                                                                                                                          p.snd.snd.fst.snd.snd.1])]
                                                                                                                                []).bind
                                                                                                                            fun
                                                                                                                              r =>
                                                                                                                            (bif
                                                                                                                                      true then
                                                                                                                                    bif
                                                                                                                                        false then
                                                                                                                                      CVal.bool
                                                                                                                                        true
                                                                                                                                    else
                                                                                                                                      r.1
                                                                                                                                  else
                                                                                                                                    CVal.bool
                                                                                                                                      false).asBool.bind
                                                                                                                              fun
                                                                                                                                b =>
                                                                                                                              br
                                                                                                                                b
                                                                                                                                (y_8.asBool.bind
                                                                                                                                  fun
                                                                                                                                    b =>
                                                                                                                                  br
                                                                                                                                    b
                                                                                                                                    ((C
                                                                                                                                          f_i_SameTy
                                                                                                                                          [AVal.v
                                                                                                                                              (CVal.agg
                                                                                                                                                [c,
                                                                                                                                                  c_9,
                                                                                                                                                  c_10]),
                                                                                                                                            AVal.v
                                                                                                                                              (CVal.agg
                                                                                                                                                [CVal.int
                                                                                                                                                    IntKind.i64
                                                                                                                                                    p.snd.fst.1,
                                                                                                                                                  CVal.int
                                                                                                                                                    IntKind.i64
                                                                                                                                                    p.snd.fst.snd.1,
                                                                                                                                                  CVal.sl
                                                                                                                                                    p.snd.fst.snd.snd.1])]
                                                                                                                                          []).bind
                                                                                                                                      fun
                                                                                                                                        r =>
                                                                                                                                      (bif
                                                                                                                                                true then
                                                                                                                                              r.1
                                                                                                                                            else
                                                                                                                                              CVal.bool
                                                                                                                                                false).asBool.bind
                                                                                                                                        fun
                                                                                                                                          b =>
                                                                                                                                        some
                                                                                                                                          (b,
                                                                                                                                            PUnit.unit))
                                                                                                                                    (some
                                                                                                                                      (false,
                                                                                                                                        PUnit.unit)))
                                                                                                                                (some
                                                                                                                                  (false,
                                                                                                                                    PUnit.unit))))
                                                                                                                        (some
                                                                                                                          (false,
                                                                                                                            PUnit.unit)))
                                                                                                                  (some
                                                                                                                    (false,
                                                                                                                      PUnit.unit))).bind
                                                                                                          fun y =>
                                                                                                          some
                                                                                                            (CVal.bool
                                                                                                                y.1,
                                                                                                              []))
                                                                                                  none)
                                                                                      none))
                                                        none)
                                      none)
                    none)
theorem eq_l_FnSubst (C : CallT) (L : LoopT) (a : List CVal) : evF E N C L f_l_FnSubst [AVal.v (CVal.sl a)] [] = nf_l_FnSubst C L a := by kernel_rfl
theorem go_l_FnSubst (a : List CVal) (R : Ret) (h : nf_l_FnSubst CC LL a = some R) : CC f_l_FnSubst [AVal.v (CVal.sl a)] [] = some R := fnW (by decide) ((eq_l_FnSubst CC LL a).trans h)
noncomputable def nf_i_Ground (C : CallT) (L : LoopT) (a0 : Int) (a1 : Int) (a2 : List CVal) : Option Ret :=
  ((C f_i_TyOk [AVal.v (CVal.agg [CVal.int IntKind.i64 a0, CVal.int IntKind.i64 a1, CVal.sl a2])] []).bind fun r =>
        r.1.asBool.bind fun b =>
          br b
            ((C f_i_anyTy
                  [AVal.v (CVal.agg [CVal.int IntKind.i64 a0, CVal.int IntKind.i64 a1, CVal.sl a2]),
                    AVal.v (CVal.func f_i_Ground_1 [])]
                  []).bind
              fun r => r.1.asBool.bind fun b => some (!b, PUnit.unit))
            (some (false, PUnit.unit))).bind
    fun y => some (CVal.bool y.1, [])
theorem eq_i_Ground (C : CallT) (L : LoopT) (a0 : Int) (a1 : Int) (a2 : List CVal) : evF E N C L f_i_Ground [AVal.v (CVal.agg [CVal.int IntKind.i64 a0, CVal.int IntKind.i64 a1, CVal.sl a2])] [] = nf_i_Ground C L a0 a1 a2 := by kernel_rfl
theorem go_i_Ground (a0 : Int) (a1 : Int) (a2 : List CVal) (R : Ret) (h : nf_i_Ground CC LL a0 a1 a2 = some R) : CC f_i_Ground [AVal.v (CVal.agg [CVal.int IntKind.i64 a0, CVal.int IntKind.i64 a1, CVal.sl a2])] [] = some R := fnW (by decide) ((eq_i_Ground CC LL a0 a1 a2).trans h)
noncomputable def nf_l_eqTerm (C : CallT) (L : LoopT) (a0 : Int) (a1 : Int) (a2 : List UInt8) (a3 : List UInt8) (a40 : Int) (a41 : Int) (a42 : List CVal) (a5 : List CVal) (a6 : List CVal) (b0 : Int) (b1 : Int) (b2 : List UInt8) (b3 : List UInt8) (b40 : Int) (b41 : Int) (b42 : List CVal) (b5 : List CVal) (b6 : List CVal) : Option Ret :=
  br (!decide (a0 = b0)) (some (CVal.bool false, []))
    (br (!decide (a1 = b1)) (some (CVal.bool false, []))
      (br (!decide (a2 = b2)) (some (CVal.bool false, []))
        (br (!decide (a3 = b3)) (some (CVal.bool false, []))
          ((C f_l_eqTy
                [AVal.v (CVal.agg [CVal.int IntKind.i64 a40, CVal.int IntKind.i64 a41, CVal.sl a42]),
                  AVal.v (CVal.agg [CVal.int IntKind.i64 b40, CVal.int IntKind.i64 b41, CVal.sl b42])]
                []).bind
            fun r =>
            r.1.asBool.bind fun b =>
              br (!b) (some (CVal.bool false, []))
                ((C f_l_eqTyS [AVal.v (CVal.sl a5), AVal.v (CVal.sl b5)] []).bind fun r =>
                  r.1.asBool.bind fun b =>
                    br (!b) (some (CVal.bool false, []))
                      ((C f_l_eqTermS [AVal.v (CVal.sl a6), AVal.v (CVal.sl b6)] []).bind fun r =>
                        r.1.asBool.bind fun b => br (!b) (some (CVal.bool false, [])) (some (CVal.bool true, []))))))))
theorem eq_l_eqTerm (C : CallT) (L : LoopT) (a0 : Int) (a1 : Int) (a2 : List UInt8) (a3 : List UInt8) (a40 : Int) (a41 : Int) (a42 : List CVal) (a5 : List CVal) (a6 : List CVal) (b0 : Int) (b1 : Int) (b2 : List UInt8) (b3 : List UInt8) (b40 : Int) (b41 : Int) (b42 : List CVal) (b5 : List CVal) (b6 : List CVal) : evF E N C L f_l_eqTerm [AVal.v
    (CVal.agg
      [CVal.int IntKind.i64 a0, CVal.int IntKind.i64 a1, CVal.str a2, CVal.str a3, CVal.int IntKind.i64 a40,
        CVal.int IntKind.i64 a41, CVal.sl a42, CVal.sl a5, CVal.sl a6]),
  AVal.v
    (CVal.agg
      [CVal.int IntKind.i64 b0, CVal.int IntKind.i64 b1, CVal.str b2, CVal.str b3, CVal.int IntKind.i64 b40,
        CVal.int IntKind.i64 b41, CVal.sl b42, CVal.sl b5, CVal.sl b6])] [] = nf_l_eqTerm C L a0 a1 a2 a3 a40 a41 a42 a5 a6 b0 b1 b2 b3 b40 b41 b42 b5 b6 := by kernel_rfl
theorem go_l_eqTerm (a0 : Int) (a1 : Int) (a2 : List UInt8) (a3 : List UInt8) (a40 : Int) (a41 : Int) (a42 : List CVal) (a5 : List CVal) (a6 : List CVal) (b0 : Int) (b1 : Int) (b2 : List UInt8) (b3 : List UInt8) (b40 : Int) (b41 : Int) (b42 : List CVal) (b5 : List CVal) (b6 : List CVal) (R : Ret) (h : nf_l_eqTerm CC LL a0 a1 a2 a3 a40 a41 a42 a5 a6 b0 b1 b2 b3 b40 b41 b42 b5 b6 = some R) : CC f_l_eqTerm [AVal.v
    (CVal.agg
      [CVal.int IntKind.i64 a0, CVal.int IntKind.i64 a1, CVal.str a2, CVal.str a3, CVal.int IntKind.i64 a40,
        CVal.int IntKind.i64 a41, CVal.sl a42, CVal.sl a5, CVal.sl a6]),
  AVal.v
    (CVal.agg
      [CVal.int IntKind.i64 b0, CVal.int IntKind.i64 b1, CVal.str b2, CVal.str b3, CVal.int IntKind.i64 b40,
        CVal.int IntKind.i64 b41, CVal.sl b42, CVal.sl b5, CVal.sl b6])] [] = some R := fnW (by decide) ((eq_l_eqTerm CC LL a0 a1 a2 a3 a40 a41 a42 a5 a6 b0 b1 b2 b3 b40 b41 b42 b5 b6).trans h)
noncomputable def nf_l_big (C : CallT) (L : LoopT) (a : List CVal) : Option Ret :=
  some (CVal.bool (decide ((1048576 : Int) < (↑a.length : Int))), [])
theorem eq_l_big (C : CallT) (L : LoopT) (a : List CVal) : evF E N C L f_l_big [AVal.v (CVal.sl a)] [] = nf_l_big C L a := by kernel_rfl
theorem go_l_big (a : List CVal) (R : Ret) (h : nf_l_big CC LL a = some R) : CC f_l_big [AVal.v (CVal.sl a)] [] = some R := fnW (by decide) ((eq_l_big CC LL a).trans h)
noncomputable def nf_s_NodesOf (C : CallT) (L : LoopT) (a0 : Int) (a1 : Int) (a2 : List UInt8) (a3 : List UInt8) (a40 : Int) (a41 : Int) (a42 : List CVal) (a5 : List CVal) (a6 : List CVal) : Option Ret :=
  (C f_s_l2Look
        [AVal.v
            (CVal.agg
              [CVal.int IntKind.i64 a0, CVal.int IntKind.i64 a1, CVal.str a2, CVal.str a3, CVal.int IntKind.i64 a40,
                CVal.int IntKind.i64 a41, CVal.sl a42, CVal.sl a5, CVal.sl a6]),
          AVal.v (CVal.int IntKind.i64 (24 : Int)), AVal.lptr (0 : Nat) (0 : Nat)]
        [PB.mk false (0 : Nat) [CVal.int IntKind.i64 (0 : Int)]]).bind
    fun r =>
    r.2[(0 : Nat)]?.bind fun y =>
      br (y.length == (1 : Nat))
        (y[(0 : Nat)]?.bind fun y =>
          r.1.asBool.bind fun b => br (!b) (some (CVal.int IntKind.i64 (0 : Int), [])) (some (y, [])))
        none
theorem eq_s_NodesOf (C : CallT) (L : LoopT) (a0 : Int) (a1 : Int) (a2 : List UInt8) (a3 : List UInt8) (a40 : Int) (a41 : Int) (a42 : List CVal) (a5 : List CVal) (a6 : List CVal) : evF E N C L f_s_NodesOf [AVal.v
    (CVal.agg
      [CVal.int IntKind.i64 a0, CVal.int IntKind.i64 a1, CVal.str a2, CVal.str a3, CVal.int IntKind.i64 a40,
        CVal.int IntKind.i64 a41, CVal.sl a42, CVal.sl a5, CVal.sl a6])] [] = nf_s_NodesOf C L a0 a1 a2 a3 a40 a41 a42 a5 a6 := by kernel_rfl
theorem go_s_NodesOf (a0 : Int) (a1 : Int) (a2 : List UInt8) (a3 : List UInt8) (a40 : Int) (a41 : Int) (a42 : List CVal) (a5 : List CVal) (a6 : List CVal) (R : Ret) (h : nf_s_NodesOf CC LL a0 a1 a2 a3 a40 a41 a42 a5 a6 = some R) : CC f_s_NodesOf [AVal.v
    (CVal.agg
      [CVal.int IntKind.i64 a0, CVal.int IntKind.i64 a1, CVal.str a2, CVal.str a3, CVal.int IntKind.i64 a40,
        CVal.int IntKind.i64 a41, CVal.sl a42, CVal.sl a5, CVal.sl a6])] [] = some R := fnW (by decide) ((eq_s_NodesOf CC LL a0 a1 a2 a3 a40 a41 a42 a5 a6).trans h)
noncomputable def nf_s_TyOk (C : CallT) (L : LoopT) (a0 : Int) (a1 : Int) (a2 : List CVal) : Option Ret :=
  (C f_s_l1Look
        [AVal.v (CVal.agg [CVal.int IntKind.i64 a0, CVal.int IntKind.i64 a1, CVal.sl a2]),
          AVal.v (CVal.int IntKind.i64 (6 : Int)), AVal.lptr (0 : Nat) (0 : Nat)]
        [PB.mk false (0 : Nat) [CVal.int IntKind.i64 (0 : Int)]]).bind
    fun r => r.2[(0 : Nat)]?.bind fun y => br (y.length == (1 : Nat)) (y[(0 : Nat)]?.bind fun y => some (r.1, [])) none
theorem eq_s_TyOk (C : CallT) (L : LoopT) (a0 : Int) (a1 : Int) (a2 : List CVal) : evF E N C L f_s_TyOk [AVal.v (CVal.agg [CVal.int IntKind.i64 a0, CVal.int IntKind.i64 a1, CVal.sl a2])] [] = nf_s_TyOk C L a0 a1 a2 := by kernel_rfl
theorem go_s_TyOk (a0 : Int) (a1 : Int) (a2 : List CVal) (R : Ret) (h : nf_s_TyOk CC LL a0 a1 a2 = some R) : CC f_s_TyOk [AVal.v (CVal.agg [CVal.int IntKind.i64 a0, CVal.int IntKind.i64 a1, CVal.sl a2])] [] = some R := fnW (by decide) ((eq_s_TyOk CC LL a0 a1 a2).trans h)
noncomputable def nf_i_isValue (C : CallT) (L : LoopT) (a0 : Int) (a1 : Int) (a2 : List UInt8) (a3 : List UInt8) (a40 : Int) (a41 : Int) (a42 : List CVal) (a5 : List CVal) (a6 : List CVal) : Option Ret :=
  (br (decide (a0 = (1 : Int))) (some (true, PUnit.unit))
        (br (decide (a0 = (2 : Int))) (some (true, PUnit.unit))
          (br (decide (a0 = (3 : Int))) (some (true, PUnit.unit))
            (br (decide (a0 = (4 : Int))) (some (true, PUnit.unit)) (some (decide (a0 = (12 : Int)), PUnit.unit)))))).bind
    fun y => some (CVal.bool y.1, [])
theorem eq_i_isValue (C : CallT) (L : LoopT) (a0 : Int) (a1 : Int) (a2 : List UInt8) (a3 : List UInt8) (a40 : Int) (a41 : Int) (a42 : List CVal) (a5 : List CVal) (a6 : List CVal) : evF E N C L f_i_isValue [AVal.v
    (CVal.agg
      [CVal.int IntKind.i64 a0, CVal.int IntKind.i64 a1, CVal.str a2, CVal.str a3, CVal.int IntKind.i64 a40,
        CVal.int IntKind.i64 a41, CVal.sl a42, CVal.sl a5, CVal.sl a6])] [] = nf_i_isValue C L a0 a1 a2 a3 a40 a41 a42 a5 a6 := by kernel_rfl
theorem go_i_isValue (a0 : Int) (a1 : Int) (a2 : List UInt8) (a3 : List UInt8) (a40 : Int) (a41 : Int) (a42 : List CVal) (a5 : List CVal) (a6 : List CVal) (R : Ret) (h : nf_i_isValue CC LL a0 a1 a2 a3 a40 a41 a42 a5 a6 = some R) : CC f_i_isValue [AVal.v
    (CVal.agg
      [CVal.int IntKind.i64 a0, CVal.int IntKind.i64 a1, CVal.str a2, CVal.str a3, CVal.int IntKind.i64 a40,
        CVal.int IntKind.i64 a41, CVal.sl a42, CVal.sl a5, CVal.sl a6])] [] = some R := fnW (by decide) ((eq_i_isValue CC LL a0 a1 a2 a3 a40 a41 a42 a5 a6).trans h)
noncomputable def nf_slices_EqualFunc_Ty (C : CallT) (L : LoopT) (a : List CVal) (b : List CVal) (c : CVal) : Option Ret :=
  br (!decide ((↑a.length : Int) = (↑b.length : Int))) (some (CVal.bool false, []))
    ((L f_slices_EqualFunc_Ty (0 : Nat) lc_slices_EqualFunc_Ty_0 [] k_slices_EqualFunc_Ty_0
          ((b, c, a, (↑a.length : Int), (0 : Int), PUnit.unit), PUnit.unit)).bind
      fun r => loK r (fun r => some r) fun j p => br (j == (0 : Nat)) (some (CVal.bool true, [])) none)
theorem eq_slices_EqualFunc_Ty (C : CallT) (L : LoopT) (a : List CVal) (b : List CVal) (c : CVal) : evF E N C L f_slices_EqualFunc_Ty [AVal.v (CVal.sl a), AVal.v (CVal.sl b), AVal.v c] [] = nf_slices_EqualFunc_Ty C L a b c := by kernel_rfl
theorem go_slices_EqualFunc_Ty (a : List CVal) (b : List CVal) (c : CVal) (R : Ret) (h : nf_slices_EqualFunc_Ty CC LL a b c = some R) : CC f_slices_EqualFunc_Ty [AVal.v (CVal.sl a), AVal.v (CVal.sl b), AVal.v c] [] = some R := fnW (by decide) ((eq_slices_EqualFunc_Ty CC LL a b c).trans h)
noncomputable def nf_s_l1Put (C : CallT) (L : LoopT) (a0 : Int) (a1 : Int) (a2 : List CVal) (b : List CVal) : Option Ret :=
  (br (decide (a0 = (3 : Int))) (some (decide (a1 < (↑b.length : Int)), PUnit.unit)) (some (false, PUnit.unit))).bind
    fun y =>
    br y.1
      (br (decide ((0 : Int) ≤ a1) && true)
        (b[a1.toNat]?.bind fun y =>
          br (CVal.fits true (3 : Nat) y)
            ((y.sub (0 : Nat) (3 : Nat)).bind fun y =>
              (C f_s_l1Copy [AVal.v y] []).bind fun r =>
                br (CVal.isAggN (3 : Nat) r.1)
                  ((r.1.cell (0 : Nat)).bind fun c =>
                    (r.1.cell (1 : Nat)).bind fun c_1 =>
                      (r.1.cell (2 : Nat)).bind fun c_2 => some (CVal.agg [c, c_1, c_2], []))
                  none)
            none)
        none)
      ((L f_s_l1Put (0 : Nat) lc_s_l1Put_0 [] k_s_l1Put_0
            ((b, PUnit.unit, PUnit.unit, PUnit.unit, (0 : Int), PUnit.unit), (a0, a1, a2, PUnit.unit),
              ((0 : Int), (0 : Int), [], PUnit.unit), (a0, a1, [], PUnit.unit), PUnit.unit)).bind
        fun r =>
        loK r (fun r => some r) fun j p =>
          br (j == (0 : Nat))
            (some
              (CVal.agg
                  [CVal.int IntKind.i64 p.snd.snd.snd.fst.1, CVal.int IntKind.i64 p.snd.snd.snd.fst.snd.1,
                    CVal.sl p.snd.snd.snd.fst.snd.snd.1],
                []))
            none)
theorem eq_s_l1Put (C : CallT) (L : LoopT) (a0 : Int) (a1 : Int) (a2 : List CVal) (b : List CVal) : evF E N C L f_s_l1Put [AVal.v (CVal.agg [CVal.int IntKind.i64 a0, CVal.int IntKind.i64 a1, CVal.sl a2]), AVal.v (CVal.sl b)] [] = nf_s_l1Put C L a0 a1 a2 b := by kernel_rfl
theorem go_s_l1Put (a0 : Int) (a1 : Int) (a2 : List CVal) (b : List CVal) (R : Ret) (h : nf_s_l1Put CC LL a0 a1 a2 b = some R) : CC f_s_l1Put [AVal.v (CVal.agg [CVal.int IntKind.i64 a0, CVal.int IntKind.i64 a1, CVal.sl a2]), AVal.v (CVal.sl b)] [] = some R := fnW (by decide) ((eq_s_l1Put CC LL a0 a1 a2 b).trans h)
noncomputable def nf_i_IsMono_1 (C : CallT) (L : LoopT) (a0 : Int) (a1 : Int) (a2 : List UInt8) (a3 : List UInt8) (a40 : Int) (a41 : Int) (a42 : List CVal) (a5 : List CVal) (a6 : List CVal) : Option Ret :=
  (br (decide (a0 = (6 : Int)))
        (br (decide ((0 : Int) < a1)) (some (true, PUnit.unit))
          (br (decide ((0 : Int) < (↑a5.length : Int))) (some (true, PUnit.unit))
            ((C f_i_hasT [AVal.v (CVal.int IntKind.i64 a0)] []).bind fun r =>
              r.1.asBool.bind fun b =>
                br b
                  ((C f_i_Ground [AVal.v (CVal.agg [CVal.int IntKind.i64 a40, CVal.int IntKind.i64 a41, CVal.sl a42])]
                        []).bind
                    fun r => r.1.asBool.bind fun b => some (!b, PUnit.unit))
                  (some (false, PUnit.unit)))))
        (br (decide (a0 = (7 : Int)))
          (br (decide ((0 : Int) < a1)) (some (true, PUnit.unit))
            (br (decide ((0 : Int) < (↑a5.length : Int))) (some (true, PUnit.unit))
              ((C f_i_hasT [AVal.v (CVal.int IntKind.i64 a0)] []).bind fun r =>
                r.1.asBool.bind fun b =>
                  br b
                    ((C f_i_Ground [AVal.v (CVal.agg [CVal.int IntKind.i64 a40, CVal.int IntKind.i64 a41, CVal.sl a42])]
                          []).bind
                      fun r => r.1.asBool.bind fun b => some (!b, PUnit.unit))
                    (some (false, PUnit.unit)))))
          (br (decide ((0 : Int) < (↑a5.length : Int))) (some (true, PUnit.unit))
            ((C f_i_hasT [AVal.v (CVal.int IntKind.i64 a0)] []).bind fun r =>
              r.1.asBool.bind fun b =>
                br b
                  ((C f_i_Ground [AVal.v (CVal.agg [CVal.int IntKind.i64 a40, CVal.int IntKind.i64 a41, CVal.sl a42])]
                        []).bind
                    fun r => r.1.asBool.bind fun b => some (!b, PUnit.unit))
                  (some (false, PUnit.unit)))))).bind
    fun y => some (CVal.bool y.1, [])
theorem eq_i_IsMono_1 (C : CallT) (L : LoopT) (a0 : Int) (a1 : Int) (a2 : List UInt8) (a3 : List UInt8) (a40 : Int) (a41 : Int) (a42 : List CVal) (a5 : List CVal) (a6 : List CVal) : evF E N C L f_i_IsMono_1 [AVal.v
    (CVal.agg
      [CVal.int IntKind.i64 a0, CVal.int IntKind.i64 a1, CVal.str a2, CVal.str a3, CVal.int IntKind.i64 a40,
        CVal.int IntKind.i64 a41, CVal.sl a42, CVal.sl a5, CVal.sl a6])] [] = nf_i_IsMono_1 C L a0 a1 a2 a3 a40 a41 a42 a5 a6 := by kernel_rfl
theorem go_i_IsMono_1 (a0 : Int) (a1 : Int) (a2 : List UInt8) (a3 : List UInt8) (a40 : Int) (a41 : Int) (a42 : List CVal) (a5 : List CVal) (a6 : List CVal) (R : Ret) (h : nf_i_IsMono_1 CC LL a0 a1 a2 a3 a40 a41 a42 a5 a6 = some R) : CC f_i_IsMono_1 [AVal.v
    (CVal.agg
      [CVal.int IntKind.i64 a0, CVal.int IntKind.i64 a1, CVal.str a2, CVal.str a3, CVal.int IntKind.i64 a40,
        CVal.int IntKind.i64 a41, CVal.sl a42, CVal.sl a5, CVal.sl a6])] [] = some R := fnW (by decide) ((eq_i_IsMono_1 CC LL a0 a1 a2 a3 a40 a41 a42 a5 a6).trans h)
noncomputable def nf_s_l1Ty (C : CallT) (L : LoopT) (a : CVal) (b : Int) (c : Int) : Option Ret :=
  (C f_s_l1Int
        [AVal.v a,
          AVal.v
            (CVal.sl
              [CVal.int IntKind.i64 (1 : Int), CVal.int IntKind.i64 (1 : Int), CVal.int IntKind.i64 (2 : Int),
                CVal.int IntKind.i64 (4 : Int), CVal.int IntKind.i64 (5 : Int), CVal.int IntKind.i64 (6 : Int),
                CVal.int IntKind.i64 (3 : Int)])]
        []).bind
    fun r =>
    ((CVal.asInt IntKind.i64 r.1).bind fun n =>
          br (decide (n = (3 : Int)))
            (br (decide (c = (0 : Int))) (some (true, PUnit.unit))
              (br (decide (b ≤ (1 : Int)))
                ((CVal.asInt IntKind.i64 r.1).bind fun n => some (decide ((3 : Int) < n), PUnit.unit))
                (some (false, PUnit.unit))))
            (br (decide (b ≤ (1 : Int)))
              ((CVal.asInt IntKind.i64 r.1).bind fun n => some (decide ((3 : Int) < n), PUnit.unit))
              (some (false, PUnit.unit)))).bind
      fun y =>
      br y.1
        ((L f_s_l1Ty (0 : Nat) lc_s_l1Ty_0 [] k_s_l1Ty_0
              ((a, b, c, PUnit.unit, (1 : Int), PUnit.unit, (0 : Int), PUnit.unit),
                ((0 : Int), (0 : Int), [], PUnit.unit), ((1 : Int), (0 : Int), [], PUnit.unit), PUnit.unit)).bind
          fun r =>
          loK r (fun r => some r) fun j p =>
            br (j == (0 : Nat))
              (some
                (CVal.agg
                    [CVal.int IntKind.i64 p.snd.snd.fst.1, CVal.int IntKind.i64 p.snd.snd.fst.snd.1,
                      CVal.sl p.snd.snd.fst.snd.snd.1],
                  []))
              none)
        (br (r.1.isFlat && true)
          ((CVal.asInt IntKind.i64 r.1).bind fun n =>
            br (decide (n = (3 : Int)))
              ((C f_s_l1Below [AVal.v a, AVal.v (CVal.int IntKind.i64 c)] []).bind fun r_1 =>
                br (r_1.1.isFlat && true)
                  ((CVal.asInt IntKind.i64 r.1).bind fun n =>
                    (CVal.asInt IntKind.i64 r.1).bind fun n_1 =>
                      (CVal.asInt IntKind.i64 r_1.1).bind fun n_2 =>
                        (L f_s_l1Ty (0 : Nat) lc_s_l1Ty_0 [] k_s_l1Ty_0
                              ((a, b, c, PUnit.unit, n, PUnit.unit, (0 : Int), PUnit.unit),
                                ((0 : Int), (0 : Int), [], PUnit.unit), (n_1, n_2, [], PUnit.unit), PUnit.unit)).bind
                          fun r =>
                          loK r (fun r => some r) fun j p =>
                            br (j == (0 : Nat))
                              (some
                                (CVal.agg
                                    [CVal.int IntKind.i64 p.snd.snd.fst.1, CVal.int IntKind.i64 p.snd.snd.fst.snd.1,
                                      CVal.sl p.snd.snd.fst.snd.snd.1],
                                  []))
                              none)
                  none)
              ((CVal.asInt IntKind.i64 r.1).bind fun n =>
                (CVal.asInt IntKind.i64 r.1).bind fun n_1 =>
                  (L f_s_l1Ty (0 : Nat) lc_s_l1Ty_0 [] k_s_l1Ty_0
                        ((a, b, c, PUnit.unit, n, PUnit.unit, (0 : Int), PUnit.unit),
                          ((0 : Int), (0 : Int), [], PUnit.unit), (n_1, (0 : Int), [], PUnit.unit), PUnit.unit)).bind
                    fun r =>
                    loK r (fun r => some r) fun j p =>
                      br (j == (0 : Nat))
                        (some
                          (CVal.agg
                              [CVal.int IntKind.i64 p.snd.snd.fst.1, CVal.int IntKind.i64 p.snd.snd.fst.snd.1,
                                CVal.sl p.snd.snd.fst.snd.snd.1],
                            []))
                        none))
          none)
theorem eq_s_l1Ty (C : CallT) (L : LoopT) (a : CVal) (b : Int) (c : Int) : evF E N C L f_s_l1Ty [AVal.v a, AVal.v (CVal.int IntKind.i64 b), AVal.v (CVal.int IntKind.i64 c)] [] = nf_s_l1Ty C L a b c := by kernel_rfl
theorem go_s_l1Ty (a : CVal) (b : Int) (c : Int) (R : Ret) (h : nf_s_l1Ty CC LL a b c = some R) : CC f_s_l1Ty [AVal.v a, AVal.v (CVal.int IntKind.i64 b), AVal.v (CVal.int IntKind.i64 c)] [] = some R := fnW (by decide) ((eq_s_l1Ty CC LL a b c).trans h)
noncomputable def nf_s_l2One (C : CallT) (L : LoopT) (a0 : Int) (a1 : Int) (a2 : List UInt8) (a3 : List UInt8) (a40 : Int) (a41 : Int) (a42 : List CVal) (a5 : List CVal) (a6 : List CVal) : Option Ret :=
  (C f_s_l2Of [AVal.v (CVal.int IntKind.i64 a0)] []).bind fun r =>
    br (CVal.isAggN (5 : Nat) r.1)
      ((r.1.cell (0 : Nat)).bind fun c =>
        (r.1.cell (1 : Nat)).bind fun c_1 =>
          (r.1.cell (2 : Nat)).bind fun c_2 =>
            (r.1.cell (3 : Nat)).bind fun c_3 =>
              (r.1.cell (4 : Nat)).bind fun c_4 =>
                ((CVal.asInt IntKind.i64 c).bind fun n =>
                      br (!decide ((↑a6.length : Int) = n)) (some (true, PUnit.unit))
                        ((C f_s_l2Number
                              [AVal.v
                                  (CVal.agg
                                    [CVal.int IntKind.i64 a0, CVal.int IntKind.i64 a1, CVal.str a2, CVal.str a3,
                                      CVal.int IntKind.i64 a40, CVal.int IntKind.i64 a41, CVal.sl a42, CVal.sl a5,
                                      CVal.sl a6])]
                              []).bind
                          fun r =>
                          r.1.asBool.bind fun b =>
                            br (!b) (some (true, PUnit.unit))
                              ((C f_s_l2Name [AVal.v (CVal.str a2), AVal.v (CVal.bool false)] []).bind fun r =>
                                c_2.asBool.bind fun b =>
                                  r.1.asBool.bind fun b_1 =>
                                    br (!b == b_1) (some (true, PUnit.unit))
                                      (c_2.asBool.bind fun b =>
                                        br (!b)
                                          (br (!decide (a2 = [])) (some (true, PUnit.unit))
                                            ((C f_s_l2Name [AVal.v (CVal.str a3), AVal.v (CVal.bool false)] []).bind
                                              fun r =>
                                              c_3.asBool.bind fun b =>
                                                r.1.asBool.bind fun b_2 =>
                                                  br (!b == b_2) (some (true, PUnit.unit))
                                                    (c_3.asBool.bind fun b =>
                                                      br (!b)
                                                        (br (!decide (a3 = [])) (some (true, PUnit.unit))
                                                          (c_3.asBool.bind fun b =>
                                                            br b (some (decide (a2 = a3), PUnit.unit))
                                                              (some (false, PUnit.unit))))
                                                        (c_3.asBool.bind fun b =>
                                                          br b (some (decide (a2 = a3), PUnit.unit))
                                                            (some (false, PUnit.unit))))))
                                          ((C f_s_l2Name [AVal.v (CVal.str a3), AVal.v (CVal.bool false)] []).bind
                                            fun r =>
                                            c_3.asBool.bind fun b =>
                                              r.1.asBool.bind fun b_2 =>
                                                br (!b == b_2) (some (true, PUnit.unit))
                                                  (c_3.asBool.bind fun b =>
                                                    br (!b)
                                                      (br (!decide (a3 = [])) (some (true, PUnit.unit))
                                                        (c_3.asBool.bind fun b =>
                                                          br b (some (decide (a2 = a3), PUnit.unit))
                                                            (some (false, PUnit.unit))))
                                                      (c_3.asBool.bind fun b =>
                                                        br b (some (decide (a2 = a3), PUnit.unit))
                                                          (some (false, PUnit.unit))))))))).bind
                  fun y =>
                  br y.1 (some (CVal.bool false, []))
                    (((C f_s_TyOk [AVal.v (CVal.agg [CVal.int IntKind.i64 a40, CVal.int IntKind.i64 a41, CVal.sl a42])]
                              []).bind
                          fun r =>
                          c_4.asBool.bind fun b =>
                            r.1.asBool.bind fun b_1 =>
                              br (!b == b_1) (some (true, PUnit.unit))
                                (c_4.asBool.bind fun b =>
                                  br (!b)
                                    ((C f_s_SameTy
                                          [AVal.v
                                              (CVal.agg
                                                [CVal.int IntKind.i64 a40, CVal.int IntKind.i64 a41, CVal.sl a42]),
                                            AVal.v
                                              (CVal.agg
                                                [CVal.int IntKind.i64 (0 : Int), CVal.int IntKind.i64 (0 : Int),
                                                  CVal.sl []])]
                                          []).bind
                                      fun r =>
                                      r.1.asBool.bind fun b =>
                                        br (!b) (some (true, PUnit.unit))
                                          (br (decide ((2 : Int) < (↑a5.length : Int))) (some (true, PUnit.unit))
                                            (br (!decide (a0 = (3 : Int)))
                                              (some (decide ((0 : Int) < (↑a5.length : Int)), PUnit.unit))
                                              (some (false, PUnit.unit)))))
                                    (br (decide ((2 : Int) < (↑a5.length : Int))) (some (true, PUnit.unit))
                                      (br (!decide (a0 = (3 : Int)))
                                        (some (decide ((0 : Int) < (↑a5.length : Int)), PUnit.unit))
                                        (some (false, PUnit.unit)))))).bind
                      fun y =>
                      br y.1 (some (CVal.bool false, []))
                        ((L f_s_l2One (0 : Nat) lc_s_l2One_0 [] k_s_l2One_0
                              ((PUnit.unit, (0 : Int), PUnit.unit), (a0, a1, a2, a3, a40, a41, a42, a5, a6, PUnit.unit),
                                PUnit.unit)).bind
                          fun r =>
                          loK r (fun r => some r) fun j p =>
                            br (j == (0 : Nat))
                              ((br (!decide (p.snd.fst.1 = (7 : Int))) (some (true, PUnit.unit))
                                    (p.snd.fst.snd.snd.snd.snd.snd.snd.snd.snd.1[(0 : Nat)]?.bind fun y =>
                                      br (CVal.fits true (9 : Nat) y)
                                        ((y.cell (0 : Nat)).bind fun c =>
                                          (CVal.asInt IntKind.i64 c).bind fun n =>
                                            some (decide (n = (4 : Int)), PUnit.unit))
                                        none)).bind
                                fun y => some (CVal.bool y.1, []))
                              none)))
      none
theorem eq_s_l2One (C : CallT) (L : LoopT) (a0 : Int) (a1 : Int) (a2 : List UInt8) (a3 : List UInt8) (a40 : Int) (a41 : Int) (a42 : List CVal) (a5 : List CVal) (a6 : List CVal) : evF E N C L f_s_l2One [AVal.v
    (CVal.agg
      [CVal.int IntKind.i64 a0, CVal.int IntKind.i64 a1, CVal.str a2, CVal.str a3, CVal.int IntKind.i64 a40,
        CVal.int IntKind.i64 a41, CVal.sl a42, CVal.sl a5, CVal.sl a6])] [] = nf_s_l2One C L a0 a1 a2 a3 a40 a41 a42 a5 a6 := by kernel_rfl
theorem go_s_l2One (a0 : Int) (a1 : Int) (a2 : List UInt8) (a3 : List UInt8) (a40 : Int) (a41 : Int) (a42 : List CVal) (a5 : List CVal) (a6 : List CVal) (R : Ret) (h : nf_s_l2One CC LL a0 a1 a2 a3 a40 a41 a42 a5 a6 = some R) : CC f_s_l2One [AVal.v
    (CVal.agg
      [CVal.int IntKind.i64 a0, CVal.int IntKind.i64 a1, CVal.str a2, CVal.str a3, CVal.int IntKind.i64 a40,
        CVal.int IntKind.i64 a41, CVal.sl a42, CVal.sl a5, CVal.sl a6])] [] = some R := fnW (by decide) ((eq_s_l2One CC LL a0 a1 a2 a3 a40 a41 a42 a5 a6).trans h)
noncomputable def nf_l_toIntS (C : CallT) (L : LoopT) (a : List CVal) : Option Ret :=
  br (decide ((↑a.length : Int) = (↑a.length : Int)) && decide ((↑a.length : Int) ≤ (1048576 : Int)))
    ((L f_l_toIntS (0 : Nat) lc_l_toIntS_0 [] k_l_toIntS_0
          ((a, PUnit.unit, (0 : Int), PUnit.unit),
            List.replicate (↑a.length : Int).toNat (CVal.int IntKind.i64 (0 : Int)), PUnit.unit)).bind
      fun r => loK r (fun r => some r) fun j p => br (j == (0 : Nat)) (some (CVal.sl p.snd.1, [])) none)
    none
theorem eq_l_toIntS (C : CallT) (L : LoopT) (a : List CVal) : evF E N C L f_l_toIntS [AVal.v (CVal.sl a)] [] = nf_l_toIntS C L a := by kernel_rfl
theorem go_l_toIntS (a : List CVal) (R : Ret) (h : nf_l_toIntS CC LL a = some R) : CC f_l_toIntS [AVal.v (CVal.sl a)] [] = some R := fnW (by decide) ((eq_l_toIntS CC LL a).trans h)
noncomputable def nf_i_headOk_1 (C : CallT) (L : LoopT) (a0 : Int) (a1 : Int) (a2 : List CVal) : Option Ret :=
  (C f_i_TyOk [AVal.v (CVal.agg [CVal.int IntKind.i64 a0, CVal.int IntKind.i64 a1, CVal.sl a2])] []).bind fun r =>
    r.1.asBool.bind fun b => some (CVal.bool !b, [])
theorem eq_i_headOk_1 (C : CallT) (L : LoopT) (a0 : Int) (a1 : Int) (a2 : List CVal) : evF E N C L f_i_headOk_1 [AVal.v (CVal.agg [CVal.int IntKind.i64 a0, CVal.int IntKind.i64 a1, CVal.sl a2])] [] = nf_i_headOk_1 C L a0 a1 a2 := by kernel_rfl
theorem go_i_headOk_1 (a0 : Int) (a1 : Int) (a2 : List CVal) (R : Ret) (h : nf_i_headOk_1 CC LL a0 a1 a2 = some R) : CC f_i_headOk_1 [AVal.v (CVal.agg [CVal.int IntKind.i64 a0, CVal.int IntKind.i64 a1, CVal.sl a2])] [] = some R := fnW (by decide) ((eq_i_headOk_1 CC LL a0 a1 a2).trans h)
noncomputable def nl_s_SubstTy_0 (C : CallT) (L : LoopT) (x00 : List CVal) (x03 : Int) (x10 : Int) (x11 : Int) (x12 : List CVal) (x20 : Int) (x21 : Int) (x22 : List CVal) : Option (LO k_s_SubstTy_0.T) :=
  br (decide (x03 < (↑x00.length : Int)))
    (br (decide ((0 : Int) ≤ x03) && true)
      (x00[x03.toNat]?.bind fun y =>
        br (CVal.fits true (3 : Nat) y)
          ((y.sub (0 : Nat) (3 : Nat)).bind fun y =>
            (C f_s_TyOk [AVal.v y] []).bind fun r =>
              r.1.asBool.bind fun b =>
                br (!b)
                  (some
                    (LO.ret
                      (CVal.tup
                          [CVal.agg [CVal.int IntKind.i64 (0 : Int), CVal.int IntKind.i64 (0 : Int), CVal.sl []],
                            CVal.bool false],
                        [])))
                  (L f_s_SubstTy (0 : Nat) lc_s_SubstTy_0 [] k_s_SubstTy_0
                    ((x00, PUnit.unit, PUnit.unit, IntKind.i64.wrap (x03 + (1 : Int)), PUnit.unit),
                      (x10, x11, x12, PUnit.unit), (x20, x21, x22, PUnit.unit), PUnit.unit)))
          none)
      none)
    (some
      (LO.out (0 : Nat)
        ((x00, PUnit.unit, PUnit.unit, x03, PUnit.unit), (x10, x11, x12, PUnit.unit), (x20, x21, x22, PUnit.unit),
          PUnit.unit)))
theorem el_s_SubstTy_0 (C : CallT) (L : LoopT) (x00 : List CVal) (x03 : Int) (x10 : Int) (x11 : Int) (x12 : List CVal) (x20 : Int) (x21 : Int) (x22 : List CVal) : evL E N C L f_s_SubstTy 0 lc_s_SubstTy_0 [] k_s_SubstTy_0 ((x00, (), (), x03, ()), (x10, x11, x12, ()), (x20, x21, x22, ()), ()) = nl_s_SubstTy_0 C L x00 x03 x10 x11 x12 x20 x21 x22 := by kernel_rfl
theorem gl_s_SubstTy_0 (x00 : List CVal) (x03 : Int) (x10 : Int) (x11 : Int) (x12 : List CVal) (x20 : Int) (x21 : Int) (x22 : List CVal) (R : LO k_s_SubstTy_0.T) (h : nl_s_SubstTy_0 CC LL x00 x03 x10 x11 x12 x20 x21 x22 = some R) : LL f_s_SubstTy 0 lc_s_SubstTy_0 [] k_s_SubstTy_0 ((x00, (), (), x03, ()), (x10, x11, x12, ()), (x20, x21, x22, ()), ()) = some R := loopW ((el_s_SubstTy_0 CC LL x00 x03 x10 x11 x12 x20 x21 x22).trans h)
noncomputable def nl_l_eqTermS_0 (C : CallT) (L : LoopT) (x00 : List CVal) (x01 : List CVal) (x02 : Int) : Option (LO k_l_eqTermS_0.T) :=
  br (decide (x02 < (↑x00.length : Int)))
    (br (decide ((0 : Int) ≤ x02) && true)
      (x00[x02.toNat]?.bind fun y =>
        br (CVal.fits true (9 : Nat) y)
          ((y.sub (0 : Nat) (9 : Nat)).bind fun y =>
            br (decide ((0 : Int) ≤ x02) && true)
              (x01[x02.toNat]?.bind fun y_1 =>
                br (CVal.fits true (9 : Nat) y_1)
                  ((y_1.sub (0 : Nat) (9 : Nat)).bind fun y_2 =>
                    (C f_l_eqTerm [AVal.v y, AVal.v y_2] []).bind fun r =>
                      r.1.asBool.bind fun b =>
                        br (!b) (some (LO.ret (CVal.bool false, [])))
                          (L f_l_eqTermS (0 : Nat) lc_l_eqTermS_0 [] k_l_eqTermS_0
                            ((x00, x01, IntKind.i64.wrap (x02 + (1 : Int)), PUnit.unit), PUnit.unit)))
                  none)
              none)
          none)
      none)
    (some (LO.out (0 : Nat) ((x00, x01, x02, PUnit.unit), PUnit.unit)))
theorem el_l_eqTermS_0 (C : CallT) (L : LoopT) (x00 : List CVal) (x01 : List CVal) (x02 : Int) : evL E N C L f_l_eqTermS 0 lc_l_eqTermS_0 [] k_l_eqTermS_0 ((x00, x01, x02, ()), ()) = nl_l_eqTermS_0 C L x00 x01 x02 := by kernel_rfl
theorem gl_l_eqTermS_0 (x00 : List CVal) (x01 : List CVal) (x02 : Int) (R : LO k_l_eqTermS_0.T) (h : nl_l_eqTermS_0 CC LL x00 x01 x02 = some R) : LL f_l_eqTermS 0 lc_l_eqTermS_0 [] k_l_eqTermS_0 ((x00, x01, x02, ()), ()) = some R := loopW ((el_l_eqTermS_0 CC LL x00 x01 x02).trans h)
noncomputable def nl_slices_EqualFunc_Term_0 (C : CallT) (L : LoopT) (x00 : List CVal) (x01 : CVal) (x02 : List CVal) (x03 : Int) (x04 : Int) : Option (LO k_slices_EqualFunc_Term_0.T) :=
  br (decide (x04 < x03))
    (br (decide ((0 : Int) ≤ x04) && true)
      (x02[x04.toNat]?.bind fun y =>
        br (CVal.fits true (9 : Nat) y)
          ((y.sub (0 : Nat) (9 : Nat)).bind fun y =>
            br (CVal.isAggN (9 : Nat) y)
              ((y.cell (0 : Nat)).bind fun c =>
                (y.cell (1 : Nat)).bind fun c_1 =>
                  (y.cell (2 : Nat)).bind fun c_2 =>
                    (y.cell (3 : Nat)).bind fun c_3 =>
                      (y.cell (4 : Nat)).bind fun c_4 =>
                        (y.cell (5 : Nat)).bind fun c_5 =>
                          (y.cell (6 : Nat)).bind fun c_6 =>
                            (y.cell (7 : Nat)).bind fun c_7 =>
                              (y.cell (8 : Nat)).bind fun c_8 =>
                                br (decide ((0 : Int) ≤ x04) && true)
                                  (x00[x04.toNat]?.bind fun y =>
                                    br (CVal.fits true (9 : Nat) y)
                                      ((y.sub (0 : Nat) (9 : Nat)).bind fun y =>
                                        br (CVal.isAggN (9 : Nat) y)
                                          ((y.cell (0 : Nat)).bind fun c_9 =>
                                            (y.cell (1 : Nat)).bind fun c_10 =>
                                              (y.cell (2 : Nat)).bind fun c_11 =>
                                                (y.cell (3 : Nat)).bind fun c_12 =>
                                                  (y.cell (4 : Nat)).bind fun c_13 =>
                                                    (y.cell (5 : Nat)).bind fun c_14 =>
                                                      (y.cell (6 : Nat)).bind fun c_15 =>
                                                        (y.cell (7 : Nat)).bind fun c_16 =>
                                                          (y.cell (8 : Nat)).bind fun c_17 =>
                                                            (C apId
                                                                  [AVal.v x01,
                                                                    AVal.v
                                                                      (CVal.agg
                                                                        [c, c_1, c_2, c_3, c_4, c_5, c_6, c_7, c_8]),
                                                                    AVal.v
                                                                      (CVal.agg
                                                                        [c_9, c_10, c_11, c_12, c_13, c_14, c_15, c_16,
                                                                          c_17])]
                                                                  []).bind
                                                              fun r =>
                                                              r.1.asBool.bind fun b =>
                                                                br (!b) (some (LO.ret (CVal.bool false, [])))
                                                                  (L f_slices_EqualFunc_Term (0 : Nat)
                                                                    lc_slices_EqualFunc_Term_0 []
                                                                    k_slices_EqualFunc_Term_0
                                                                    ((x00, x01, x02, x03,
                                                                        IntKind.i64.wrap (x04 + (1 : Int)), PUnit.unit),
                                                                      PUnit.unit)))
                                          none)
                                      none)
                                  none)
              none)
          none)
      none)
    (some (LO.out (0 : Nat) ((x00, x01, x02, x03, x04, PUnit.unit), PUnit.unit)))
theorem el_slices_EqualFunc_Term_0 (C : CallT) (L : LoopT) (x00 : List CVal) (x01 : CVal) (x02 : List CVal) (x03 : Int) (x04 : Int) : evL E N C L f_slices_EqualFunc_Term 0 lc_slices_EqualFunc_Term_0 [] k_slices_EqualFunc_Term_0 ((x00, x01, x02, x03, x04, ()), ()) = nl_slices_EqualFunc_Term_0 C L x00 x01 x02 x03 x04 := by kernel_rfl
theorem gl_slices_EqualFunc_Term_0 (x00 : List CVal) (x01 : CVal) (x02 : List CVal) (x03 : Int) (x04 : Int) (R : LO k_slices_EqualFunc_Term_0.T) (h : nl_slices_EqualFunc_Term_0 CC LL x00 x01 x02 x03 x04 = some R) : LL f_slices_EqualFunc_Term 0 lc_slices_EqualFunc_Term_0 [] k_slices_EqualFunc_Term_0 ((x00, x01, x02, x03, x04, ()), ()) = some R := loopW ((el_slices_EqualFunc_Term_0 CC LL x00 x01 x02 x03 x04).trans h)
noncomputable def nl_s_l5Mono_0 (C : CallT) (L : LoopT) (x01 : Int) (x10 : Int) (x11 : Int) (x12 : List UInt8) (x13 : List UInt8) (x14 : Int) (x15 : Int) (x16 : List CVal) (x17 : List CVal) (x18 : List CVal) : Option (LO k_s_l5Mono_0.T) :=
  br (decide (x01 < (↑x18.length : Int)))
    (br (decide ((0 : Int) ≤ x01) && true)
      (x18[x01.toNat]?.bind fun y =>
        br (CVal.fits true (9 : Nat) y)
          ((y.sub (0 : Nat) (9 : Nat)).bind fun y =>
            (C f_s_l5Mono [AVal.v y] []).bind fun r =>
              r.1.asBool.bind fun b =>
                br (!b) (some (LO.ret (CVal.bool false, [])))
                  (L f_s_l5Mono (0 : Nat) lc_s_l5Mono_0 [] k_s_l5Mono_0
                    ((PUnit.unit, IntKind.i64.wrap (x01 + (1 : Int)), PUnit.unit),
                      (x10, x11, x12, x13, x14, x15, x16, x17, x18, PUnit.unit), PUnit.unit)))
          none)
      none)
    (some
      (LO.out (0 : Nat)
        ((PUnit.unit, x01, PUnit.unit), (x10, x11, x12, x13, x14, x15, x16, x17, x18, PUnit.unit), PUnit.unit)))
theorem el_s_l5Mono_0 (C : CallT) (L : LoopT) (x01 : Int) (x10 : Int) (x11 : Int) (x12 : List UInt8) (x13 : List UInt8) (x14 : Int) (x15 : Int) (x16 : List CVal) (x17 : List CVal) (x18 : List CVal) : evL E N C L f_s_l5Mono 0 lc_s_l5Mono_0 [] k_s_l5Mono_0 (((), x01, ()), (x10, x11, x12, x13, x14, x15, x16, x17, x18, ()), ()) = nl_s_l5Mono_0 C L x01 x10 x11 x12 x13 x14 x15 x16 x17 x18 := by kernel_rfl
theorem gl_s_l5Mono_0 (x01 : Int) (x10 : Int) (x11 : Int) (x12 : List UInt8) (x13 : List UInt8) (x14 : Int) (x15 : Int) (x16 : List CVal) (x17 : List CVal) (x18 : List CVal) (R : LO k_s_l5Mono_0.T) (h : nl_s_l5Mono_0 CC LL x01 x10 x11 x12 x13 x14 x15 x16 x17 x18 = some R) : LL f_s_l5Mono 0 lc_s_l5Mono_0 [] k_s_l5Mono_0 (((), x01, ()), (x10, x11, x12, x13, x14, x15, x16, x17, x18, ()), ()) = some R := loopW ((el_s_l5Mono_0 CC LL x01 x10 x11 x12 x13 x14 x15 x16 x17 x18).trans h)
noncomputable def nl_s_l2Name_0 (C : CallT) (L : LoopT) (x00 : List UInt8) (x01 : Bool) (x02 : Int) : Option (LO k_s_l2Name_0.T) :=
  br (decide (x02 < (↑x00.length : Int)))
    (br (decide ((0 : Int) ≤ x02))
      (x00[x02.toNat]?.bind fun y =>
        ((C f_s_l1In
                  [AVal.v (CVal.int IntKind.i64 (IntKind.i64.wrap (↑y.toNat : Int))),
                    AVal.v (CVal.int IntKind.i64 (97 : Int)), AVal.v (CVal.int IntKind.i64 (122 : Int))]
                  []).bind
              fun r =>
              r.1.asBool.bind fun b =>
                br (!b)
                  ((C f_s_l1In
                        [AVal.v (CVal.int IntKind.i64 (IntKind.i64.wrap (↑y.toNat : Int))),
                          AVal.v (CVal.int IntKind.i64 (48 : Int)), AVal.v (CVal.int IntKind.i64 (57 : Int))]
                        []).bind
                    fun r =>
                    r.1.asBool.bind fun b =>
                      br (!b)
                        (br x01 (some (true, PUnit.unit))
                          (some (!decide (IntKind.i64.wrap (↑y.toNat : Int) = (46 : Int)), PUnit.unit)))
                        (some (false, PUnit.unit)))
                  (some (false, PUnit.unit))).bind
          fun y =>
          br y.1 (some (LO.ret (CVal.bool false, [])))
            (L f_s_l2Name (0 : Nat) lc_s_l2Name_0 [] k_s_l2Name_0
              ((x00, x01, IntKind.i64.wrap (x02 + (1 : Int)), PUnit.unit), PUnit.unit)))
      none)
    (some (LO.out (0 : Nat) ((x00, x01, x02, PUnit.unit), PUnit.unit)))
theorem el_s_l2Name_0 (C : CallT) (L : LoopT) (x00 : List UInt8) (x01 : Bool) (x02 : Int) : evL E N C L f_s_l2Name 0 lc_s_l2Name_0 [] k_s_l2Name_0 ((x00, x01, x02, ()), ()) = nl_s_l2Name_0 C L x00 x01 x02 := by kernel_rfl
theorem gl_s_l2Name_0 (x00 : List UInt8) (x01 : Bool) (x02 : Int) (R : LO k_s_l2Name_0.T) (h : nl_s_l2Name_0 CC LL x00 x01 x02 = some R) : LL f_s_l2Name 0 lc_s_l2Name_0 [] k_s_l2Name_0 ((x00, x01, x02, ()), ()) = some R := loopW ((el_s_l2Name_0 CC LL x00 x01 x02).trans h)
end Go.Proofs.Ytdbgiclddcphfaa.Abs
