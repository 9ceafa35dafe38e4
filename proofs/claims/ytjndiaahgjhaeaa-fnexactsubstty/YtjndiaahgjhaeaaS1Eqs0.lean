/- What the functions come to in the abstract machine. -/
import Derived.Test.YtjndiaahgjhaeaaS1Ann
import Derived.KernelRfl
set_option linter.unusedVariables false
set_option maxRecDepth 100000
namespace Go.Proofs.Ytjndiaahgjhaeaa.Abs
open Go Go.Proofs
noncomputable def nf_l_FnExactSubstTy (C : CallT) (L : LoopT) (a0 : Int) (a1 : Int) (a2 : List CVal) (b : List CVal) : Option Ret :=
  (C f_l_szTy
        [AVal.v (CVal.agg [CVal.int IntKind.i64 a0, CVal.int IntKind.i64 a1, CVal.sl a2]),
          AVal.v (CVal.int IntKind.i64 (1048576 : Int))]
        []).bind
    fun r =>
    (CVal.asInt IntKind.i64 r.1).bind fun n =>
      br (decide (n < (0 : Int))) (some (CVal.bool true, []))
        ((C f_l_szTyS [AVal.v (CVal.sl b), AVal.v r.1] []).bind fun r =>
          (CVal.asInt IntKind.i64 r.1).bind fun n =>
            br (decide (n < (0 : Int))) (some (CVal.bool true, []))
              ((C f_l_toTy [AVal.v (CVal.agg [CVal.int IntKind.i64 a0, CVal.int IntKind.i64 a1, CVal.sl a2])] []).bind
                fun r =>
                (C f_l_toTyS [AVal.v (CVal.sl b)] []).bind fun r_1 =>
                  (C f_s_SubstTy [AVal.v r.1, AVal.v r_1.1] []).bind fun r =>
                    r.1.asTup.bind fun y =>
                      y[(0 : Nat)]?.bind fun y =>
                        r.1.asTup.bind fun y_1 =>
                          y_1[(1 : Nat)]?.bind fun y_2 =>
                            br (CVal.isAggN (3 : Nat) y)
                              ((y.cell (0 : Nat)).bind fun c =>
                                (y.cell (1 : Nat)).bind fun c_1 =>
                                  (y.cell (2 : Nat)).bind fun c_2 =>
                                    (C f_l_toTy
                                          [AVal.v
                                              (CVal.agg [CVal.int IntKind.i64 a0, CVal.int IntKind.i64 a1, CVal.sl a2])]
                                          []).bind
                                      fun r =>
                                      br (CVal.isAggN (3 : Nat) r.1)
                                        ((r.1.cell (0 : Nat)).bind fun c_3 =>
                                          (r.1.cell (1 : Nat)).bind fun c_4 =>
                                            (r.1.cell (2 : Nat)).bind fun c_5 =>
                                              c_5.asSl.bind fun xs =>
                                                (C f_l_toTyS [AVal.v (CVal.sl b)] []).bind fun r =>
                                                  br r.1.isFlat
                                                    (r.1.asSl.bind fun xs_1 =>
                                                      (C f_i_SubstTy
                                                            [AVal.v (CVal.agg [c_3, c_4, CVal.sl xs]),
                                                              AVal.v (CVal.sl xs_1)]
                                                            []).bind
                                                        fun r =>
                                                        br (!r.1.plain) none
                                                          (r.1.asTup.bind fun y =>
                                                            y[(0 : Nat)]?.bind fun y_3 =>
                                                              y[(1 : Nat)]?.bind fun y =>
                                                                br (CVal.isAggN (3 : Nat) y_3)
                                                                  ((y_3.cell (0 : Nat)).bind fun c_6 =>
                                                                    (y_3.cell (1 : Nat)).bind fun c_7 =>
                                                                      (y_3.cell (2 : Nat)).bind fun c_8 =>
                                                                        c_8.asSl.bind fun xs_2 =>
                                                                          br y.isFlat
                                                                            (((C f_l_eqTy
                                                                                      [AVal.v
                                                                                          (CVal.agg
                                                                                            [c_6, c_7, CVal.sl xs_2]),
                                                                                        AVal.v (CVal.agg [c, c_1, c_2])]
                                                                                      []).bind
                                                                                  fun r =>
                                                                                  br (!scalar r.1) none
                                                                                    (r.1.asBool.bind fun b =>
                                                                                      br (!b) (some (true, PUnit.unit))
                                                                                        (y.asBool.bind fun b =>
                                                                                          y_2.asBool.bind fun b_1 =>
                                                                                            some
                                                                                              (!b == b_1,
                                                                                                PUnit.unit)))).bind
                                                                              fun y_4 =>
                                                                              br y_4.1 (some (CVal.bool false, []))
                                                                                ((C f_l_toTy
                                                                                      [AVal.v
                                                                                          (CVal.agg
                                                                                            [CVal.int IntKind.i64 a0,
                                                                                              CVal.int IntKind.i64 a1,
                                                                                              CVal.sl a2])]
                                                                                      []).bind
                                                                                  fun r =>
                                                                                  (C f_l_eqTy
                                                                                        [AVal.v
                                                                                            (CVal.agg
                                                                                              [c_3, c_4, CVal.sl xs]),
                                                                                          AVal.v r.1]
                                                                                        []).bind
                                                                                    fun r =>
                                                                                    br (!scalar r.1) none
                                                                                      (r.1.asBool.bind fun b_1 =>
                                                                                        br (!b_1)
                                                                                          (some (CVal.bool false, []))
                                                                                          ((C f_l_toTyS
                                                                                                [AVal.v (CVal.sl b)]
                                                                                                []).bind
                                                                                            fun r =>
                                                                                            (C f_l_eqTyS
                                                                                                  [AVal.v (CVal.sl xs_1),
                                                                                                    AVal.v r.1]
                                                                                                  []).bind
                                                                                              fun r =>
                                                                                              br (!scalar r.1) none
                                                                                                (r.1.asBool.bind
                                                                                                  fun b_2 =>
                                                                                                  br (!b_2)
                                                                                                    (some
                                                                                                      (CVal.bool false,
                                                                                                        []))
                                                                                                    ((C f_l_markTy
                                                                                                          [AVal.agg
                                                                                                              [AVal.v c_3,
                                                                                                                AVal.v
                                                                                                                  c_4,
                                                                                                                AVal.lref
                                                                                                                  (0 :
                                                                                                                    Nat)
                                                                                                                  (0 :
                                                                                                                    Nat)],
                                                                                                            AVal.v
                                                                                                              (CVal.int
                                                                                                                IntKind.i64
                                                                                                                (1 :
                                                                                                                  Int))]
                                                                                                          [PB.arr
                                                                                                              (Md.mk true
                                                                                                                true
                                                                                                                (0 : Nat))
                                                                                                              false
                                                                                                              (3 : Nat)
                                                                                                              xs]).bind
                                                                                                      fun r =>
                                                                                                      r.2[(0 : Nat)]?.bind
                                                                                                        fun y_5 =>
                                                                                                        (C f_l_markTyS
                                                                                                              [AVal.lref
                                                                                                                  (0 :
                                                                                                                    Nat)
                                                                                                                  (0 :
                                                                                                                    Nat),
                                                                                                                AVal.v
                                                                                                                  r.1]
                                                                                                              [PB.arr
                                                                                                                  (Md.mk
                                                                                                                    true
                                                                                                                    true
                                                                                                                    (0 :
                                                                                                                      Nat))
                                                                                                                  false
                                                                                                                  (3 :
                                                                                                                    Nat)
                                                                                                                  xs_1]).bind
                                                                                                          fun r =>
                                                                                                          r.2[(0 :
                                                                                                                  Nat)]?.bind
                                                                                                            fun y_6 =>
                                                                                                            ((CVal.asInt
                                                                                                                      IntKind.i64
                                                                                                                      r.1).bind
                                                                                                                  fun n =>
                                                                                                                  br
                                                                                                                    (decide
                                                                                                                      (n <
                                                                                                                        (0 :
                                                                                                                          Int)))
                                                                                                                    (some
                                                                                                                      (true,
                                                                                                                        PUnit.unit))
                                                                                                                    ((C
                                                                                                                          f_l_eqTy
                                                                                                                          [AVal.v
                                                                                                                              (CVal.agg
                                                                                                                                [c_6,
                                                                                                                                  c_7,
                                                                                                                                  CVal.sl
                                                                                                                                    xs_2]),
                                                                                                                            AVal.v
                                                                                                                              (CVal.agg
                                                                                                                                [c,
                                                                                                                                  c_1,
                                                                                                                                  c_2])]
                                                                                                                          []).bind
                                                                                                                      fun
                                                                                                                        r =>
                                                                                                                      br
                                                                                                                        (!scalar
                                                                                                                            r.1)
                                                                                                                        none
                                                                                                                        (r.1.asBool.bind
                                                                                                                          fun
                                                                                                                            b =>
                                                                                                                          br
                                                                                                                            (!b)
                                                                                                                            (some
                                                                                                                              (true,
                                                                                                                                PUnit.unit))
                                                                                                                            (y.asBool.bind
                                                                                                                              fun
                                                                                                                                b =>
                                                                                                                              y_2.asBool.bind
                                                                                                                                fun
                                                                                                                                  b_3 =>
                                                                                                                                some
                                                                                                                                  (!b ==
                                                                                                                                        b_3,
                                                                                                                                    PUnit.unit))))).bind
                                                                                                              fun y =>
                                                                                                              br y.1
                                                                                                                (some
                                                                                                                  (CVal.bool
                                                                                                                      false,
                                                                                                                    []))
                                                                                                                ((C
                                                                                                                      f_l_markTy
                                                                                                                      [AVal.agg
                                                                                                                          [AVal.v
                                                                                                                              c_6,
                                                                                                                            AVal.v
                                                                                                                              c_7,
                                                                                                                            AVal.lref
                                                                                                                              (0 :
                                                                                                                                Nat)
                                                                                                                              (0 :
                                                                                                                                Nat)],
                                                                                                                        AVal.v
                                                                                                                          (CVal.int
                                                                                                                            IntKind.i64
                                                                                                                            (1 :
                                                                                                                              Int))]
                                                                                                                      [PB.arr
                                                                                                                          (Md.mk
                                                                                                                            true
                                                                                                                            true
                                                                                                                            (0 :
                                                                                                                              Nat))
                                                                                                                          false
                                                                                                                          (3 :
                                                                                                                            Nat)
                                                                                                                          xs_2]).bind
                                                                                                                  fun r =>
                                                                                                                  r.2[(0 :
                                                                                                                          Nat)]?.bind
                                                                                                                    fun
                                                                                                                      y =>
                                                                                                                    (C
                                                                                                                          f_l_heldTy
                                                                                                                          [AVal.v
                                                                                                                              (CVal.agg
                                                                                                                                [c_6,
                                                                                                                                  c_7,
                                                                                                                                  CVal.sl
                                                                                                                                    y]),
                                                                                                                            AVal.v
                                                                                                                              (CVal.int
                                                                                                                                IntKind.i64
                                                                                                                                (1 :
                                                                                                                                  Int))]
                                                                                                                          []).bind
                                                                                                                      fun
                                                                                                                        r_2 =>
                                                                                                                      br
                                                                                                                        (!scalar
                                                                                                                            r_2.1)
                                                                                                                        none
                                                                                                                        ((CVal.asInt
                                                                                                                              IntKind.i64
                                                                                                                              r_2.1).bind
                                                                                                                          fun
                                                                                                                            n =>
                                                                                                                          br
                                                                                                                            (decide
                                                                                                                              (n <
                                                                                                                                (0 :
                                                                                                                                  Int)))
                                                                                                                            (some
                                                                                                                              (CVal.bool
                                                                                                                                  false,
                                                                                                                                []))
                                                                                                                            ((CVal.asInt
                                                                                                                                  IntKind.i64
                                                                                                                                  r_2.1).bind
                                                                                                                              fun
                                                                                                                                n =>
                                                                                                                              (CVal.asInt
                                                                                                                                    IntKind.i64
                                                                                                                                    r.1).bind
                                                                                                                                fun
                                                                                                                                  n_1 =>
                                                                                                                                br
                                                                                                                                  (!decide
                                                                                                                                      (n =
                                                                                                                                        n_1))
                                                                                                                                  (some
                                                                                                                                    (CVal.bool
                                                                                                                                        false,
                                                                                                                                      []))
                                                                                                                                  ((C
                                                                                                                                        f_l_toTy
                                                                                                                                        [AVal.v
                                                                                                                                            (CVal.agg
                                                                                                                                              [CVal.int
                                                                                                                                                  IntKind.i64
                                                                                                                                                  a0,
                                                                                                                                                CVal.int
                                                                                                                                                  IntKind.i64
                                                                                                                                                  a1,
                                                                                                                                                CVal.sl
                                                                                                                                                  a2])]
                                                                                                                                        []).bind
                                                                                                                                    fun
                                                                                                                                      r_3 =>
                                                                                                                                    (C
                                                                                                                                          f_l_toTyS
                                                                                                                                          [AVal.v
                                                                                                                                              (CVal.sl
                                                                                                                                                b)]
                                                                                                                                          []).bind
                                                                                                                                      fun
                                                                                                                                        r_4 =>
                                                                                                                                      (C
                                                                                                                                            f_i_SubstTy
                                                                                                                                            [AVal.v
                                                                                                                                                r_3.1,
                                                                                                                                              AVal.v
                                                                                                                                                r_4.1]
                                                                                                                                            []).bind
                                                                                                                                        fun
                                                                                                                                          r_5 =>
                                                                                                                                        r_5.1.asTup.bind
                                                                                                                                          fun
                                                                                                                                            y_7 =>
                                                                                                                                          y_7[(0 :
                                                                                                                                                  Nat)]?.bind
                                                                                                                                            fun
                                                                                                                                              y_8 =>
                                                                                                                                            y_7[(1 :
                                                                                                                                                    Nat)]?.bind
                                                                                                                                              fun
                                                                                                                                                y_9 =>
                                                                                                                                              br
                                                                                                                                                (CVal.isAggN
                                                                                                                                                  (3 :
                                                                                                                                                    Nat)
                                                                                                                                                  y_8)
                                                                                                                                                ((y_8.cell
                                                                                                                                                      (0 :
                                                                                                                                                        Nat)).bind
                                                                                                                                                  fun
                                                                                                                                                    c_9 =>
                                                                                                                                                  (y_8.cell
                                                                                                                                                        (1 :
                                                                                                                                                          Nat)).bind
                                                                                                                                                    fun
                                                                                                                                                      c_10 =>
                                                                                                                                                    (y_8.cell
                                                                                                                                                          (2 :
                                                                                                                                                            Nat)).bind
                                                                                                                                                      fun
                                                                                                                                                        c_11 =>
                                                                                                                                                      c_11.asSl.bind
                                                                                                                                                        fun
                                                                                                                                                          xs =>
                                                                                                                                                        br
                                                                                                                                                          y_9.isFlat
                                                                                                                                                          (((C
                                                                                                                                                                    f_l_eqTy
                                                                                                                                                                    [AVal.v
                                                                                                                                                                        (CVal.agg
                                                                                                                                                                          [c_9,
                                                                                                                                                                            c_10,
                                                                                                                                                                            CVal.sl
                                                                                                                                                                              xs]),
                                                                                                                                                                      AVal.v
                                                                                                                                                                        (CVal.agg
                                                                                                                                                                          [c,
                                                                                                                                                                            c_1,
                                                                                                                                                                            c_2])]
                                                                                                                                                                    []).bind
                                                                                                                                                                fun
                                                                                                                                                                  r =>
                                                                                                                                                                br
                                                                                                                                                                  (!scalar
                                                                                                                                                                      r.1)
                                                                                                                                                                  none
                                                                                                                                                                  (r.1.asBool.bind
                                                                                                                                                                    fun
                                                                                                                                                                      b =>
                                                                                                                                                                    br
                                                                                                                                                                      (!b)
                                                                                                                                                                      (some
                                                                                                                                                                        (true,
                                                                                                                                                                          PUnit.unit))
                                                                                                                                                                      (y_9.asBool.bind
                                                                                                                                                                        fun
                                                                                                                                                                          b =>
                                                                                                                                                                        y_2.asBool.bind
                                                                                                                                                                          fun
                                                                                                                                                                            b_3 =>
                                                                                                                                                                          some
                                                                                                                                                                            (!b ==
                                                                                                                                                                                  b_3,
                                                                                                                                                                              PUnit.unit)))).bind
                                                                                                                                                            fun
                                                                                                                                                              y_10 =>
                                                                                                                                                            br
                                                                                                                                                              y_10.1
                                                                                                                                                              (some
                                                                                                                                                                (CVal.bool
                                                                                                                                                                    false,
                                                                                                                                                                  []))
                                                                                                                                                              ((C
                                                                                                                                                                    f_l_heldTy
                                                                                                                                                                    [AVal.v
                                                                                                                                                                        (CVal.agg
                                                                                                                                                                          [c_6,
                                                                                                                                                                            c_7,
                                                                                                                                                                            CVal.sl
                                                                                                                                                                              y]),
                                                                                                                                                                      AVal.v
                                                                                                                                                                        (CVal.int
                                                                                                                                                                          IntKind.i64
                                                                                                                                                                          (1 :
                                                                                                                                                                            Int))]
                                                                                                                                                                    []).bind
                                                                                                                                                                fun
                                                                                                                                                                  r_6 =>
                                                                                                                                                                br
                                                                                                                                                                  (!scalar
                                                                                                                                                                      r_6.1)
                                                                                                                                                                  none
                                                                                                                                                                  ((CVal.asInt
                                                                                                                                                                        IntKind.i64
                                                                                                                                                                        r_6.1).bind
                                                                                                                                                                    fun
                                                                                                                                                                      n =>
                                                                                                                                                                    br
                                                                                                                                                                      (decide
                                                                                                                                                                        (n <
                                                                                                                                                                          (0 :
                                                                                                                                                                            Int)))
                                                                                                                                                                      (some
                                                                                                                                                                        (CVal.bool
                                                                                                                                                                            false,
                                                                                                                                                                          []))
                                                                                                                                                                      ((CVal.asInt
                                                                                                                                                                            IntKind.i64
                                                                                                                                                                            r_6.1).bind
                                                                                                                                                                        fun
                                                                                                                                                                          n =>
                                                                                                                                                                        (CVal.asInt
                                                                                                                                                                              IntKind.i64
                                                                                                                                                                              r.1).bind
                                                                                                                                                                          fun
                                                                                                                                                                            n_2 =>
                                                                                                                                                                          br
                                                                                                                                                                            (!decide
                                                                                                                                                                                (n =
                                                                                                                                                                                  n_2))
                                                                                                                                                                            (some
                                                                                                                                                                              (CVal.bool
                                                                                                                                                                                  false,
                                                                                                                                                                                []))
                                                                                                                                                                            (some
                                                                                                                                                                              (CVal.bool
                                                                                                                                                                                  true,
                                                                                                                                                                                []))))))
                                                                                                                                                          none)
                                                                                                                                                none))))))))))
                                                                            none)
                                                                  none))
                                                    none)
                                        none)
                              none))
theorem eq_l_FnExactSubstTy (C : CallT) (L : LoopT) (a0 : Int) (a1 : Int) (a2 : List CVal) (b : List CVal) : evF E N C L f_l_FnExactSubstTy [AVal.v (CVal.agg [CVal.int IntKind.i64 a0, CVal.int IntKind.i64 a1, CVal.sl a2]), AVal.v (CVal.sl b)] [] = nf_l_FnExactSubstTy C L a0 a1 a2 b := by kernel_rfl
theorem go_l_FnExactSubstTy (a0 : Int) (a1 : Int) (a2 : List CVal) (b : List CVal) (R : Ret) (h : nf_l_FnExactSubstTy CC LL a0 a1 a2 b = some R) : CC f_l_FnExactSubstTy [AVal.v (CVal.agg [CVal.int IntKind.i64 a0, CVal.int IntKind.i64 a1, CVal.sl a2]), AVal.v (CVal.sl b)] [] = some R := fnW (by decide) rfl ((eq_l_FnExactSubstTy CC LL a0 a1 a2 b).trans h)
noncomputable def nf_l_toTyS (C : CallT) (L : LoopT) (a : List CVal) : Option Ret :=
  br (decide ((↑a.length : Int) = (↑a.length : Int)) && decide ((↑a.length : Int) ≤ (1048576 : Int)))
    ((L f_l_toTyS (0 : Nat) lc_l_toTyS_0 [] k_l_toTyS_0
          ((a, PUnit.unit, (0 : Int), PUnit.unit),
            List.replicate (↑a.length : Int).toNat
              (CVal.agg [CVal.int IntKind.i64 (0 : Int), CVal.int IntKind.i64 (0 : Int), CVal.sl []]),
            PUnit.unit)).bind
      fun r => loK r (fun r => some r) fun j p => br (j == (0 : Nat)) (some (CVal.sl p.snd.1, [])) none)
    none
theorem eq_l_toTyS (C : CallT) (L : LoopT) (a : List CVal) : evF E N C L f_l_toTyS [AVal.v (CVal.sl a)] [] = nf_l_toTyS C L a := by kernel_rfl
theorem go_l_toTyS (a : List CVal) (R : Ret) (h : nf_l_toTyS CC LL a = some R) : CC f_l_toTyS [AVal.v (CVal.sl a)] [] = some R := fnW (by decide) rfl ((eq_l_toTyS CC LL a).trans h)
noncomputable def nf_l_eqTyS (C : CallT) (L : LoopT) (a : List CVal) (b : List CVal) : Option Ret :=
  br (!decide ((↑a.length : Int) = (↑b.length : Int))) (some (CVal.bool false, []))
    ((L f_l_eqTyS (0 : Nat) lc_l_eqTyS_0 [] k_l_eqTyS_0 ((a, b, (0 : Int), PUnit.unit), PUnit.unit)).bind fun r =>
      loK r (fun r => some r) fun j p => br (j == (0 : Nat)) (some (CVal.bool true, [])) none)
theorem eq_l_eqTyS (C : CallT) (L : LoopT) (a : List CVal) (b : List CVal) : evF E N C L f_l_eqTyS [AVal.v (CVal.sl a), AVal.v (CVal.sl b)] [] = nf_l_eqTyS C L a b := by kernel_rfl
theorem go_l_eqTyS (a : List CVal) (b : List CVal) (R : Ret) (h : nf_l_eqTyS CC LL a b = some R) : CC f_l_eqTyS [AVal.v (CVal.sl a), AVal.v (CVal.sl b)] [] = some R := fnW (by decide) rfl ((eq_l_eqTyS CC LL a b).trans h)
noncomputable def nf_s_TyOk (C : CallT) (L : LoopT) (a0 : Int) (a1 : Int) (a2 : List CVal) : Option Ret :=
  (C f_s_l1Look
        [AVal.v (CVal.agg [CVal.int IntKind.i64 a0, CVal.int IntKind.i64 a1, CVal.sl a2]),
          AVal.v (CVal.int IntKind.i64 (6 : Int)), AVal.lptr (0 : Nat) (0 : Nat)]
        [PB.box [AVal.v (CVal.int IntKind.i64 (0 : Int))]]).bind
    fun r => r.2[(0 : Nat)]?.bind fun y => y[(0 : Nat)]?.bind fun y => some (r.1, [])
theorem eq_s_TyOk (C : CallT) (L : LoopT) (a0 : Int) (a1 : Int) (a2 : List CVal) : evF E N C L f_s_TyOk [AVal.v (CVal.agg [CVal.int IntKind.i64 a0, CVal.int IntKind.i64 a1, CVal.sl a2])] [] = nf_s_TyOk C L a0 a1 a2 := by kernel_rfl
theorem go_s_TyOk (a0 : Int) (a1 : Int) (a2 : List CVal) (R : Ret) (h : nf_s_TyOk CC LL a0 a1 a2 = some R) : CC f_s_TyOk [AVal.v (CVal.agg [CVal.int IntKind.i64 a0, CVal.int IntKind.i64 a1, CVal.sl a2])] [] = some R := fnW (by decide) rfl ((eq_s_TyOk CC LL a0 a1 a2).trans h)
noncomputable def nf_slices_ContainsFunc_Ty (C : CallT) (L : LoopT) (a : List CVal) (b : CVal) : Option Ret :=
  (C f_slices_IndexFunc_Ty [AVal.v (CVal.sl a), AVal.v b] []).bind fun r =>
    (CVal.asInt IntKind.i64 r.1).bind fun n => some (CVal.bool (decide ((0 : Int) ≤ n)), [])
theorem eq_slices_ContainsFunc_Ty (C : CallT) (L : LoopT) (a : List CVal) (b : CVal) : evF E N C L f_slices_ContainsFunc_Ty [AVal.v (CVal.sl a), AVal.v b] [] = nf_slices_ContainsFunc_Ty C L a b := by kernel_rfl
theorem go_slices_ContainsFunc_Ty (a : List CVal) (b : CVal) (R : Ret) (h : nf_slices_ContainsFunc_Ty CC LL a b = some R) : CC f_slices_ContainsFunc_Ty [AVal.v (CVal.sl a), AVal.v b] [] = some R := fnW (by decide) rfl ((eq_slices_ContainsFunc_Ty CC LL a b).trans h)
noncomputable def nf_l_heldTyS (C : CallT) (L : LoopT) (a : List CVal) (b : Int) : Option Ret :=
  (L f_l_heldTyS (0 : Nat) lc_l_heldTyS_0 [] k_l_heldTyS_0 ((a, b, (0 : Int), PUnit.unit), PUnit.unit)).bind fun r =>
    loK r (fun r => some r) fun j p => br (j == (0 : Nat)) (some (CVal.int IntKind.i64 p.fst.snd.1, [])) none
theorem eq_l_heldTyS (C : CallT) (L : LoopT) (a : List CVal) (b : Int) : evF E N C L f_l_heldTyS [AVal.v (CVal.sl a), AVal.v (CVal.int IntKind.i64 b)] [] = nf_l_heldTyS C L a b := by kernel_rfl
theorem go_l_heldTyS (a : List CVal) (b : Int) (R : Ret) (h : nf_l_heldTyS CC LL a b = some R) : CC f_l_heldTyS [AVal.v (CVal.sl a), AVal.v (CVal.int IntKind.i64 b)] [] = some R := fnW (by decide) rfl ((eq_l_heldTyS CC LL a b).trans h)
noncomputable def nf_slices_IndexFunc_Ty (C : CallT) (L : LoopT) (a : List CVal) (b : CVal) : Option Ret :=
  (L f_slices_IndexFunc_Ty (0 : Nat) lc_slices_IndexFunc_Ty_0 [] k_slices_IndexFunc_Ty_0
        ((a, b, (↑a.length : Int), (0 : Int), PUnit.unit), PUnit.unit)).bind
    fun r => loK r (fun r => some r) fun j p => br (j == (0 : Nat)) (some (CVal.int IntKind.i64 (-1 : Int), [])) none
theorem eq_slices_IndexFunc_Ty (C : CallT) (L : LoopT) (a : List CVal) (b : CVal) : evF E N C L f_slices_IndexFunc_Ty [AVal.v (CVal.sl a), AVal.v b] [] = nf_slices_IndexFunc_Ty C L a b := by kernel_rfl
theorem go_slices_IndexFunc_Ty (a : List CVal) (b : CVal) (R : Ret) (h : nf_slices_IndexFunc_Ty CC LL a b = some R) : CC f_slices_IndexFunc_Ty [AVal.v (CVal.sl a), AVal.v b] [] = some R := fnW (by decide) rfl ((eq_slices_IndexFunc_Ty CC LL a b).trans h)
noncomputable def nf_s_l1In (C : CallT) (L : LoopT) (a : Int) (b : Int) (c : Int) : Option Ret :=
  (br (decide (b ≤ a)) (some (decide (a ≤ c), PUnit.unit)) (some (false, PUnit.unit))).bind fun y =>
    some (CVal.bool y.1, [])
theorem eq_s_l1In (C : CallT) (L : LoopT) (a : Int) (b : Int) (c : Int) : evF E N C L f_s_l1In [AVal.v (CVal.int IntKind.i64 a), AVal.v (CVal.int IntKind.i64 b), AVal.v (CVal.int IntKind.i64 c)] [] = nf_s_l1In C L a b c := by kernel_rfl
theorem go_s_l1In (a : Int) (b : Int) (c : Int) (R : Ret) (h : nf_s_l1In CC LL a b c = some R) : CC f_s_l1In [AVal.v (CVal.int IntKind.i64 a), AVal.v (CVal.int IntKind.i64 b), AVal.v (CVal.int IntKind.i64 c)] [] = some R := fnW (by decide) rfl ((eq_s_l1In CC LL a b c).trans h)
noncomputable def nl_s_SubstTy_0 (C : CallT) (L : LoopT) (x00 : List CVal) (x03 : Int) (x10 : Int) (x11 : Int) (x12 : List CVal) (x20 : Int) (x21 : Int) (x3 : List CVal) : Option (LO k_s_SubstTy_0.T) :=
  br (decide (x03 < (↑x00.length : Int)))
    (br (decide ((0 : Int) ≤ x03) && true)
      (x00[x03.toNat]?.bind fun y =>
        br (CVal.fits true (3 : Nat) y)
          ((y.sub (0 : Nat) (3 : Nat)).bind fun y =>
            (C f_s_TyOk [AVal.v y] []).bind fun r =>
              r.1.asBool.bind fun b =>
                br (!b)
                  (some
                    (LO.ret
                      (CVal.tup
                          [CVal.agg [CVal.int IntKind.i64 (0 : Int), CVal.int IntKind.i64 (0 : Int), CVal.sl []],
                            CVal.bool false],
                        [])))
                  (L f_s_SubstTy (0 : Nat) lc_s_SubstTy_0 [] k_s_SubstTy_0
                    ((x00, PUnit.unit, PUnit.unit, IntKind.i64.wrap (x03 + (1 : Int)), PUnit.unit),
                      (x10, x11, x12, PUnit.unit), (x20, x21, PUnit.unit, PUnit.unit), x3, PUnit.unit)))
          none)
      none)
    (some
      (LO.out (0 : Nat)
        ((x00, PUnit.unit, PUnit.unit, x03, PUnit.unit), (x10, x11, x12, PUnit.unit), (x20, x21, PUnit.unit, PUnit.unit),
          x3, PUnit.unit)))
theorem el_s_SubstTy_0 (C : CallT) (L : LoopT) (x00 : List CVal) (x03 : Int) (x10 : Int) (x11 : Int) (x12 : List CVal) (x20 : Int) (x21 : Int) (x3 : List CVal) : evL E N C L f_s_SubstTy 0 lc_s_SubstTy_0 [] k_s_SubstTy_0 ((x00, (), (), x03, ()), (x10, x11, x12, ()), (x20, x21, (), ()), x3, ()) = nl_s_SubstTy_0 C L x00 x03 x10 x11 x12 x20 x21 x3 := by kernel_rfl
theorem gl_s_SubstTy_0 (x00 : List CVal) (x03 : Int) (x10 : Int) (x11 : Int) (x12 : List CVal) (x20 : Int) (x21 : Int) (x3 : List CVal) (R : LO k_s_SubstTy_0.T) (h : nl_s_SubstTy_0 CC LL x00 x03 x10 x11 x12 x20 x21 x3 = some R) : LL f_s_SubstTy 0 lc_s_SubstTy_0 [] k_s_SubstTy_0 ((x00, (), (), x03, ()), (x10, x11, x12, ()), (x20, x21, (), ()), x3, ()) = some R := loopW ((el_s_SubstTy_0 CC LL x00 x03 x10 x11 x12 x20 x21 x3).trans h)
noncomputable def nl_s_l1Put_0 (C : CallT) (L : LoopT) (x00 : List CVal) (x04 : Int) (x10 : Int) (x11 : Int) (x12 : List CVal) (x20 : Int) (x21 : Int) (x3 : List CVal) (x40 : Int) (x41 : Int) (x5 : List CVal) : Option (LO k_s_l1Put_0.T) :=
  br (decide (x04 < (↑x12.length : Int)))
    (br (decide ((0 : Int) ≤ x04) && true)
      (x12[x04.toNat]?.bind fun y =>
        br (CVal.fits true (3 : Nat) y)
          ((y.sub (0 : Nat) (3 : Nat)).bind fun y =>
            (C f_s_l1Put [AVal.v y, AVal.v (CVal.sl x00)] []).bind fun r =>
              br (CVal.isAggN (3 : Nat) r.1)
                ((r.1.cell (0 : Nat)).bind fun c =>
                  (r.1.cell (1 : Nat)).bind fun c_1 =>
                    (r.1.cell (2 : Nat)).bind fun c_2 =>
                      c_2.asSl.bind fun xs =>
                        (CVal.asInt IntKind.i64 c).bind fun n =>
                          (CVal.asInt IntKind.i64 c_1).bind fun n_1 =>
                            br (decide (x5.length + (1 : Nat) ≤ (4294967296 : Nat)) && true && true)
                              (L f_s_l1Put (0 : Nat) lc_s_l1Put_0 [] k_s_l1Put_0
                                ((x00, PUnit.unit, PUnit.unit, PUnit.unit, IntKind.i64.wrap (x04 + (1 : Int)),
                                    PUnit.unit),
                                  (x10, x11, x12, PUnit.unit), (x20, x21, PUnit.unit, PUnit.unit), x3,
                                  (x40, x41, PUnit.unit, PUnit.unit),
                                  x5 ++ [CVal.agg [CVal.int IntKind.i64 n, CVal.int IntKind.i64 n_1, CVal.sl xs]],
                                  PUnit.unit))
                              none)
                none)
          none)
      none)
    (some
      (LO.out (0 : Nat)
        ((x00, PUnit.unit, PUnit.unit, PUnit.unit, x04, PUnit.unit), (x10, x11, x12, PUnit.unit),
          (x20, x21, PUnit.unit, PUnit.unit), x3, (x40, x41, PUnit.unit, PUnit.unit), x5, PUnit.unit)))
theorem el_s_l1Put_0 (C : CallT) (L : LoopT) (x00 : List CVal) (x04 : Int) (x10 : Int) (x11 : Int) (x12 : List CVal) (x20 : Int) (x21 : Int) (x3 : List CVal) (x40 : Int) (x41 : Int) (x5 : List CVal) : evL E N C L f_s_l1Put 0 lc_s_l1Put_0 [] k_s_l1Put_0 ((x00, (), (), (), x04, ()), (x10, x11, x12, ()), (x20, x21, (), ()), x3, (x40, x41, (), ()), x5, ()) = nl_s_l1Put_0 C L x00 x04 x10 x11 x12 x20 x21 x3 x40 x41 x5 := by kernel_rfl
theorem gl_s_l1Put_0 (x00 : List CVal) (x04 : Int) (x10 : Int) (x11 : Int) (x12 : List CVal) (x20 : Int) (x21 : Int) (x3 : List CVal) (x40 : Int) (x41 : Int) (x5 : List CVal) (R : LO k_s_l1Put_0.T) (h : nl_s_l1Put_0 CC LL x00 x04 x10 x11 x12 x20 x21 x3 x40 x41 x5 = some R) : LL f_s_l1Put 0 lc_s_l1Put_0 [] k_s_l1Put_0 ((x00, (), (), (), x04, ()), (x10, x11, x12, ()), (x20, x21, (), ()), x3, (x40, x41, (), ()), x5, ()) = some R := loopW ((el_s_l1Put_0 CC LL x00 x04 x10 x11 x12 x20 x21 x3 x40 x41 x5).trans h)
noncomputable def nl_s_l1Copy_0 (C : CallT) (L : LoopT) (x03 : Int) (x10 : Int) (x11 : Int) (x12 : List CVal) (x20 : Int) (x21 : Int) (x3 : List CVal) (x40 : Int) (x41 : Int) (x5 : List CVal) : Option (LO k_s_l1Copy_0.T) :=
  br (decide (x03 < (↑x12.length : Int)))
    (br (decide ((0 : Int) ≤ x03) && true)
      (x12[x03.toNat]?.bind fun y =>
        br (CVal.fits true (3 : Nat) y)
          ((y.sub (0 : Nat) (3 : Nat)).bind fun y =>
            (C f_s_l1Copy [AVal.v y] []).bind fun r =>
              br (CVal.isAggN (3 : Nat) r.1)
                ((r.1.cell (0 : Nat)).bind fun c =>
                  (r.1.cell (1 : Nat)).bind fun c_1 =>
                    (r.1.cell (2 : Nat)).bind fun c_2 =>
                      c_2.asSl.bind fun xs =>
                        (CVal.asInt IntKind.i64 c).bind fun n =>
                          (CVal.asInt IntKind.i64 c_1).bind fun n_1 =>
                            br (decide (x5.length + (1 : Nat) ≤ (4294967296 : Nat)) && true && true)
                              (L f_s_l1Copy (0 : Nat) lc_s_l1Copy_0 [] k_s_l1Copy_0
                                ((PUnit.unit, PUnit.unit, PUnit.unit, IntKind.i64.wrap (x03 + (1 : Int)), PUnit.unit),
                                  (x10, x11, x12, PUnit.unit), (x20, x21, PUnit.unit, PUnit.unit), x3,
                                  (x40, x41, PUnit.unit, PUnit.unit),
                                  x5 ++ [CVal.agg [CVal.int IntKind.i64 n, CVal.int IntKind.i64 n_1, CVal.sl xs]],
                                  PUnit.unit))
                              none)
                none)
          none)
      none)
    (some
      (LO.out (0 : Nat)
        ((PUnit.unit, PUnit.unit, PUnit.unit, x03, PUnit.unit), (x10, x11, x12, PUnit.unit),
          (x20, x21, PUnit.unit, PUnit.unit), x3, (x40, x41, PUnit.unit, PUnit.unit), x5, PUnit.unit)))
theorem el_s_l1Copy_0 (C : CallT) (L : LoopT) (x03 : Int) (x10 : Int) (x11 : Int) (x12 : List CVal) (x20 : Int) (x21 : Int) (x3 : List CVal) (x40 : Int) (x41 : Int) (x5 : List CVal) : evL E N C L f_s_l1Copy 0 lc_s_l1Copy_0 [] k_s_l1Copy_0 (((), (), (), x03, ()), (x10, x11, x12, ()), (x20, x21, (), ()), x3, (x40, x41, (), ()), x5, ()) = nl_s_l1Copy_0 C L x03 x10 x11 x12 x20 x21 x3 x40 x41 x5 := by kernel_rfl
theorem gl_s_l1Copy_0 (x03 : Int) (x10 : Int) (x11 : Int) (x12 : List CVal) (x20 : Int) (x21 : Int) (x3 : List CVal) (x40 : Int) (x41 : Int) (x5 : List CVal) (R : LO k_s_l1Copy_0.T) (h : nl_s_l1Copy_0 CC LL x03 x10 x11 x12 x20 x21 x3 x40 x41 x5 = some R) : LL f_s_l1Copy 0 lc_s_l1Copy_0 [] k_s_l1Copy_0 (((), (), (), x03, ()), (x10, x11, x12, ()), (x20, x21, (), ()), x3, (x40, x41, (), ()), x5, ()) = some R := loopW ((el_s_l1Copy_0 CC LL x03 x10 x11 x12 x20 x21 x3 x40 x41 x5).trans h)
noncomputable def nl_i_cloneTy_0 (C : CallT) (L : LoopT) (x02 : List CVal) (x03 : Int) (x04 : Int) (x10 : Int) (x11 : Int) (x2 : List CVal) (x30 : Int) (x31 : Int) (x4 : List CVal) : Option (LO k_i_cloneTy_0.T) :=
  br (decide (x04 < x03))
    (br (decide ((0 : Int) ≤ x04) && true)
      (x02[x04.toNat]?.bind fun y =>
        br (CVal.fits true (3 : Nat) y)
          ((y.sub (0 : Nat) (3 : Nat)).bind fun y =>
            br (CVal.isAggN (3 : Nat) y)
              ((y.cell (0 : Nat)).bind fun c =>
                (y.cell (1 : Nat)).bind fun c_1 =>
                  (y.cell (2 : Nat)).bind fun c_2 =>
                    (C f_i_cloneTy [AVal.v (CVal.agg [c, c_1, c_2])] []).bind fun r =>
                      br (CVal.isAggN (3 : Nat) r.1)
                        ((r.1.cell (0 : Nat)).bind fun c =>
                          (r.1.cell (1 : Nat)).bind fun c_3 =>
                            (r.1.cell (2 : Nat)).bind fun c_4 =>
                              c_4.asSl.bind fun xs =>
                                (CVal.asInt IntKind.i64 c).bind fun n =>
                                  (CVal.asInt IntKind.i64 c_3).bind fun n_1 =>
                                    br (decide (x4.length + (1 : Nat) ≤ (4294967296 : Nat)) && true && true)
                                      (L f_i_cloneTy (0 : Nat) lc_i_cloneTy_0 [] k_i_cloneTy_0
                                        ((PUnit.unit, PUnit.unit, x02, x03, IntKind.i64.wrap (x04 + (1 : Int)),
                                            PUnit.unit),
                                          (x10, x11, PUnit.unit, PUnit.unit), x2, (x30, x31, PUnit.unit, PUnit.unit),
                                          x4 ++ [CVal.agg [CVal.int IntKind.i64 n, CVal.int IntKind.i64 n_1, CVal.sl xs]],
                                          PUnit.unit))
                                      none)
                        none)
              none)
          none)
      none)
    (some
      (LO.out (0 : Nat)
        ((PUnit.unit, PUnit.unit, x02, x03, x04, PUnit.unit), (x10, x11, PUnit.unit, PUnit.unit), x2,
          (x30, x31, PUnit.unit, PUnit.unit), x4, PUnit.unit)))
theorem el_i_cloneTy_0 (C : CallT) (L : LoopT) (x02 : List CVal) (x03 : Int) (x04 : Int) (x10 : Int) (x11 : Int) (x2 : List CVal) (x30 : Int) (x31 : Int) (x4 : List CVal) : evL E N C L f_i_cloneTy 0 lc_i_cloneTy_0 [] k_i_cloneTy_0 (((), (), x02, x03, x04, ()), (x10, x11, (), ()), x2, (x30, x31, (), ()), x4, ()) = nl_i_cloneTy_0 C L x02 x03 x04 x10 x11 x2 x30 x31 x4 := by kernel_rfl
theorem gl_i_cloneTy_0 (x02 : List CVal) (x03 : Int) (x04 : Int) (x10 : Int) (x11 : Int) (x2 : List CVal) (x30 : Int) (x31 : Int) (x4 : List CVal) (R : LO k_i_cloneTy_0.T) (h : nl_i_cloneTy_0 CC LL x02 x03 x04 x10 x11 x2 x30 x31 x4 = some R) : LL f_i_cloneTy 0 lc_i_cloneTy_0 [] k_i_cloneTy_0 (((), (), x02, x03, x04, ()), (x10, x11, (), ()), x2, (x30, x31, (), ()), x4, ()) = some R := loopW ((el_i_cloneTy_0 CC LL x02 x03 x04 x10 x11 x2 x30 x31 x4).trans h)
end Go.Proofs.Ytjndiaahgjhaeaa.Abs
