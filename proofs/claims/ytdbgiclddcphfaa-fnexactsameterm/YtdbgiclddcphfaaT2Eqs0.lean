/- What the functions come to in the abstract machine. -/
import Derived.Test.YtdbgiclddcphfaaT2Ann
import Derived.KernelRfl
set_option linter.unusedVariables false
set_option maxRecDepth 100000
namespace Go.Proofs.Ytdbgiclddcphfaa.Abs
open Go Go.Proofs
noncomputable def nf_l_FnExactGround (C : CallT) (L : LoopT) (a0 : Int) (a1 : Int) (a2 : List CVal) : Option Ret :=
  (C f_l_szTy
        [AVal.v (CVal.agg [CVal.int IntKind.i64 a0, CVal.int IntKind.i64 a1, CVal.sl a2]),
          AVal.v (CVal.int IntKind.i64 (1048576 : Int))]
        []).bind
    fun r =>
    (CVal.asInt IntKind.i64 r.1).bind fun n =>
      br (decide (n < (0 : Int))) (some (CVal.bool true, []))
        ((C f_l_toTy [AVal.v (CVal.agg [CVal.int IntKind.i64 a0, CVal.int IntKind.i64 a1, CVal.sl a2])] []).bind fun r =>
          (C f_s_Ground [AVal.v r.1] []).bind fun r =>
            (C f_l_toTy [AVal.v (CVal.agg [CVal.int IntKind.i64 a0, CVal.int IntKind.i64 a1, CVal.sl a2])] []).bind
              fun r_1 =>
              br (CVal.isAggN (3 : Nat) r_1.1)
                ((r_1.1.cell (0 : Nat)).bind fun c =>
                  (r_1.1.cell (1 : Nat)).bind fun c_1 =>
                    (r_1.1.cell (2 : Nat)).bind fun c_2 =>
                      (C f_i_Ground [AVal.v (CVal.agg [c, c_1, c_2])] []).bind fun r_2 =>
                        r_2.1.asBool.bind fun b =>
                          r.1.asBool.bind fun b_1 =>
                            br (!b == b_1) (some (CVal.bool false, []))
                              ((C f_l_toTy
                                    [AVal.v (CVal.agg [CVal.int IntKind.i64 a0, CVal.int IntKind.i64 a1, CVal.sl a2])]
                                    []).bind
                                fun r =>
                                (C f_l_eqTy [AVal.v (CVal.agg [c, c_1, c_2]), AVal.v r.1] []).bind fun r =>
                                  r.1.asBool.bind fun b =>
                                    br (!b) (some (CVal.bool false, [])) (some (CVal.bool true, []))))
                none)
theorem eq_l_FnExactGround (C : CallT) (L : LoopT) (a0 : Int) (a1 : Int) (a2 : List CVal) : evF E N C L f_l_FnExactGround [AVal.v (CVal.agg [CVal.int IntKind.i64 a0, CVal.int IntKind.i64 a1, CVal.sl a2])] [] = nf_l_FnExactGround C L a0 a1 a2 := by kernel_rfl
theorem go_l_FnExactGround (a0 : Int) (a1 : Int) (a2 : List CVal) (R : Ret) (h : nf_l_FnExactGround CC LL a0 a1 a2 = some R) : CC f_l_FnExactGround [AVal.v (CVal.agg [CVal.int IntKind.i64 a0, CVal.int IntKind.i64 a1, CVal.sl a2])] [] = some R := fnW (by decide) ((eq_l_FnExactGround CC LL a0 a1 a2).trans h)
noncomputable def nf_l_FnExactPlain (C : CallT) (L : LoopT) (a0 : Int) (a1 : Int) (a2 : List UInt8) (a3 : List UInt8) (a40 : Int) (a41 : Int) (a42 : List CVal) (a5 : List CVal) (a6 : List CVal) : Option Ret :=
  (C f_l_szTerm
        [AVal.v
            (CVal.agg
              [CVal.int IntKind.i64 a0, CVal.int IntKind.i64 a1, CVal.str a2, CVal.str a3, CVal.int IntKind.i64 a40,
                CVal.int IntKind.i64 a41, CVal.sl a42, CVal.sl a5, CVal.sl a6]),
          AVal.v (CVal.int IntKind.i64 (1048576 : Int))]
        []).bind
    fun r =>
    (CVal.asInt IntKind.i64 r.1).bind fun n =>
      br (decide (n < (0 : Int))) (some (CVal.bool true, []))
        ((C f_l_toTerm
              [AVal.v
                  (CVal.agg
                    [CVal.int IntKind.i64 a0, CVal.int IntKind.i64 a1, CVal.str a2, CVal.str a3, CVal.int IntKind.i64 a40,
                      CVal.int IntKind.i64 a41, CVal.sl a42, CVal.sl a5, CVal.sl a6])]
              []).bind
          fun r =>
          (C f_s_Plain [AVal.v r.1] []).bind fun r =>
            (C f_l_toTerm
                  [AVal.v
                      (CVal.agg
                        [CVal.int IntKind.i64 a0, CVal.int IntKind.i64 a1, CVal.str a2, CVal.str a3,
                          CVal.int IntKind.i64 a40, CVal.int IntKind.i64 a41, CVal.sl a42, CVal.sl a5, CVal.sl a6])]
                  []).bind
              fun r_1 =>
              br (CVal.isAggN (9 : Nat) r_1.1)
                ((r_1.1.cell (0 : Nat)).bind fun c =>
                  (r_1.1.cell (1 : Nat)).bind fun c_1 =>
                    (r_1.1.cell (2 : Nat)).bind fun c_2 =>
                      (r_1.1.cell (3 : Nat)).bind fun c_3 =>
                        (r_1.1.cell (4 : Nat)).bind fun c_4 =>
                          (r_1.1.cell (5 : Nat)).bind fun c_5 =>
                            (r_1.1.cell (6 : Nat)).bind fun c_6 =>
                              (r_1.1.cell (7 : Nat)).bind fun c_7 =>
                                (r_1.1.cell (8 : Nat)).bind fun c_8 =>
                                  (C f_i_Plain [AVal.v (CVal.agg [c, c_1, c_2, c_3, c_4, c_5, c_6, c_7, c_8])] []).bind
                                    fun r_2 =>
                                    r_2.1.asBool.bind fun b =>
                                      r.1.asBool.bind fun b_1 =>
                                        br (!b == b_1) (some (CVal.bool false, []))
                                          ((C f_l_toTerm
                                                [AVal.v
                                                    (CVal.agg
                                                      [CVal.int IntKind.i64 a0, CVal.int IntKind.i64 a1, CVal.str a2,
                                                        CVal.str a3, CVal.int IntKind.i64 a40, CVal.int IntKind.i64 a41,
                                                        CVal.sl a42, CVal.sl a5, CVal.sl a6])]
                                                []).bind
                                            fun r =>
                                            (C f_l_eqTerm
                                                  [AVal.v (CVal.agg [c, c_1, c_2, c_3, c_4, c_5, c_6, c_7, c_8]),
                                                    AVal.v r.1]
                                                  []).bind
                                              fun r =>
                                              r.1.asBool.bind fun b =>
                                                br (!b) (some (CVal.bool false, [])) (some (CVal.bool true, []))))
                none)
theorem eq_l_FnExactPlain (C : CallT) (L : LoopT) (a0 : Int) (a1 : Int) (a2 : List UInt8) (a3 : List UInt8) (a40 : Int) (a41 : Int) (a42 : List CVal) (a5 : List CVal) (a6 : List CVal) : evF E N C L f_l_FnExactPlain [AVal.v
    (CVal.agg
      [CVal.int IntKind.i64 a0, CVal.int IntKind.i64 a1, CVal.str a2, CVal.str a3, CVal.int IntKind.i64 a40,
        CVal.int IntKind.i64 a41, CVal.sl a42, CVal.sl a5, CVal.sl a6])] [] = nf_l_FnExactPlain C L a0 a1 a2 a3 a40 a41 a42 a5 a6 := by kernel_rfl
theorem go_l_FnExactPlain (a0 : Int) (a1 : Int) (a2 : List UInt8) (a3 : List UInt8) (a40 : Int) (a41 : Int) (a42 : List CVal) (a5 : List CVal) (a6 : List CVal) (R : Ret) (h : nf_l_FnExactPlain CC LL a0 a1 a2 a3 a40 a41 a42 a5 a6 = some R) : CC f_l_FnExactPlain [AVal.v
    (CVal.agg
      [CVal.int IntKind.i64 a0, CVal.int IntKind.i64 a1, CVal.str a2, CVal.str a3, CVal.int IntKind.i64 a40,
        CVal.int IntKind.i64 a41, CVal.sl a42, CVal.sl a5, CVal.sl a6])] [] = some R := fnW (by decide) ((eq_l_FnExactPlain CC LL a0 a1 a2 a3 a40 a41 a42 a5 a6).trans h)
noncomputable def nf_i_VarsOf (C : CallT) (L : LoopT) (a0 : Int) (a1 : Int) (a2 : List CVal) : Option Ret :=
  (C f_i_TyOk [AVal.v (CVal.agg [CVal.int IntKind.i64 a0, CVal.int IntKind.i64 a1, CVal.sl a2])] []).bind fun r =>
    r.1.asBool.bind fun b =>
      br (!b) (some (CVal.int IntKind.i64 (0 : Int), []))
        ((C f_i_varsOf [AVal.v (CVal.agg [CVal.int IntKind.i64 a0, CVal.int IntKind.i64 a1, CVal.sl a2])] []).bind
          fun r => some (r.1, []))
theorem eq_i_VarsOf (C : CallT) (L : LoopT) (a0 : Int) (a1 : Int) (a2 : List CVal) : evF E N C L f_i_VarsOf [AVal.v (CVal.agg [CVal.int IntKind.i64 a0, CVal.int IntKind.i64 a1, CVal.sl a2])] [] = nf_i_VarsOf C L a0 a1 a2 := by kernel_rfl
theorem go_i_VarsOf (a0 : Int) (a1 : Int) (a2 : List CVal) (R : Ret) (h : nf_i_VarsOf CC LL a0 a1 a2 = some R) : CC f_i_VarsOf [AVal.v (CVal.agg [CVal.int IntKind.i64 a0, CVal.int IntKind.i64 a1, CVal.sl a2])] [] = some R := fnW (by decide) ((eq_i_VarsOf CC LL a0 a1 a2).trans h)
noncomputable def nf_s_Guard (C : CallT) (L : LoopT) (a0 : Int) (a1 : Int) (a2 : Int) (a3 : List CVal) (b : Int) : Option Ret :=
  (C f_s_l10Guard
        [AVal.v (CVal.agg [CVal.int IntKind.i64 a0, CVal.int IntKind.i64 a1, CVal.int IntKind.i64 a2, CVal.sl a3]),
          AVal.v (CVal.int IntKind.i64 b)]
        []).bind
    fun r =>
    (CVal.asInt IntKind.i64 r.1).bind fun n =>
      br (decide (n < (0 : Int))) (some (CVal.int IntKind.i64 (-1 : Int), []))
        (r.1.asIdx.bind fun y =>
          br (decide ((0 : Int) ≤ y) && true)
            (a3[y.toNat]?.bind fun y =>
              br (CVal.fits true (7 : Nat) y) ((y.cell (6 : Nat)).bind fun c => some (c, [])) none)
            none)
theorem eq_s_Guard (C : CallT) (L : LoopT) (a0 : Int) (a1 : Int) (a2 : Int) (a3 : List CVal) (b : Int) : evF E N C L f_s_Guard [AVal.v (CVal.agg [CVal.int IntKind.i64 a0, CVal.int IntKind.i64 a1, CVal.int IntKind.i64 a2, CVal.sl a3]),
  AVal.v (CVal.int IntKind.i64 b)] [] = nf_s_Guard C L a0 a1 a2 a3 b := by kernel_rfl
theorem go_s_Guard (a0 : Int) (a1 : Int) (a2 : Int) (a3 : List CVal) (b : Int) (R : Ret) (h : nf_s_Guard CC LL a0 a1 a2 a3 b = some R) : CC f_s_Guard [AVal.v (CVal.agg [CVal.int IntKind.i64 a0, CVal.int IntKind.i64 a1, CVal.int IntKind.i64 a2, CVal.sl a3]),
  AVal.v (CVal.int IntKind.i64 b)] [] = some R := fnW (by decide) ((eq_s_Guard CC LL a0 a1 a2 a3 b).trans h)
noncomputable def nf_s_SubstTy (C : CallT) (L : LoopT) (a0 : Int) (a1 : Int) (a2 : List CVal) (b : List CVal) : Option Ret :=
  ((C f_s_TyOk [AVal.v (CVal.agg [CVal.int IntKind.i64 a0, CVal.int IntKind.i64 a1, CVal.sl a2])] []).bind fun r =>
        r.1.asBool.bind fun b_1 =>
          br (!b_1) (some (true, PUnit.unit))
            ((C f_s_l1Vars [AVal.v (CVal.agg [CVal.int IntKind.i64 a0, CVal.int IntKind.i64 a1, CVal.sl a2])] []).bind
              fun r => (CVal.asInt IntKind.i64 r.1).bind fun n => some (decide ((↑b.length : Int) < n), PUnit.unit))).bind
    fun y =>
    br y.1
      (some
        (CVal.tup
            [CVal.agg [CVal.int IntKind.i64 (0 : Int), CVal.int IntKind.i64 (0 : Int), CVal.sl []], CVal.bool false],
          []))
      ((L f_s_SubstTy (0 : Nat) lc_s_SubstTy_0 [] k_s_SubstTy_0
            ((b, PUnit.unit, PUnit.unit, (0 : Int), PUnit.unit), (a0, a1, a2, PUnit.unit),
              ((0 : Int), (0 : Int), [], PUnit.unit), PUnit.unit)).bind
        fun r =>
        loK r (fun r => some r) fun j p =>
          br (j == (0 : Nat))
            ((C f_s_l1Put
                  [AVal.v
                      (CVal.agg
                        [CVal.int IntKind.i64 p.snd.fst.1, CVal.int IntKind.i64 p.snd.fst.snd.1,
                          CVal.sl p.snd.fst.snd.snd.1]),
                    AVal.v (CVal.sl p.fst.1)]
                  []).bind
              fun r =>
              br (CVal.isAggN (3 : Nat) r.1)
                ((r.1.cell (0 : Nat)).bind fun c =>
                  (r.1.cell (1 : Nat)).bind fun c_1 =>
                    (r.1.cell (2 : Nat)).bind fun c_2 =>
                      (C f_s_TyOk [AVal.v (CVal.agg [c, c_1, c_2])] []).bind fun r =>
                        r.1.asBool.bind fun b =>
                          br (!b)
                            (some
                              (CVal.tup
                                  [CVal.agg [CVal.int IntKind.i64 (0 : Int), CVal.int IntKind.i64 (0 : Int), CVal.sl []],
                                    CVal.bool false],
                                []))
                            (some (CVal.tup [CVal.agg [c, c_1, c_2], CVal.bool true], [])))
                none)
            none)
theorem eq_s_SubstTy (C : CallT) (L : LoopT) (a0 : Int) (a1 : Int) (a2 : List CVal) (b : List CVal) : evF E N C L f_s_SubstTy [AVal.v (CVal.agg [CVal.int IntKind.i64 a0, CVal.int IntKind.i64 a1, CVal.sl a2]), AVal.v (CVal.sl b)] [] = nf_s_SubstTy C L a0 a1 a2 b := by kernel_rfl
theorem go_s_SubstTy (a0 : Int) (a1 : Int) (a2 : List CVal) (b : List CVal) (R : Ret) (h : nf_s_SubstTy CC LL a0 a1 a2 b = some R) : CC f_s_SubstTy [AVal.v (CVal.agg [CVal.int IntKind.i64 a0, CVal.int IntKind.i64 a1, CVal.sl a2]), AVal.v (CVal.sl b)] [] = some R := fnW (by decide) ((eq_s_SubstTy CC LL a0 a1 a2 b).trans h)
noncomputable def nf_i_Plain (C : CallT) (L : LoopT) (a0 : Int) (a1 : Int) (a2 : List UInt8) (a3 : List UInt8) (a40 : Int) (a41 : Int) (a42 : List CVal) (a5 : List CVal) (a6 : List CVal) : Option Ret :=
  ((C f_i_TermOk
            [AVal.v
                (CVal.agg
                  [CVal.int IntKind.i64 a0, CVal.int IntKind.i64 a1, CVal.str a2, CVal.str a3, CVal.int IntKind.i64 a40,
                    CVal.int IntKind.i64 a41, CVal.sl a42, CVal.sl a5, CVal.sl a6])]
            []).bind
        fun r =>
        r.1.asBool.bind fun b =>
          br b
            ((C f_i_anyTerm
                  [AVal.v
                      (CVal.agg
                        [CVal.int IntKind.i64 a0, CVal.int IntKind.i64 a1, CVal.str a2, CVal.str a3,
                          CVal.int IntKind.i64 a40, CVal.int IntKind.i64 a41, CVal.sl a42, CVal.sl a5, CVal.sl a6]),
                    AVal.v (CVal.func f_i_Plain_1 [])]
                  []).bind
              fun r => r.1.asBool.bind fun b => some (!b, PUnit.unit))
            (some (false, PUnit.unit))).bind
    fun y => some (CVal.bool y.1, [])
theorem eq_i_Plain (C : CallT) (L : LoopT) (a0 : Int) (a1 : Int) (a2 : List UInt8) (a3 : List UInt8) (a40 : Int) (a41 : Int) (a42 : List CVal) (a5 : List CVal) (a6 : List CVal) : evF E N C L f_i_Plain [AVal.v
    (CVal.agg
      [CVal.int IntKind.i64 a0, CVal.int IntKind.i64 a1, CVal.str a2, CVal.str a3, CVal.int IntKind.i64 a40,
        CVal.int IntKind.i64 a41, CVal.sl a42, CVal.sl a5, CVal.sl a6])] [] = nf_i_Plain C L a0 a1 a2 a3 a40 a41 a42 a5 a6 := by kernel_rfl
theorem go_i_Plain (a0 : Int) (a1 : Int) (a2 : List UInt8) (a3 : List UInt8) (a40 : Int) (a41 : Int) (a42 : List CVal) (a5 : List CVal) (a6 : List CVal) (R : Ret) (h : nf_i_Plain CC LL a0 a1 a2 a3 a40 a41 a42 a5 a6 = some R) : CC f_i_Plain [AVal.v
    (CVal.agg
      [CVal.int IntKind.i64 a0, CVal.int IntKind.i64 a1, CVal.str a2, CVal.str a3, CVal.int IntKind.i64 a40,
        CVal.int IntKind.i64 a41, CVal.sl a42, CVal.sl a5, CVal.sl a6])] [] = some R := fnW (by decide) ((eq_i_Plain CC LL a0 a1 a2 a3 a40 a41 a42 a5 a6).trans h)
noncomputable def nf_i_Ground_1 (C : CallT) (L : LoopT) (a0 : Int) (a1 : Int) (a2 : List CVal) : Option Ret :=
  some (CVal.bool (decide (a0 = (3 : Int))), [])
theorem eq_i_Ground_1 (C : CallT) (L : LoopT) (a0 : Int) (a1 : Int) (a2 : List CVal) : evF E N C L f_i_Ground_1 [AVal.v (CVal.agg [CVal.int IntKind.i64 a0, CVal.int IntKind.i64 a1, CVal.sl a2])] [] = nf_i_Ground_1 C L a0 a1 a2 := by kernel_rfl
theorem go_i_Ground_1 (a0 : Int) (a1 : Int) (a2 : List CVal) (R : Ret) (h : nf_i_Ground_1 CC LL a0 a1 a2 = some R) : CC f_i_Ground_1 [AVal.v (CVal.agg [CVal.int IntKind.i64 a0, CVal.int IntKind.i64 a1, CVal.sl a2])] [] = some R := fnW (by decide) ((eq_i_Ground_1 CC LL a0 a1 a2).trans h)
noncomputable def nf_l_toInsS (C : CallT) (L : LoopT) (a : List CVal) : Option Ret :=
  br (decide ((↑a.length : Int) = (↑a.length : Int)) && decide ((↑a.length : Int) ≤ (1048576 : Int)))
    ((L f_l_toInsS (0 : Nat) lc_l_toInsS_0 [] k_l_toInsS_0
          ((a, PUnit.unit, (0 : Int), PUnit.unit),
            List.replicate (↑a.length : Int).toNat
              (CVal.agg
                [CVal.int IntKind.i64 (0 : Int), CVal.int IntKind.i64 (0 : Int), CVal.int IntKind.i64 (0 : Int),
                  CVal.int IntKind.i64 (0 : Int), CVal.int IntKind.i64 (0 : Int), CVal.sl [],
                  CVal.int IntKind.i64 (0 : Int)]),
            PUnit.unit)).bind
      fun r => loK r (fun r => some r) fun j p => br (j == (0 : Nat)) (some (CVal.sl p.snd.1, [])) none)
    none
theorem eq_l_toInsS (C : CallT) (L : LoopT) (a : List CVal) : evF E N C L f_l_toInsS [AVal.v (CVal.sl a)] [] = nf_l_toInsS C L a := by kernel_rfl
theorem go_l_toInsS (a : List CVal) (R : Ret) (h : nf_l_toInsS CC LL a = some R) : CC f_l_toInsS [AVal.v (CVal.sl a)] [] = some R := fnW (by decide) ((eq_l_toInsS CC LL a).trans h)
noncomputable def nf_s_l1Any (C : CallT) (L : LoopT) (a : CVal) : Option Ret :=
  (C f_s_l1Ty [AVal.v a, AVal.v (CVal.int IntKind.i64 (4 : Int)), AVal.v (CVal.int IntKind.i64 (2 : Int))] []).bind
    fun r =>
    br (CVal.isAggN (3 : Nat) r.1)
      ((r.1.cell (0 : Nat)).bind fun c =>
        (r.1.cell (1 : Nat)).bind fun c_1 =>
          (r.1.cell (2 : Nat)).bind fun c_2 =>
            (C f_s_l1Once [AVal.v a, AVal.v (CVal.int IntKind.i64 (6 : Int))] []).bind fun r =>
              r.1.asBool.bind fun b =>
                br b
                  ((C f_s_l1Bend [AVal.v a, AVal.v (CVal.agg [c, c_1, c_2])] []).bind fun r =>
                    br (CVal.isAggN (3 : Nat) r.1)
                      ((r.1.cell (0 : Nat)).bind fun c =>
                        (r.1.cell (1 : Nat)).bind fun c_3 =>
                          (r.1.cell (2 : Nat)).bind fun c_4 => some (CVal.agg [c, c_3, c_4], []))
                      none)
                  (some (CVal.agg [c, c_1, c_2], [])))
      none
theorem eq_s_l1Any (C : CallT) (L : LoopT) (a : CVal) : evF E N C L f_s_l1Any [AVal.v a] [] = nf_s_l1Any C L a := by kernel_rfl
theorem go_s_l1Any (a : CVal) (R : Ret) (h : nf_s_l1Any CC LL a = some R) : CC f_s_l1Any [AVal.v a] [] = some R := fnW (by decide) ((eq_s_l1Any CC LL a).trans h)
noncomputable def nf_i_termSize (C : CallT) (L : LoopT) (a0 : Int) (a1 : Int) (a2 : List UInt8) (a3 : List UInt8) (a40 : Int) (a41 : Int) (a42 : List CVal) (a5 : List CVal) (a6 : List CVal) : Option Ret :=
  (C f_i_headOk
        [AVal.v
            (CVal.agg
              [CVal.int IntKind.i64 a0, CVal.int IntKind.i64 a1, CVal.str a2, CVal.str a3, CVal.int IntKind.i64 a40,
                CVal.int IntKind.i64 a41, CVal.sl a42, CVal.sl a5, CVal.sl a6])]
        []).bind
    fun r =>
    r.1.asBool.bind fun b =>
      br (!b) (some (CVal.tup [CVal.int IntKind.i64 (0 : Int), CVal.int IntKind.i64 (0 : Int), CVal.bool false], []))
        ((L f_i_termSize (0 : Nat) lc_i_termSize_0 [] k_i_termSize_0
              (((0 : Int), (1 : Int), a6, (↑a6.length : Int), (0 : Int), PUnit.unit), PUnit.unit)).bind
          fun r =>
          loK r (fun r => some r) fun j p =>
            br (j == (0 : Nat))
              (some
                (CVal.tup
                    [CVal.int IntKind.i64 (IntKind.i64.wrap (p.fst.1 + (1 : Int))), CVal.int IntKind.i64 p.fst.snd.1,
                      CVal.bool true],
                  []))
              none)
theorem eq_i_termSize (C : CallT) (L : LoopT) (a0 : Int) (a1 : Int) (a2 : List UInt8) (a3 : List UInt8) (a40 : Int) (a41 : Int) (a42 : List CVal) (a5 : List CVal) (a6 : List CVal) : evF E N C L f_i_termSize [AVal.v
    (CVal.agg
      [CVal.int IntKind.i64 a0, CVal.int IntKind.i64 a1, CVal.str a2, CVal.str a3, CVal.int IntKind.i64 a40,
        CVal.int IntKind.i64 a41, CVal.sl a42, CVal.sl a5, CVal.sl a6])] [] = nf_i_termSize C L a0 a1 a2 a3 a40 a41 a42 a5 a6 := by kernel_rfl
theorem go_i_termSize (a0 : Int) (a1 : Int) (a2 : List UInt8) (a3 : List UInt8) (a40 : Int) (a41 : Int) (a42 : List CVal) (a5 : List CVal) (a6 : List CVal) (R : Ret) (h : nf_i_termSize CC LL a0 a1 a2 a3 a40 a41 a42 a5 a6 = some R) : CC f_i_termSize [AVal.v
    (CVal.agg
      [CVal.int IntKind.i64 a0, CVal.int IntKind.i64 a1, CVal.str a2, CVal.str a3, CVal.int IntKind.i64 a40,
        CVal.int IntKind.i64 a41, CVal.sl a42, CVal.sl a5, CVal.sl a6])] [] = some R := fnW (by decide) ((eq_i_termSize CC LL a0 a1 a2 a3 a40 a41 a42 a5 a6).trans h)
noncomputable def nf_l_szIns (C : CallT) (L : LoopT) (a0 : Int) (a1 : Int) (a2 : Int) (a3 : Int) (a4 : Int) (a5 : List CVal) (a6 : Int) (b : Int) : Option Ret :=
  (C f_l_szIntS [AVal.v (CVal.sl a5), AVal.v (CVal.int IntKind.i64 b)] []).bind fun r =>
    (CVal.asInt IntKind.i64 r.1).bind fun n =>
      br (decide (n < (0 : Int))) (some (CVal.int IntKind.i64 (-1 : Int), [])) (some (r.1, []))
theorem eq_l_szIns (C : CallT) (L : LoopT) (a0 : Int) (a1 : Int) (a2 : Int) (a3 : Int) (a4 : Int) (a5 : List CVal) (a6 : Int) (b : Int) : evF E N C L f_l_szIns [AVal.v
    (CVal.agg
      [CVal.int IntKind.i64 a0, CVal.int IntKind.i64 a1, CVal.int IntKind.i64 a2, CVal.int IntKind.i64 a3,
        CVal.int IntKind.i64 a4, CVal.sl a5, CVal.int IntKind.i64 a6]),
  AVal.v (CVal.int IntKind.i64 b)] [] = nf_l_szIns C L a0 a1 a2 a3 a4 a5 a6 b := by kernel_rfl
theorem go_l_szIns (a0 : Int) (a1 : Int) (a2 : Int) (a3 : Int) (a4 : Int) (a5 : List CVal) (a6 : Int) (b : Int) (R : Ret) (h : nf_l_szIns CC LL a0 a1 a2 a3 a4 a5 a6 b = some R) : CC f_l_szIns [AVal.v
    (CVal.agg
      [CVal.int IntKind.i64 a0, CVal.int IntKind.i64 a1, CVal.int IntKind.i64 a2, CVal.int IntKind.i64 a3,
        CVal.int IntKind.i64 a4, CVal.sl a5, CVal.int IntKind.i64 a6]),
  AVal.v (CVal.int IntKind.i64 b)] [] = some R := fnW (by decide) ((eq_l_szIns CC LL a0 a1 a2 a3 a4 a5 a6 b).trans h)
noncomputable def nf_s_l1Below (C : CallT) (L : LoopT) (a : CVal) (b : Int) : Option Ret :=
  br (decide (b ≤ (0 : Int))) (some (CVal.int IntKind.i64 (0 : Int), []))
    (br (decide (b ≤ (256 : Int)))
      ((C f_s_l1Byte [AVal.v a] []).bind fun r =>
        (CVal.asInt IntKind.i64 r.1).bind fun n =>
          (br (decide (b = (0 : Int))) none (some (CVal.int IntKind.i64 (n.tmod b)))).bind fun y => some (y, []))
      ((C f_s_l1Byte [AVal.v a] []).bind fun r =>
        (C f_s_l1Byte [AVal.v a] []).bind fun r_1 =>
          (C f_s_l1Byte [AVal.v a] []).bind fun r_2 =>
            (CVal.asInt IntKind.i64 r.1).bind fun n =>
              (CVal.asInt IntKind.i64 r_1.1).bind fun n_1 =>
                (CVal.asInt IntKind.i64 r_2.1).bind fun n_2 =>
                  (br (decide (b = (0 : Int))) none
                        (some
                          (CVal.int IntKind.i64
                            ((IntKind.i64.wrap
                                  (IntKind.i64.wrap
                                      (IntKind.i64.wrap (n * (65536 : Int)) + IntKind.i64.wrap (n_1 * (256 : Int))) +
                                    n_2)).tmod
                              b)))).bind
                    fun y => some (y, [])))
theorem eq_s_l1Below (C : CallT) (L : LoopT) (a : CVal) (b : Int) : evF E N C L f_s_l1Below [AVal.v a, AVal.v (CVal.int IntKind.i64 b)] [] = nf_s_l1Below C L a b := by kernel_rfl
theorem go_s_l1Below (a : CVal) (b : Int) (R : Ret) (h : nf_s_l1Below CC LL a b = some R) : CC f_s_l1Below [AVal.v a, AVal.v (CVal.int IntKind.i64 b)] [] = some R := fnW (by decide) ((eq_s_l1Below CC LL a b).trans h)
noncomputable def nf_slices_ContainsFunc_Term (C : CallT) (L : LoopT) (a : List CVal) (b : CVal) : Option Ret :=
  (C f_slices_IndexFunc_Term [AVal.v (CVal.sl a), AVal.v b] []).bind fun r =>
    (CVal.asInt IntKind.i64 r.1).bind fun n => some (CVal.bool (decide ((0 : Int) ≤ n)), [])
theorem eq_slices_ContainsFunc_Term (C : CallT) (L : LoopT) (a : List CVal) (b : CVal) : evF E N C L f_slices_ContainsFunc_Term [AVal.v (CVal.sl a), AVal.v b] [] = nf_slices_ContainsFunc_Term C L a b := by kernel_rfl
theorem go_slices_ContainsFunc_Term (a : List CVal) (b : CVal) (R : Ret) (h : nf_slices_ContainsFunc_Term CC LL a b = some R) : CC f_slices_ContainsFunc_Term [AVal.v (CVal.sl a), AVal.v b] [] = some R := fnW (by decide) ((eq_slices_ContainsFunc_Term CC LL a b).trans h)
noncomputable def nf_s_l2Of (C : CallT) (L : LoopT) (a : Int) : Option Ret :=
  br (decide (a = (1 : Int)))
    (some
      (CVal.agg
          [CVal.int IntKind.i64 (0 : Int), CVal.int IntKind.i64 (1 : Int), CVal.bool false, CVal.bool false,
            CVal.bool false],
        []))
    (br (decide (a = (2 : Int)))
      (some
        (CVal.agg
            [CVal.int IntKind.i64 (0 : Int), CVal.int IntKind.i64 (1 : Int), CVal.bool false, CVal.bool false,
              CVal.bool false],
          []))
      (br (decide (a = (3 : Int)))
        (some
          (CVal.agg
              [CVal.int IntKind.i64 (0 : Int), CVal.int IntKind.i64 (0 : Int), CVal.bool true, CVal.bool false,
                CVal.bool false],
            []))
        (br (decide (a = (4 : Int)))
          (some
            (CVal.agg
                [CVal.int IntKind.i64 (1 : Int), CVal.int IntKind.i64 (0 : Int), CVal.bool true, CVal.bool false,
                  CVal.bool true],
              []))
          (br (decide (a = (5 : Int)))
            (some
              (CVal.agg
                  [CVal.int IntKind.i64 (2 : Int), CVal.int IntKind.i64 (0 : Int), CVal.bool false, CVal.bool false,
                    CVal.bool false],
                []))
            (br (decide (a = (9 : Int)))
              (some
                (CVal.agg
                    [CVal.int IntKind.i64 (2 : Int), CVal.int IntKind.i64 (0 : Int), CVal.bool false, CVal.bool false,
                      CVal.bool false],
                  []))
              (br (decide (a = (13 : Int)))
                (some
                  (CVal.agg
                      [CVal.int IntKind.i64 (2 : Int), CVal.int IntKind.i64 (0 : Int), CVal.bool false, CVal.bool false,
                        CVal.bool false],
                    []))
                (br (decide (a = (6 : Int)))
                  (some
                    (CVal.agg
                        [CVal.int IntKind.i64 (2 : Int), CVal.int IntKind.i64 (1 : Int), CVal.bool true, CVal.bool false,
                          CVal.bool false],
                      []))
                  (br (decide (a = (7 : Int)))
                    (some
                      (CVal.agg
                          [CVal.int IntKind.i64 (2 : Int), CVal.int IntKind.i64 (1 : Int), CVal.bool true,
                            CVal.bool false, CVal.bool true],
                        []))
                    (br (decide (a = (8 : Int)))
                      (some
                        (CVal.agg
                            [CVal.int IntKind.i64 (3 : Int), CVal.int IntKind.i64 (0 : Int), CVal.bool false,
                              CVal.bool false, CVal.bool false],
                          []))
                      (br (decide (a = (10 : Int)))
                        (some
                          (CVal.agg
                              [CVal.int IntKind.i64 (1 : Int), CVal.int IntKind.i64 (0 : Int), CVal.bool false,
                                CVal.bool false, CVal.bool false],
                            []))
                        (br (decide (a = (11 : Int)))
                          (some
                            (CVal.agg
                                [CVal.int IntKind.i64 (1 : Int), CVal.int IntKind.i64 (0 : Int), CVal.bool false,
                                  CVal.bool false, CVal.bool false],
                              []))
                          (br (decide (a = (12 : Int)))
                            (some
                              (CVal.agg
                                  [CVal.int IntKind.i64 (0 : Int), CVal.int IntKind.i64 (0 : Int), CVal.bool false,
                                    CVal.bool false, CVal.bool true],
                                []))
                            (br (decide (a = (14 : Int)))
                              (some
                                (CVal.agg
                                    [CVal.int IntKind.i64 (3 : Int), CVal.int IntKind.i64 (0 : Int), CVal.bool true,
                                      CVal.bool true, CVal.bool false],
                                  []))
                              (br (decide (a = (15 : Int)))
                                (some
                                  (CVal.agg
                                      [CVal.int IntKind.i64 (2 : Int), CVal.int IntKind.i64 (1 : Int), CVal.bool false,
                                        CVal.bool false, CVal.bool false],
                                    []))
                                (br (decide (a = (16 : Int)))
                                  (some
                                    (CVal.agg
                                        [CVal.int IntKind.i64 (1 : Int), CVal.int IntKind.i64 (0 : Int), CVal.bool false,
                                          CVal.bool false, CVal.bool true],
                                      []))
                                  (br (decide (a = (17 : Int)))
                                    (some
                                      (CVal.agg
                                          [CVal.int IntKind.i64 (2 : Int), CVal.int IntKind.i64 (0 : Int), CVal.bool true,
                                            CVal.bool false, CVal.bool false],
                                        []))
                                    (some
                                      (CVal.agg
                                          [CVal.int IntKind.i64 (-1 : Int), CVal.int IntKind.i64 (0 : Int),
                                            CVal.bool false, CVal.bool false, CVal.bool false],
                                        []))))))))))))))))))
theorem eq_s_l2Of (C : CallT) (L : LoopT) (a : Int) : evF E N C L f_s_l2Of [AVal.v (CVal.int IntKind.i64 a)] [] = nf_s_l2Of C L a := by kernel_rfl
theorem go_s_l2Of (a : Int) (R : Ret) (h : nf_s_l2Of CC LL a = some R) : CC f_s_l2Of [AVal.v (CVal.int IntKind.i64 a)] [] = some R := fnW (by decide) ((eq_s_l2Of CC LL a).trans h)
noncomputable def nf_i_bindsS (C : CallT) (L : LoopT) (a : Int) : Option Ret :=
  (br (decide (a = (4 : Int))) (some (true, PUnit.unit))
        (br (decide (a = (6 : Int))) (some (true, PUnit.unit))
          (br (decide (a = (7 : Int))) (some (true, PUnit.unit))
            (br (decide (a = (14 : Int))) (some (true, PUnit.unit)) (some (decide (a = (17 : Int)), PUnit.unit)))))).bind
    fun y => some (CVal.bool y.1, [])
theorem eq_i_bindsS (C : CallT) (L : LoopT) (a : Int) : evF E N C L f_i_bindsS [AVal.v (CVal.int IntKind.i64 a)] [] = nf_i_bindsS C L a := by kernel_rfl
theorem go_i_bindsS (a : Int) (R : Ret) (h : nf_i_bindsS CC LL a = some R) : CC f_i_bindsS [AVal.v (CVal.int IntKind.i64 a)] [] = some R := fnW (by decide) ((eq_i_bindsS CC LL a).trans h)
noncomputable def nl_s_l1Vars_0 (C : CallT) (L : LoopT) (x01 : Int) (x02 : Int) (x10 : Int) (x11 : Int) (x12 : List CVal) : Option (LO k_s_l1Vars_0.T) :=
  br (decide (x02 < (↑x12.length : Int)))
    (br (decide ((0 : Int) ≤ x02) && true)
      (x12[x02.toNat]?.bind fun y =>
        br (CVal.fits true (3 : Nat) y)
          ((y.sub (0 : Nat) (3 : Nat)).bind fun y =>
            (C f_s_l1Vars [AVal.v y] []).bind fun r =>
              (CVal.asInt IntKind.i64 r.1).bind fun n =>
                br (decide (x01 < n))
                  ((CVal.asInt IntKind.i64 r.1).bind fun n =>
                    L f_s_l1Vars (0 : Nat) lc_s_l1Vars_0 [] k_s_l1Vars_0
                      ((PUnit.unit, n, IntKind.i64.wrap (x02 + (1 : Int)), PUnit.unit), (x10, x11, x12, PUnit.unit),
                        PUnit.unit))
                  (L f_s_l1Vars (0 : Nat) lc_s_l1Vars_0 [] k_s_l1Vars_0
                    ((PUnit.unit, x01, IntKind.i64.wrap (x02 + (1 : Int)), PUnit.unit), (x10, x11, x12, PUnit.unit),
                      PUnit.unit)))
          none)
      none)
    (some (LO.out (0 : Nat) ((PUnit.unit, x01, x02, PUnit.unit), (x10, x11, x12, PUnit.unit), PUnit.unit)))
theorem el_s_l1Vars_0 (C : CallT) (L : LoopT) (x01 : Int) (x02 : Int) (x10 : Int) (x11 : Int) (x12 : List CVal) : evL E N C L f_s_l1Vars 0 lc_s_l1Vars_0 [] k_s_l1Vars_0 (((), x01, x02, ()), (x10, x11, x12, ()), ()) = nl_s_l1Vars_0 C L x01 x02 x10 x11 x12 := by kernel_rfl
theorem gl_s_l1Vars_0 (x01 : Int) (x02 : Int) (x10 : Int) (x11 : Int) (x12 : List CVal) (R : LO k_s_l1Vars_0.T) (h : nl_s_l1Vars_0 CC LL x01 x02 x10 x11 x12 = some R) : LL f_s_l1Vars 0 lc_s_l1Vars_0 [] k_s_l1Vars_0 (((), x01, x02, ()), (x10, x11, x12, ()), ()) = some R := loopW ((el_s_l1Vars_0 CC LL x01 x02 x10 x11 x12).trans h)
noncomputable def nl_s_l10Guard_0 (C : CallT) (L : LoopT) (x00 : Int) (x03 : Int) (x10 : Int) (x11 : Int) (x12 : Int) (x13 : List CVal) (x2 : List CVal) : Option (LO k_s_l10Guard_0.T) :=
  (br (decide (x03 < x00)) (some (decide (x03 < (↑x13.length : Int)), PUnit.unit)) (some (false, PUnit.unit))).bind
    fun y =>
    br y.1
      (br (decide ((0 : Int) ≤ x03) && true)
        (x13[x03.toNat]?.bind fun y =>
          br (CVal.fits true (7 : Nat) y)
            ((y.cell (0 : Nat)).bind fun c =>
              (CVal.asInt IntKind.i64 c).bind fun n =>
                br (decide (n = (17 : Int)))
                  (br (decide (x2.length + (1 : Nat) ≤ (4294967296 : Nat)) && true && true)
                    (L f_s_l10Guard (0 : Nat) lc_s_l10Guard_0 [] k_s_l10Guard_0
                      ((x00, PUnit.unit, PUnit.unit, IntKind.i64.wrap (x03 + (1 : Int)), PUnit.unit),
                        (x10, x11, x12, x13, PUnit.unit), x2 ++ [CVal.int IntKind.i64 x03], PUnit.unit))
                    none)
                  ((CVal.asInt IntKind.i64 c).bind fun n =>
                    br (decide (n = (18 : Int)))
                      (br (decide ((0 : Int) < (↑x2.length : Int)))
                        (br
                          (decide ((0 : Int) ≤ IntKind.i64.wrap ((↑x2.length : Int) - (1 : Int))) &&
                            decide (IntKind.i64.wrap ((↑x2.length : Int) - (1 : Int)) ≤ (↑x2.length : Int)))
                          (L f_s_l10Guard (0 : Nat) lc_s_l10Guard_0 [] k_s_l10Guard_0
                            ((x00, PUnit.unit, PUnit.unit, IntKind.i64.wrap (x03 + (1 : Int)), PUnit.unit),
                              (x10, x11, x12, x13, PUnit.unit),
                              List.take (IntKind.i64.wrap ((↑x2.length : Int) - (1 : Int))).toNat x2, PUnit.unit))
                          none)
                        (L f_s_l10Guard (0 : Nat) lc_s_l10Guard_0 [] k_s_l10Guard_0
                          ((x00, PUnit.unit, PUnit.unit, IntKind.i64.wrap (x03 + (1 : Int)), PUnit.unit),
                            (x10, x11, x12, x13, PUnit.unit), x2, PUnit.unit)))
                      (L f_s_l10Guard (0 : Nat) lc_s_l10Guard_0 [] k_s_l10Guard_0
                        ((x00, PUnit.unit, PUnit.unit, IntKind.i64.wrap (x03 + (1 : Int)), PUnit.unit),
                          (x10, x11, x12, x13, PUnit.unit), x2, PUnit.unit))))
            none)
        none)
      (some
        (LO.out (0 : Nat)
          ((x00, PUnit.unit, PUnit.unit, x03, PUnit.unit), (x10, x11, x12, x13, PUnit.unit), x2, PUnit.unit)))
theorem el_s_l10Guard_0 (C : CallT) (L : LoopT) (x00 : Int) (x03 : Int) (x10 : Int) (x11 : Int) (x12 : Int) (x13 : List CVal) (x2 : List CVal) : evL E N C L f_s_l10Guard 0 lc_s_l10Guard_0 [] k_s_l10Guard_0 ((x00, (), (), x03, ()), (x10, x11, x12, x13, ()), x2, ()) = nl_s_l10Guard_0 C L x00 x03 x10 x11 x12 x13 x2 := by kernel_rfl
theorem gl_s_l10Guard_0 (x00 : Int) (x03 : Int) (x10 : Int) (x11 : Int) (x12 : Int) (x13 : List CVal) (x2 : List CVal) (R : LO k_s_l10Guard_0.T) (h : nl_s_l10Guard_0 CC LL x00 x03 x10 x11 x12 x13 x2 = some R) : LL f_s_l10Guard 0 lc_s_l10Guard_0 [] k_s_l10Guard_0 ((x00, (), (), x03, ()), (x10, x11, x12, x13, ()), x2, ()) = some R := loopW ((el_s_l10Guard_0 CC LL x00 x03 x10 x11 x12 x13 x2).trans h)
noncomputable def nl_s_l1Put_0 (C : CallT) (L : LoopT) (x00 : List CVal) (x04 : Int) (x10 : Int) (x11 : Int) (x12 : List CVal) (x20 : Int) (x21 : Int) (x22 : List CVal) (x30 : Int) (x31 : Int) (x32 : List CVal) : Option (LO k_s_l1Put_0.T) :=
  br (decide (x04 < (↑x12.length : Int)))
    (br (decide ((0 : Int) ≤ x04) && true)
      (x12[x04.toNat]?.bind fun y =>
        br (CVal.fits true (3 : Nat) y)
          ((y.sub (0 : Nat) (3 : Nat)).bind fun y =>
            (C f_s_l1Put [AVal.v y, AVal.v (CVal.sl x00)] []).bind fun r =>
              br ([r.1].all (CVal.fits (aggT E.P (29 : Nat)) (E.P.cellsOf (29 : Nat)))) none none)
          none)
      none)
    (some
      (LO.out (0 : Nat)
        ((x00, PUnit.unit, PUnit.unit, PUnit.unit, x04, PUnit.unit), (x10, x11, x12, PUnit.unit),
          (x20, x21, x22, PUnit.unit), (x30, x31, x32, PUnit.unit), PUnit.unit)))
theorem el_s_l1Put_0 (C : CallT) (L : LoopT) (x00 : List CVal) (x04 : Int) (x10 : Int) (x11 : Int) (x12 : List CVal) (x20 : Int) (x21 : Int) (x22 : List CVal) (x30 : Int) (x31 : Int) (x32 : List CVal) : evL E N C L f_s_l1Put 0 lc_s_l1Put_0 [] k_s_l1Put_0 ((x00, (), (), (), x04, ()), (x10, x11, x12, ()), (x20, x21, x22, ()), (x30, x31, x32, ()), ()) = nl_s_l1Put_0 C L x00 x04 x10 x11 x12 x20 x21 x22 x30 x31 x32 := by kernel_rfl
theorem gl_s_l1Put_0 (x00 : List CVal) (x04 : Int) (x10 : Int) (x11 : Int) (x12 : List CVal) (x20 : Int) (x21 : Int) (x22 : List CVal) (x30 : Int) (x31 : Int) (x32 : List CVal) (R : LO k_s_l1Put_0.T) (h : nl_s_l1Put_0 CC LL x00 x04 x10 x11 x12 x20 x21 x22 x30 x31 x32 = some R) : LL f_s_l1Put 0 lc_s_l1Put_0 [] k_s_l1Put_0 ((x00, (), (), (), x04, ()), (x10, x11, x12, ()), (x20, x21, x22, ()), (x30, x31, x32, ()), ()) = some R := loopW ((el_s_l1Put_0 CC LL x00 x04 x10 x11 x12 x20 x21 x22 x30 x31 x32).trans h)
noncomputable def nl_s_l1Bend_1 (C : CallT) (L : LoopT) (x02 : Int) (x10 : Int) (x11 : Int) (x12 : List CVal) (x20 : Int) (x21 : Int) (x22 : List CVal) : Option (LO k_s_l1Bend_1.T) :=
  br (decide (x02 < (5 : Int))) none
    (some
      (LO.out (1 : Nat)
        ((PUnit.unit, PUnit.unit, x02, PUnit.unit), (x10, x11, x12, PUnit.unit), (x20, x21, x22, PUnit.unit),
          PUnit.unit)))
theorem el_s_l1Bend_1 (C : CallT) (L : LoopT) (x02 : Int) (x10 : Int) (x11 : Int) (x12 : List CVal) (x20 : Int) (x21 : Int) (x22 : List CVal) : evL E N C L f_s_l1Bend 1 lc_s_l1Bend_1 [] k_s_l1Bend_1 (((), (), x02, ()), (x10, x11, x12, ()), (x20, x21, x22, ()), ()) = nl_s_l1Bend_1 C L x02 x10 x11 x12 x20 x21 x22 := by kernel_rfl
theorem gl_s_l1Bend_1 (x02 : Int) (x10 : Int) (x11 : Int) (x12 : List CVal) (x20 : Int) (x21 : Int) (x22 : List CVal) (R : LO k_s_l1Bend_1.T) (h : nl_s_l1Bend_1 CC LL x02 x10 x11 x12 x20 x21 x22 = some R) : LL f_s_l1Bend 1 lc_s_l1Bend_1 [] k_s_l1Bend_1 (((), (), x02, ()), (x10, x11, x12, ()), (x20, x21, x22, ()), ()) = some R := loopW ((el_s_l1Bend_1 CC LL x02 x10 x11 x12 x20 x21 x22).trans h)
noncomputable def nl_slices_IndexFunc_Term_0 (C : CallT) (L : LoopT) (x00 : List CVal) (x01 : CVal) (x02 : Int) (x03 : Int) : Option (LO k_slices_IndexFunc_Term_0.T) :=
  br (decide (x03 < x02))
    (br (decide ((0 : Int) ≤ x03) && true)
      (x00[x03.toNat]?.bind fun y =>
        br (CVal.fits true (9 : Nat) y)
          ((y.sub (0 : Nat) (9 : Nat)).bind fun y =>
            (C apId [AVal.v x01, AVal.v y] []).bind fun r =>
              r.1.asBool.bind fun b =>
                br b (some (LO.ret (CVal.int IntKind.i64 x03, [])))
                  (L f_slices_IndexFunc_Term (0 : Nat) lc_slices_IndexFunc_Term_0 [] k_slices_IndexFunc_Term_0
                    ((x00, x01, x02, IntKind.i64.wrap (x03 + (1 : Int)), PUnit.unit), PUnit.unit)))
          none)
      none)
    (some (LO.out (0 : Nat) ((x00, x01, x02, x03, PUnit.unit), PUnit.unit)))
theorem el_slices_IndexFunc_Term_0 (C : CallT) (L : LoopT) (x00 : List CVal) (x01 : CVal) (x02 : Int) (x03 : Int) : evL E N C L f_slices_IndexFunc_Term 0 lc_slices_IndexFunc_Term_0 [] k_slices_IndexFunc_Term_0 ((x00, x01, x02, x03, ()), ()) = nl_slices_IndexFunc_Term_0 C L x00 x01 x02 x03 := by kernel_rfl
theorem gl_slices_IndexFunc_Term_0 (x00 : List CVal) (x01 : CVal) (x02 : Int) (x03 : Int) (R : LO k_slices_IndexFunc_Term_0.T) (h : nl_slices_IndexFunc_Term_0 CC LL x00 x01 x02 x03 = some R) : LL f_slices_IndexFunc_Term 0 lc_slices_IndexFunc_Term_0 [] k_slices_IndexFunc_Term_0 ((x00, x01, x02, x03, ()), ()) = some R := loopW ((el_slices_IndexFunc_Term_0 CC LL x00 x01 x02 x03).trans h)
end Go.Proofs.Ytdbgiclddcphfaa.Abs
