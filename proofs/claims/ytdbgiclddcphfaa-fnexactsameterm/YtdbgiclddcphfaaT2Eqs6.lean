/- What the functions come to in the abstract machine. -/
import Derived.Test.YtdbgiclddcphfaaT2Ann
import Derived.KernelRfl
set_option linter.unusedVariables false
set_option maxRecDepth 100000
namespace Go.Proofs.Ytdbgiclddcphfaa.Abs
open Go Go.Proofs
noncomputable def nf_l_FnExactTermOk (C : CallT) (L : LoopT) (a0 : Int) (a1 : Int) (a2 : List UInt8) (a3 : List UInt8) (a40 : Int) (a41 : Int) (a42 : List CVal) (a5 : List CVal) (a6 : List CVal) : Option Ret :=
  (C f_l_szTerm
        [AVal.v
            (CVal.agg
              [CVal.int IntKind.i64 a0, CVal.int IntKind.i64 a1, CVal.str a2, CVal.str a3, CVal.int IntKind.i64 a40,
                CVal.int IntKind.i64 a41, CVal.sl a42, CVal.sl a5, CVal.sl a6]),
          AVal.v (CVal.int IntKind.i64 (1048576 : Int))]
        []).bind
    fun r =>
    (CVal.asInt IntKind.i64 r.1).bind fun n =>
      br (decide (n < (0 : Int))) (some (CVal.bool true, []))
        ((C f_l_toTerm
              [AVal.v
                  (CVal.agg
                    [CVal.int IntKind.i64 a0, CVal.int IntKind.i64 a1, CVal.str a2, CVal.str a3, CVal.int IntKind.i64 a40,
                      CVal.int IntKind.i64 a41, CVal.sl a42, CVal.sl a5, CVal.sl a6])]
              []).bind
          fun r =>
          (C f_s_TermOk [AVal.v r.1] []).bind fun r =>
            (C f_l_toTerm
                  [AVal.v
                      (CVal.agg
                        [CVal.int IntKind.i64 a0, CVal.int IntKind.i64 a1, CVal.str a2, CVal.str a3,
                          CVal.int IntKind.i64 a40, CVal.int IntKind.i64 a41, CVal.sl a42, CVal.sl a5, CVal.sl a6])]
                  []).bind
              fun r_1 =>
              br (CVal.isAggN (9 : Nat) r_1.1)
                ((r_1.1.cell (0 : Nat)).bind fun c =>
                  (r_1.1.cell (1 : Nat)).bind fun c_1 =>
                    (r_1.1.cell (2 : Nat)).bind fun c_2 =>
                      (r_1.1.cell (3 : Nat)).bind fun c_3 =>
                        (r_1.1.cell (4 : Nat)).bind fun c_4 =>
                          (r_1.1.cell (5 : Nat)).bind fun c_5 =>
                            (r_1.1.cell (6 : Nat)).bind fun c_6 =>
                              (r_1.1.cell (7 : Nat)).bind fun c_7 =>
                                (r_1.1.cell (8 : Nat)).bind fun c_8 =>
                                  (C f_i_TermOk [AVal.v (CVal.agg [c, c_1, c_2, c_3, c_4, c_5, c_6, c_7, c_8])] []).bind
                                    fun r_2 =>
                                    r_2.1.asBool.bind fun b =>
                                      r.1.asBool.bind fun b_1 =>
                                        br (!b == b_1) (some (CVal.bool false, []))
                                          ((C f_l_toTerm
                                                [AVal.v
                                                    (CVal.agg
                                                      [CVal.int IntKind.i64 a0, CVal.int IntKind.i64 a1, CVal.str a2,
                                                        CVal.str a3, CVal.int IntKind.i64 a40, CVal.int IntKind.i64 a41,
                                                        CVal.sl a42, CVal.sl a5, CVal.sl a6])]
                                                []).bind
                                            fun r =>
                                            (C f_l_eqTerm
                                                  [AVal.v (CVal.agg [c, c_1, c_2, c_3, c_4, c_5, c_6, c_7, c_8]),
                                                    AVal.v r.1]
                                                  []).bind
                                              fun r =>
                                              r.1.asBool.bind fun b =>
                                                br (!b) (some (CVal.bool false, [])) (some (CVal.bool true, []))))
                none)
theorem eq_l_FnExactTermOk (C : CallT) (L : LoopT) (a0 : Int) (a1 : Int) (a2 : List UInt8) (a3 : List UInt8) (a40 : Int) (a41 : Int) (a42 : List CVal) (a5 : List CVal) (a6 : List CVal) : evF E N C L f_l_FnExactTermOk [AVal.v
    (CVal.agg
      [CVal.int IntKind.i64 a0, CVal.int IntKind.i64 a1, CVal.str a2, CVal.str a3, CVal.int IntKind.i64 a40,
        CVal.int IntKind.i64 a41, CVal.sl a42, CVal.sl a5, CVal.sl a6])] [] = nf_l_FnExactTermOk C L a0 a1 a2 a3 a40 a41 a42 a5 a6 := by kernel_rfl
theorem go_l_FnExactTermOk (a0 : Int) (a1 : Int) (a2 : List UInt8) (a3 : List UInt8) (a40 : Int) (a41 : Int) (a42 : List CVal) (a5 : List CVal) (a6 : List CVal) (R : Ret) (h : nf_l_FnExactTermOk CC LL a0 a1 a2 a3 a40 a41 a42 a5 a6 = some R) : CC f_l_FnExactTermOk [AVal.v
    (CVal.agg
      [CVal.int IntKind.i64 a0, CVal.int IntKind.i64 a1, CVal.str a2, CVal.str a3, CVal.int IntKind.i64 a40,
        CVal.int IntKind.i64 a41, CVal.sl a42, CVal.sl a5, CVal.sl a6])] [] = some R := fnW (by decide) ((eq_l_FnExactTermOk CC LL a0 a1 a2 a3 a40 a41 a42 a5 a6).trans h)
noncomputable def nf_l_eqTy (C : CallT) (L : LoopT) (a0 : Int) (a1 : Int) (a2 : List CVal) (b0 : Int) (b1 : Int) (b2 : List CVal) : Option Ret :=
  br (!decide (a0 = b0)) (some (CVal.bool false, []))
    (br (!decide (a1 = b1)) (some (CVal.bool false, []))
      ((C f_l_eqTyS [AVal.v (CVal.sl a2), AVal.v (CVal.sl b2)] []).bind fun r =>
        r.1.asBool.bind fun b => br (!b) (some (CVal.bool false, [])) (some (CVal.bool true, []))))
theorem eq_l_eqTy (C : CallT) (L : LoopT) (a0 : Int) (a1 : Int) (a2 : List CVal) (b0 : Int) (b1 : Int) (b2 : List CVal) : evF E N C L f_l_eqTy [AVal.v (CVal.agg [CVal.int IntKind.i64 a0, CVal.int IntKind.i64 a1, CVal.sl a2]),
  AVal.v (CVal.agg [CVal.int IntKind.i64 b0, CVal.int IntKind.i64 b1, CVal.sl b2])] [] = nf_l_eqTy C L a0 a1 a2 b0 b1 b2 := by kernel_rfl
theorem go_l_eqTy (a0 : Int) (a1 : Int) (a2 : List CVal) (b0 : Int) (b1 : Int) (b2 : List CVal) (R : Ret) (h : nf_l_eqTy CC LL a0 a1 a2 b0 b1 b2 = some R) : CC f_l_eqTy [AVal.v (CVal.agg [CVal.int IntKind.i64 a0, CVal.int IntKind.i64 a1, CVal.sl a2]),
  AVal.v (CVal.agg [CVal.int IntKind.i64 b0, CVal.int IntKind.i64 b1, CVal.sl b2])] [] = some R := fnW (by decide) ((eq_l_eqTy CC LL a0 a1 a2 b0 b1 b2).trans h)
noncomputable def nf_l_szPiece (C : CallT) (L : LoopT) (a0 : Int) (a1 : Int) (a2 : Int) (a3 : List CVal) (b : Int) : Option Ret :=
  (C f_l_szInsS [AVal.v (CVal.sl a3), AVal.v (CVal.int IntKind.i64 b)] []).bind fun r =>
    (CVal.asInt IntKind.i64 r.1).bind fun n =>
      br (decide (n < (0 : Int))) (some (CVal.int IntKind.i64 (-1 : Int), [])) (some (r.1, []))
theorem eq_l_szPiece (C : CallT) (L : LoopT) (a0 : Int) (a1 : Int) (a2 : Int) (a3 : List CVal) (b : Int) : evF E N C L f_l_szPiece [AVal.v (CVal.agg [CVal.int IntKind.i64 a0, CVal.int IntKind.i64 a1, CVal.int IntKind.i64 a2, CVal.sl a3]),
  AVal.v (CVal.int IntKind.i64 b)] [] = nf_l_szPiece C L a0 a1 a2 a3 b := by kernel_rfl
theorem go_l_szPiece (a0 : Int) (a1 : Int) (a2 : Int) (a3 : List CVal) (b : Int) (R : Ret) (h : nf_l_szPiece CC LL a0 a1 a2 a3 b = some R) : CC f_l_szPiece [AVal.v (CVal.agg [CVal.int IntKind.i64 a0, CVal.int IntKind.i64 a1, CVal.int IntKind.i64 a2, CVal.sl a3]),
  AVal.v (CVal.int IntKind.i64 b)] [] = some R := fnW (by decide) ((eq_l_szPiece CC LL a0 a1 a2 a3 b).trans h)
noncomputable def nf_s_DrawSubstTy (C : CallT) (L : LoopT) (a : List CVal) : Option Ret :=
  (C f_s_l1New [AVal.v (CVal.sl a)] []).bind fun r =>
    (C f_s_l1Any [AVal.v r.1] []).bind fun r_1 =>
      br (CVal.isAggN (3 : Nat) r_1.1)
        ((r_1.1.cell (0 : Nat)).bind fun c =>
          (r_1.1.cell (1 : Nat)).bind fun c_1 =>
            (r_1.1.cell (2 : Nat)).bind fun c_2 =>
              (C f_s_l1Int
                    [AVal.v r.1,
                      AVal.v
                        (CVal.sl
                          [CVal.int IntKind.i64 (2 : Int), CVal.int IntKind.i64 (2 : Int), CVal.int IntKind.i64 (1 : Int),
                            CVal.int IntKind.i64 (0 : Int), CVal.int IntKind.i64 (3 : Int)])]
                    []).bind
                fun r_2 =>
                (CVal.asInt IntKind.i64 r_2.1).bind fun n =>
                  (CVal.asInt IntKind.i64 c).bind fun n_1 =>
                    (CVal.asInt IntKind.i64 c_1).bind fun n_2 =>
                      c_2.asSl.bind fun xs =>
                        (L f_s_DrawSubstTy (0 : Nat) lc_s_DrawSubstTy_0 [] k_s_DrawSubstTy_0
                              ((PUnit.unit, r.1, PUnit.unit, PUnit.unit, n, PUnit.unit),
                                ((0 : Int), (0 : Int), [], PUnit.unit), (n_1, n_2, xs, PUnit.unit), [], PUnit.unit)).bind
                          fun r =>
                          loK r (fun r => some r) fun j p =>
                            br (j == (0 : Nat))
                              (some
                                (CVal.tup
                                    [CVal.agg
                                        [CVal.int IntKind.i64 p.snd.snd.fst.1, CVal.int IntKind.i64 p.snd.snd.fst.snd.1,
                                          CVal.sl p.snd.snd.fst.snd.snd.1],
                                      CVal.sl p.snd.snd.snd.1],
                                  []))
                              none)
        none
theorem eq_s_DrawSubstTy (C : CallT) (L : LoopT) (a : List CVal) : evF E N C L f_s_DrawSubstTy [AVal.v (CVal.sl a)] [] = nf_s_DrawSubstTy C L a := by kernel_rfl
theorem go_s_DrawSubstTy (a : List CVal) (R : Ret) (h : nf_s_DrawSubstTy CC LL a = some R) : CC f_s_DrawSubstTy [AVal.v (CVal.sl a)] [] = some R := fnW (by decide) ((eq_s_DrawSubstTy CC LL a).trans h)
noncomputable def nf_i_NodesOf (C : CallT) (L : LoopT) (a0 : Int) (a1 : Int) (a2 : List UInt8) (a3 : List UInt8) (a40 : Int) (a41 : Int) (a42 : List CVal) (a5 : List CVal) (a6 : List CVal) : Option Ret :=
  (C f_i_TermOk
        [AVal.v
            (CVal.agg
              [CVal.int IntKind.i64 a0, CVal.int IntKind.i64 a1, CVal.str a2, CVal.str a3, CVal.int IntKind.i64 a40,
                CVal.int IntKind.i64 a41, CVal.sl a42, CVal.sl a5, CVal.sl a6])]
        []).bind
    fun r =>
    r.1.asBool.bind fun b =>
      br (!b) (some (CVal.int IntKind.i64 (0 : Int), []))
        ((C f_i_termSize
              [AVal.v
                  (CVal.agg
                    [CVal.int IntKind.i64 a0, CVal.int IntKind.i64 a1, CVal.str a2, CVal.str a3, CVal.int IntKind.i64 a40,
                      CVal.int IntKind.i64 a41, CVal.sl a42, CVal.sl a5, CVal.sl a6])]
              []).bind
          fun r =>
          r.1.asTup.bind fun y =>
            y[(0 : Nat)]?.bind fun y =>
              r.1.asTup.bind fun y =>
                y[(1 : Nat)]?.bind fun y => r.1.asTup.bind fun y_1 => y_1[(2 : Nat)]?.bind fun y_2 => some (y, []))
theorem eq_i_NodesOf (C : CallT) (L : LoopT) (a0 : Int) (a1 : Int) (a2 : List UInt8) (a3 : List UInt8) (a40 : Int) (a41 : Int) (a42 : List CVal) (a5 : List CVal) (a6 : List CVal) : evF E N C L f_i_NodesOf [AVal.v
    (CVal.agg
      [CVal.int IntKind.i64 a0, CVal.int IntKind.i64 a1, CVal.str a2, CVal.str a3, CVal.int IntKind.i64 a40,
        CVal.int IntKind.i64 a41, CVal.sl a42, CVal.sl a5, CVal.sl a6])] [] = nf_i_NodesOf C L a0 a1 a2 a3 a40 a41 a42 a5 a6 := by kernel_rfl
theorem go_i_NodesOf (a0 : Int) (a1 : Int) (a2 : List UInt8) (a3 : List UInt8) (a40 : Int) (a41 : Int) (a42 : List CVal) (a5 : List CVal) (a6 : List CVal) (R : Ret) (h : nf_i_NodesOf CC LL a0 a1 a2 a3 a40 a41 a42 a5 a6 = some R) : CC f_i_NodesOf [AVal.v
    (CVal.agg
      [CVal.int IntKind.i64 a0, CVal.int IntKind.i64 a1, CVal.str a2, CVal.str a3, CVal.int IntKind.i64 a40,
        CVal.int IntKind.i64 a41, CVal.sl a42, CVal.sl a5, CVal.sl a6])] [] = some R := fnW (by decide) ((eq_i_NodesOf CC LL a0 a1 a2 a3 a40 a41 a42 a5 a6).trans h)
noncomputable def nf_s_l1Vars (C : CallT) (L : LoopT) (a0 : Int) (a1 : Int) (a2 : List CVal) : Option Ret :=
  br (decide (a0 = (3 : Int)))
    ((L f_s_l1Vars (0 : Nat) lc_s_l1Vars_0 [] k_s_l1Vars_0
          ((PUnit.unit, IntKind.i64.wrap (a1 + (1 : Int)), (0 : Int), PUnit.unit), (a0, a1, a2, PUnit.unit),
            PUnit.unit)).bind
      fun r => loK r (fun r => some r) fun j p => br (j == (0 : Nat)) (some (CVal.int IntKind.i64 p.fst.snd.1, [])) none)
    ((L f_s_l1Vars (0 : Nat) lc_s_l1Vars_0 [] k_s_l1Vars_0
          ((PUnit.unit, (0 : Int), (0 : Int), PUnit.unit), (a0, a1, a2, PUnit.unit), PUnit.unit)).bind
      fun r => loK r (fun r => some r) fun j p => br (j == (0 : Nat)) (some (CVal.int IntKind.i64 p.fst.snd.1, [])) none)
theorem eq_s_l1Vars (C : CallT) (L : LoopT) (a0 : Int) (a1 : Int) (a2 : List CVal) : evF E N C L f_s_l1Vars [AVal.v (CVal.agg [CVal.int IntKind.i64 a0, CVal.int IntKind.i64 a1, CVal.sl a2])] [] = nf_s_l1Vars C L a0 a1 a2 := by kernel_rfl
theorem go_s_l1Vars (a0 : Int) (a1 : Int) (a2 : List CVal) (R : Ret) (h : nf_s_l1Vars CC LL a0 a1 a2 = some R) : CC f_s_l1Vars [AVal.v (CVal.agg [CVal.int IntKind.i64 a0, CVal.int IntKind.i64 a1, CVal.sl a2])] [] = some R := fnW (by decide) ((eq_s_l1Vars CC LL a0 a1 a2).trans h)
noncomputable def nf_l_eqTermS (C : CallT) (L : LoopT) (a : List CVal) (b : List CVal) : Option Ret :=
  br (!decide ((↑a.length : Int) = (↑b.length : Int))) (some (CVal.bool false, []))
    ((L f_l_eqTermS (0 : Nat) lc_l_eqTermS_0 [] k_l_eqTermS_0 ((a, b, (0 : Int), PUnit.unit), PUnit.unit)).bind fun r =>
      loK r (fun r => some r) fun j p => br (j == (0 : Nat)) (some (CVal.bool true, [])) none)
theorem eq_l_eqTermS (C : CallT) (L : LoopT) (a : List CVal) (b : List CVal) : evF E N C L f_l_eqTermS [AVal.v (CVal.sl a), AVal.v (CVal.sl b)] [] = nf_l_eqTermS C L a b := by kernel_rfl
theorem go_l_eqTermS (a : List CVal) (b : List CVal) (R : Ret) (h : nf_l_eqTermS CC LL a b = some R) : CC f_l_eqTermS [AVal.v (CVal.sl a), AVal.v (CVal.sl b)] [] = some R := fnW (by decide) ((eq_l_eqTermS CC LL a b).trans h)
noncomputable def nf_slices_EqualFunc_Term (C : CallT) (L : LoopT) (a : List CVal) (b : List CVal) (c : CVal) : Option Ret :=
  br (!decide ((↑a.length : Int) = (↑b.length : Int))) (some (CVal.bool false, []))
    ((L f_slices_EqualFunc_Term (0 : Nat) lc_slices_EqualFunc_Term_0 [] k_slices_EqualFunc_Term_0
          ((b, c, a, (↑a.length : Int), (0 : Int), PUnit.unit), PUnit.unit)).bind
      fun r => loK r (fun r => some r) fun j p => br (j == (0 : Nat)) (some (CVal.bool true, [])) none)
theorem eq_slices_EqualFunc_Term (C : CallT) (L : LoopT) (a : List CVal) (b : List CVal) (c : CVal) : evF E N C L f_slices_EqualFunc_Term [AVal.v (CVal.sl a), AVal.v (CVal.sl b), AVal.v c] [] = nf_slices_EqualFunc_Term C L a b c := by kernel_rfl
theorem go_slices_EqualFunc_Term (a : List CVal) (b : List CVal) (c : CVal) (R : Ret) (h : nf_slices_EqualFunc_Term CC LL a b c = some R) : CC f_slices_EqualFunc_Term [AVal.v (CVal.sl a), AVal.v (CVal.sl b), AVal.v c] [] = some R := fnW (by decide) ((eq_slices_EqualFunc_Term CC LL a b c).trans h)
noncomputable def nf_i_measure (C : CallT) (L : LoopT) (a0 : Int) (a1 : Int) (a2 : List CVal) : Option Ret :=
  ((C f_i_tyParts [AVal.v (CVal.int IntKind.i64 a0)] []).bind fun r =>
        (CVal.asInt IntKind.i64 r.1).bind fun n =>
          br (!decide ((↑a2.length : Int) = n)) (some (true, PUnit.unit))
            (br (!decide (a1 = (0 : Int)))
              (br (!decide (a0 = (3 : Int))) (some (true, PUnit.unit)) (some (!decide (a1 = (1 : Int)), PUnit.unit)))
              (some (false, PUnit.unit)))).bind
    fun y =>
    br y.1 (some (CVal.tup [CVal.int IntKind.i64 (0 : Int), CVal.int IntKind.i64 (0 : Int), CVal.bool false], []))
      ((L f_i_measure (0 : Nat) lc_i_measure_0 [] k_i_measure_0
            (((0 : Int), (1 : Int), a2, (↑a2.length : Int), (0 : Int), PUnit.unit), PUnit.unit)).bind
        fun r =>
        loK r (fun r => some r) fun j p =>
          br (j == (0 : Nat))
            (some
              (CVal.tup
                  [CVal.int IntKind.i64 (IntKind.i64.wrap (p.fst.1 + (1 : Int))), CVal.int IntKind.i64 p.fst.snd.1,
                    CVal.bool true],
                []))
            none)
theorem eq_i_measure (C : CallT) (L : LoopT) (a0 : Int) (a1 : Int) (a2 : List CVal) : evF E N C L f_i_measure [AVal.v (CVal.agg [CVal.int IntKind.i64 a0, CVal.int IntKind.i64 a1, CVal.sl a2])] [] = nf_i_measure C L a0 a1 a2 := by kernel_rfl
theorem go_i_measure (a0 : Int) (a1 : Int) (a2 : List CVal) (R : Ret) (h : nf_i_measure CC LL a0 a1 a2 = some R) : CC f_i_measure [AVal.v (CVal.agg [CVal.int IntKind.i64 a0, CVal.int IntKind.i64 a1, CVal.sl a2])] [] = some R := fnW (by decide) ((eq_i_measure CC LL a0 a1 a2).trans h)
noncomputable def nf_s_l1Look (C : CallT) (L : LoopT) (a0 : Int) (a1 : Int) (a2 : List CVal) (b : Int) (c : Int) : Option Ret :=
  (br (decide (b = (0 : Int))) (some (true, PUnit.unit))
        (br (decide ((60 : Int) < IntKind.i64.wrap (c + (1 : Int)))) (some (true, PUnit.unit))
          ((C f_s_l1Args [AVal.v (CVal.int IntKind.i64 a0)] []).bind fun r =>
            (CVal.asInt IntKind.i64 r.1).bind fun n =>
              br (!decide ((↑a2.length : Int) = n)) (some (true, PUnit.unit))
                (br (decide (a0 = (3 : Int)))
                  ((C f_s_l1In
                        [AVal.v (CVal.int IntKind.i64 a1), AVal.v (CVal.int IntKind.i64 (0 : Int)),
                          AVal.v (CVal.int IntKind.i64 (1 : Int))]
                        []).bind
                    fun r =>
                    r.1.asBool.bind fun b =>
                      br (!b) (some (true, PUnit.unit))
                        (br (!decide (a0 = (3 : Int))) (some (!decide (a1 = (0 : Int)), PUnit.unit))
                          (some (false, PUnit.unit))))
                  (br (!decide (a0 = (3 : Int))) (some (!decide (a1 = (0 : Int)), PUnit.unit))
                    (some (false, PUnit.unit))))))).bind
    fun y =>
    br y.1 (some (CVal.bool false, [[CVal.int IntKind.i64 (IntKind.i64.wrap (c + (1 : Int)))]]))
      ((L f_s_l1Look (0 : Nat) lc_s_l1Look_0 [none] k_s_l1Look_0
            ((b, PUnit.unit, PUnit.unit, (0 : Int), PUnit.unit), (IntKind.i64.wrap (c + (1 : Int)), PUnit.unit),
              (a0, a1, a2, PUnit.unit), PUnit.unit)).bind
        fun r =>
        loK r (fun r => some r) fun j p =>
          br (j == (0 : Nat)) (some (CVal.bool true, [[CVal.int IntKind.i64 p.snd.fst.1]])) none)
theorem eq_s_l1Look (C : CallT) (L : LoopT) (a0 : Int) (a1 : Int) (a2 : List CVal) (b : Int) (c : Int) : evF E N C L f_s_l1Look [AVal.v (CVal.agg [CVal.int IntKind.i64 a0, CVal.int IntKind.i64 a1, CVal.sl a2]), AVal.v (CVal.int IntKind.i64 b),
  AVal.lptr (0 : Nat) (0 : Nat)] [PB.mk false (0 : Nat) [CVal.int IntKind.i64 c]] = nf_s_l1Look C L a0 a1 a2 b c := by kernel_rfl
theorem go_s_l1Look (a0 : Int) (a1 : Int) (a2 : List CVal) (b : Int) (c : Int) (R : Ret) (h : nf_s_l1Look CC LL a0 a1 a2 b c = some R) : CC f_s_l1Look [AVal.v (CVal.agg [CVal.int IntKind.i64 a0, CVal.int IntKind.i64 a1, CVal.sl a2]), AVal.v (CVal.int IntKind.i64 b),
  AVal.lptr (0 : Nat) (0 : Nat)] [PB.mk false (0 : Nat) [CVal.int IntKind.i64 c]] = some R := fnW (by decide) ((eq_s_l1Look CC LL a0 a1 a2 b c).trans h)
noncomputable def nf_s_l1Once (C : CallT) (L : LoopT) (a : CVal) (b : Int) : Option Ret :=
  (C f_s_l1Below [AVal.v a, AVal.v (CVal.int IntKind.i64 b)] []).bind fun r =>
    (CVal.asInt IntKind.i64 r.1).bind fun n => some (CVal.bool (decide (n = (0 : Int))), [])
theorem eq_s_l1Once (C : CallT) (L : LoopT) (a : CVal) (b : Int) : evF E N C L f_s_l1Once [AVal.v a, AVal.v (CVal.int IntKind.i64 b)] [] = nf_s_l1Once C L a b := by kernel_rfl
theorem go_s_l1Once (a : CVal) (b : Int) (R : Ret) (h : nf_s_l1Once CC LL a b = some R) : CC f_s_l1Once [AVal.v a, AVal.v (CVal.int IntKind.i64 b)] [] = some R := fnW (by decide) ((eq_s_l1Once CC LL a b).trans h)
noncomputable def nf_i_headOk (C : CallT) (L : LoopT) (a0 : Int) (a1 : Int) (a2 : List UInt8) (a3 : List UInt8) (a40 : Int) (a41 : Int) (a42 : List CVal) (a5 : List CVal) (a6 : List CVal) : Option Ret :=
  ((C f_i_parts [AVal.v (CVal.int IntKind.i64 a0)] []).bind fun r =>
        (CVal.asInt IntKind.i64 r.1).bind fun n =>
          br (!decide ((↑a6.length : Int) = n)) (some (true, PUnit.unit))
            ((C f_i_numberOk [AVal.v (CVal.int IntKind.i64 a0), AVal.v (CVal.int IntKind.i64 a1)] []).bind fun r =>
              r.1.asBool.bind fun b =>
                br (!b) (some (true, PUnit.unit))
                  ((C f_i_namesOk [AVal.v (CVal.int IntKind.i64 a0), AVal.v (CVal.str a2), AVal.v (CVal.str a3)] []).bind
                    fun r =>
                    r.1.asBool.bind fun b =>
                      br (!b) (some (true, PUnit.unit))
                        (br (decide (a0 = (7 : Int)))
                          (a6[(0 : Nat)]?.bind fun y =>
                            br (CVal.fits true (9 : Nat) y)
                              ((y.cell (0 : Nat)).bind fun c =>
                                (CVal.asInt IntKind.i64 c).bind fun n => some (!decide (n = (4 : Int)), PUnit.unit))
                              none)
                          (some (false, PUnit.unit)))))).bind
    fun y =>
    br y.1 (some (CVal.bool false, []))
      (((C f_i_hasT [AVal.v (CVal.int IntKind.i64 a0)] []).bind fun r =>
            (C f_i_TyOk [AVal.v (CVal.agg [CVal.int IntKind.i64 a40, CVal.int IntKind.i64 a41, CVal.sl a42])] []).bind
              fun r_1 =>
              r.1.asBool.bind fun b =>
                r_1.1.asBool.bind fun b_1 =>
                  br (!b == b_1) (some (true, PUnit.unit))
                    ((C f_i_hasT [AVal.v (CVal.int IntKind.i64 a0)] []).bind fun r =>
                      r.1.asBool.bind fun b =>
                        br (!b)
                          ((C f_i_SameTy
                                [AVal.v (CVal.agg [CVal.int IntKind.i64 a40, CVal.int IntKind.i64 a41, CVal.sl a42]),
                                  AVal.v
                                    (CVal.agg
                                      [CVal.int IntKind.i64 (0 : Int), CVal.int IntKind.i64 (0 : Int), CVal.sl []])]
                                []).bind
                            fun r => r.1.asBool.bind fun b => some (!b, PUnit.unit))
                          (some (false, PUnit.unit)))).bind
        fun y =>
        br y.1 (some (CVal.bool false, []))
          (br (decide (a0 = (3 : Int)))
            ((br (decide ((↑a5.length : Int) ≤ (2 : Int)))
                  ((C f_slices_ContainsFunc_Ty [AVal.v (CVal.sl a5), AVal.v (CVal.func f_i_headOk_1 [])] []).bind fun r =>
                    r.1.asBool.bind fun b => some (!b, PUnit.unit))
                  (some (false, PUnit.unit))).bind
              fun y => some (CVal.bool y.1, []))
            ((br (decide ((↑a5.length : Int) ≤ (0 : Int)))
                  ((C f_slices_ContainsFunc_Ty [AVal.v (CVal.sl a5), AVal.v (CVal.func f_i_headOk_1 [])] []).bind fun r =>
                    r.1.asBool.bind fun b => some (!b, PUnit.unit))
                  (some (false, PUnit.unit))).bind
              fun y => some (CVal.bool y.1, []))))
theorem eq_i_headOk (C : CallT) (L : LoopT) (a0 : Int) (a1 : Int) (a2 : List UInt8) (a3 : List UInt8) (a40 : Int) (a41 : Int) (a42 : List CVal) (a5 : List CVal) (a6 : List CVal) : evF E N C L f_i_headOk [AVal.v
    (CVal.agg
      [CVal.int IntKind.i64 a0, CVal.int IntKind.i64 a1, CVal.str a2, CVal.str a3, CVal.int IntKind.i64 a40,
        CVal.int IntKind.i64 a41, CVal.sl a42, CVal.sl a5, CVal.sl a6])] [] = nf_i_headOk C L a0 a1 a2 a3 a40 a41 a42 a5 a6 := by kernel_rfl
theorem go_i_headOk (a0 : Int) (a1 : Int) (a2 : List UInt8) (a3 : List UInt8) (a40 : Int) (a41 : Int) (a42 : List CVal) (a5 : List CVal) (a6 : List CVal) (R : Ret) (h : nf_i_headOk CC LL a0 a1 a2 a3 a40 a41 a42 a5 a6 = some R) : CC f_i_headOk [AVal.v
    (CVal.agg
      [CVal.int IntKind.i64 a0, CVal.int IntKind.i64 a1, CVal.str a2, CVal.str a3, CVal.int IntKind.i64 a40,
        CVal.int IntKind.i64 a41, CVal.sl a42, CVal.sl a5, CVal.sl a6])] [] = some R := fnW (by decide) ((eq_i_headOk CC LL a0 a1 a2 a3 a40 a41 a42 a5 a6).trans h)
noncomputable def nf_l_eqIntS (C : CallT) (L : LoopT) (a : List CVal) (b : List CVal) : Option Ret :=
  br (!decide ((↑a.length : Int) = (↑b.length : Int))) (some (CVal.bool false, []))
    ((L f_l_eqIntS (0 : Nat) lc_l_eqIntS_0 [] k_l_eqIntS_0 ((a, b, (0 : Int), PUnit.unit), PUnit.unit)).bind fun r =>
      loK r (fun r => some r) fun j p => br (j == (0 : Nat)) (some (CVal.bool true, [])) none)
theorem eq_l_eqIntS (C : CallT) (L : LoopT) (a : List CVal) (b : List CVal) : evF E N C L f_l_eqIntS [AVal.v (CVal.sl a), AVal.v (CVal.sl b)] [] = nf_l_eqIntS C L a b := by kernel_rfl
theorem go_l_eqIntS (a : List CVal) (b : List CVal) (R : Ret) (h : nf_l_eqIntS CC LL a b = some R) : CC f_l_eqIntS [AVal.v (CVal.sl a), AVal.v (CVal.sl b)] [] = some R := fnW (by decide) ((eq_l_eqIntS CC LL a b).trans h)
noncomputable def nf_slices_IndexFunc_Term (C : CallT) (L : LoopT) (a : List CVal) (b : CVal) : Option Ret :=
  (L f_slices_IndexFunc_Term (0 : Nat) lc_slices_IndexFunc_Term_0 [] k_slices_IndexFunc_Term_0
        ((a, b, (↑a.length : Int), (0 : Int), PUnit.unit), PUnit.unit)).bind
    fun r => loK r (fun r => some r) fun j p => br (j == (0 : Nat)) (some (CVal.int IntKind.i64 (-1 : Int), [])) none
theorem eq_slices_IndexFunc_Term (C : CallT) (L : LoopT) (a : List CVal) (b : CVal) : evF E N C L f_slices_IndexFunc_Term [AVal.v (CVal.sl a), AVal.v b] [] = nf_slices_IndexFunc_Term C L a b := by kernel_rfl
theorem go_slices_IndexFunc_Term (a : List CVal) (b : CVal) (R : Ret) (h : nf_slices_IndexFunc_Term CC LL a b = some R) : CC f_slices_IndexFunc_Term [AVal.v (CVal.sl a), AVal.v b] [] = some R := fnW (by decide) ((eq_slices_IndexFunc_Term CC LL a b).trans h)
noncomputable def nl_l_szTyS_0 (C : CallT) (L : LoopT) (x00 : List CVal) (x01 : Int) (x02 : Int) : Option (LO k_l_szTyS_0.T) :=
  br (decide (x02 < (↑x00.length : Int)))
    (br (decide ((0 : Int) ≤ x02) && true)
      (x00[x02.toNat]?.bind fun y =>
        br (CVal.fits true (3 : Nat) y)
          ((y.sub (0 : Nat) (3 : Nat)).bind fun y =>
            (C f_l_szTy [AVal.v y, AVal.v (CVal.int IntKind.i64 x01)] []).bind fun r =>
              (CVal.asInt IntKind.i64 r.1).bind fun n =>
                br (decide (n < (0 : Int))) (some (LO.ret (CVal.int IntKind.i64 (-1 : Int), [])))
                  ((CVal.asInt IntKind.i64 r.1).bind fun n =>
                    L f_l_szTyS (0 : Nat) lc_l_szTyS_0 [] k_l_szTyS_0
                      ((x00, n, IntKind.i64.wrap (x02 + (1 : Int)), PUnit.unit), PUnit.unit)))
          none)
      none)
    (some (LO.out (0 : Nat) ((x00, x01, x02, PUnit.unit), PUnit.unit)))
theorem el_l_szTyS_0 (C : CallT) (L : LoopT) (x00 : List CVal) (x01 : Int) (x02 : Int) : evL E N C L f_l_szTyS 0 lc_l_szTyS_0 [] k_l_szTyS_0 ((x00, x01, x02, ()), ()) = nl_l_szTyS_0 C L x00 x01 x02 := by kernel_rfl
theorem gl_l_szTyS_0 (x00 : List CVal) (x01 : Int) (x02 : Int) (R : LO k_l_szTyS_0.T) (h : nl_l_szTyS_0 CC LL x00 x01 x02 = some R) : LL f_l_szTyS 0 lc_l_szTyS_0 [] k_l_szTyS_0 ((x00, x01, x02, ()), ()) = some R := loopW ((el_l_szTyS_0 CC LL x00 x01 x02).trans h)
noncomputable def nl_l_szInsS_0 (C : CallT) (L : LoopT) (x00 : List CVal) (x01 : Int) (x02 : Int) : Option (LO k_l_szInsS_0.T) :=
  br (decide (x02 < (↑x00.length : Int)))
    (br (decide ((0 : Int) ≤ x02) && true)
      (x00[x02.toNat]?.bind fun y =>
        br (CVal.fits true (7 : Nat) y)
          ((y.sub (0 : Nat) (7 : Nat)).bind fun y =>
            (C f_l_szIns [AVal.v y, AVal.v (CVal.int IntKind.i64 x01)] []).bind fun r =>
              (CVal.asInt IntKind.i64 r.1).bind fun n =>
                br (decide (n < (0 : Int))) (some (LO.ret (CVal.int IntKind.i64 (-1 : Int), [])))
                  ((CVal.asInt IntKind.i64 r.1).bind fun n =>
                    L f_l_szInsS (0 : Nat) lc_l_szInsS_0 [] k_l_szInsS_0
                      ((x00, n, IntKind.i64.wrap (x02 + (1 : Int)), PUnit.unit), PUnit.unit)))
          none)
      none)
    (some (LO.out (0 : Nat) ((x00, x01, x02, PUnit.unit), PUnit.unit)))
theorem el_l_szInsS_0 (C : CallT) (L : LoopT) (x00 : List CVal) (x01 : Int) (x02 : Int) : evL E N C L f_l_szInsS 0 lc_l_szInsS_0 [] k_l_szInsS_0 ((x00, x01, x02, ()), ()) = nl_l_szInsS_0 C L x00 x01 x02 := by kernel_rfl
theorem gl_l_szInsS_0 (x00 : List CVal) (x01 : Int) (x02 : Int) (R : LO k_l_szInsS_0.T) (h : nl_l_szInsS_0 CC LL x00 x01 x02 = some R) : LL f_l_szInsS 0 lc_l_szInsS_0 [] k_l_szInsS_0 ((x00, x01, x02, ()), ()) = some R := loopW ((el_l_szInsS_0 CC LL x00 x01 x02).trans h)
noncomputable def nl_s_l1New_0 (C : CallT) (L : LoopT) (x00 : List CVal) (x01 : Int) (x02 : Int) : Option (LO k_s_l1New_0.T) :=
  (br (decide (x02 < (↑x00.length : Int))) (some (decide (x02 < (4000 : Int)), PUnit.unit))
        (some (false, PUnit.unit))).bind
    fun y =>
    br y.1
      (br (decide ((0 : Int) ≤ x02) && true)
        (x00[x02.toNat]?.bind fun y =>
          br (CVal.fits false (1 : Nat) y)
            ((y.cell (0 : Nat)).bind fun c =>
              (CVal.asInt IntKind.u8 c).bind fun n =>
                L f_s_l1New (0 : Nat) lc_s_l1New_0 [] k_s_l1New_0
                  ((x00,
                      bAnd IntKind.i64
                        (IntKind.i64.wrap
                          (IntKind.i64.wrap (IntKind.i64.wrap (x01 * (137 : Int)) + IntKind.i64.wrap n) + (11 : Int)))
                        (1073741823 : Int),
                      IntKind.i64.wrap (x02 + (1 : Int)), PUnit.unit),
                    PUnit.unit))
            none)
        none)
      (some (LO.out (0 : Nat) ((x00, x01, x02, PUnit.unit), PUnit.unit)))
theorem el_s_l1New_0 (C : CallT) (L : LoopT) (x00 : List CVal) (x01 : Int) (x02 : Int) : evL E N C L f_s_l1New 0 lc_s_l1New_0 [] k_s_l1New_0 ((x00, x01, x02, ()), ()) = nl_s_l1New_0 C L x00 x01 x02 := by kernel_rfl
theorem gl_s_l1New_0 (x00 : List CVal) (x01 : Int) (x02 : Int) (R : LO k_s_l1New_0.T) (h : nl_s_l1New_0 CC LL x00 x01 x02 = some R) : LL f_s_l1New 0 lc_s_l1New_0 [] k_s_l1New_0 ((x00, x01, x02, ()), ()) = some R := loopW ((el_s_l1New_0 CC LL x00 x01 x02).trans h)
noncomputable def nl_s_l1Look_0 (C : CallT) (L : LoopT) (x00 : Int) (x03 : Int) (x10 : Int) (x20 : Int) (x21 : Int) (x22 : List CVal) : Option (LO k_s_l1Look_0.T) :=
  br (decide (x03 < (↑x22.length : Int)))
    (br (decide ((0 : Int) ≤ x03) && true)
      (x22[x03.toNat]?.bind fun y =>
        br (CVal.fits true (3 : Nat) y)
          ((y.sub (0 : Nat) (3 : Nat)).bind fun y =>
            (C f_s_l1Look
                  [AVal.v y, AVal.v (CVal.int IntKind.i64 (IntKind.i64.wrap (x00 - (1 : Int)))),
                    AVal.lptr (0 : Nat) (0 : Nat)]
                  [PB.mk false (0 : Nat) [CVal.int IntKind.i64 x10]]).bind
              fun r =>
              r.2[(0 : Nat)]?.bind fun y =>
                br (y.length == (1 : Nat))
                  (y[(0 : Nat)]?.bind fun y =>
                    r.1.asBool.bind fun b =>
                      br (!b) (some (LO.ret (CVal.bool false, [[y]])))
                        ((CVal.asInt IntKind.i64 y).bind fun n =>
                          L f_s_l1Look (0 : Nat) lc_s_l1Look_0 [none] k_s_l1Look_0
                            ((x00, PUnit.unit, PUnit.unit, IntKind.i64.wrap (x03 + (1 : Int)), PUnit.unit),
                              (n, PUnit.unit), (x20, x21, x22, PUnit.unit), PUnit.unit)))
                  none)
          none)
      none)
    (some
      (LO.out (0 : Nat)
        ((x00, PUnit.unit, PUnit.unit, x03, PUnit.unit), (x10, PUnit.unit), (x20, x21, x22, PUnit.unit), PUnit.unit)))
theorem el_s_l1Look_0 (C : CallT) (L : LoopT) (x00 : Int) (x03 : Int) (x10 : Int) (x20 : Int) (x21 : Int) (x22 : List CVal) : evL E N C L f_s_l1Look 0 lc_s_l1Look_0 [none] k_s_l1Look_0 ((x00, (), (), x03, ()), (x10, ()), (x20, x21, x22, ()), ()) = nl_s_l1Look_0 C L x00 x03 x10 x20 x21 x22 := by kernel_rfl
theorem gl_s_l1Look_0 (x00 : Int) (x03 : Int) (x10 : Int) (x20 : Int) (x21 : Int) (x22 : List CVal) (R : LO k_s_l1Look_0.T) (h : nl_s_l1Look_0 CC LL x00 x03 x10 x20 x21 x22 = some R) : LL f_s_l1Look 0 lc_s_l1Look_0 [none] k_s_l1Look_0 ((x00, (), (), x03, ()), (x10, ()), (x20, x21, x22, ()), ()) = some R := loopW ((el_s_l1Look_0 CC LL x00 x03 x10 x20 x21 x22).trans h)
noncomputable def nl_l_toIntS_0 (C : CallT) (L : LoopT) (x00 : List CVal) (x02 : Int) (x1 : List CVal) : Option (LO k_l_toIntS_0.T) :=
  br (decide (x02 < (↑x00.length : Int)))
    (br (decide ((0 : Int) ≤ x02) && true)
      (x00[x02.toNat]?.bind fun y =>
        br (CVal.fits false (1 : Nat) y)
          ((y.cell (0 : Nat)).bind fun c =>
            br (decide ((0 : Int) ≤ x02) && true)
              (br (decide (x02.toNat < x1.length) && true)
                (x1[x02.toNat]?.bind fun y =>
                  br (CVal.fits false (1 : Nat) c)
                    (br (CVal.fits false (1 : Nat) y)
                      (L f_l_toIntS (0 : Nat) lc_l_toIntS_0 [] k_l_toIntS_0
                        ((x00, PUnit.unit, IntKind.i64.wrap (x02 + (1 : Int)), PUnit.unit), x1.set x02.toNat c,
                          PUnit.unit))
                      (br (y.isAgg && decide ((0 : Nat) + c.cells.length ≤ y.cells.length))
                        (L f_l_toIntS (0 : Nat) lc_l_toIntS_0 [] k_l_toIntS_0
                          ((x00, PUnit.unit, IntKind.i64.wrap (x02 + (1 : Int)), PUnit.unit),
                            x1.set x02.toNat (CVal.agg (splice y.cells (0 : Nat) c.cells)), PUnit.unit))
                        none))
                    none)
                none)
              none)
          none)
      none)
    (some (LO.out (0 : Nat) ((x00, PUnit.unit, x02, PUnit.unit), x1, PUnit.unit)))
theorem el_l_toIntS_0 (C : CallT) (L : LoopT) (x00 : List CVal) (x02 : Int) (x1 : List CVal) : evL E N C L f_l_toIntS 0 lc_l_toIntS_0 [] k_l_toIntS_0 ((x00, (), x02, ()), x1, ()) = nl_l_toIntS_0 C L x00 x02 x1 := by kernel_rfl
theorem gl_l_toIntS_0 (x00 : List CVal) (x02 : Int) (x1 : List CVal) (R : LO k_l_toIntS_0.T) (h : nl_l_toIntS_0 CC LL x00 x02 x1 = some R) : LL f_l_toIntS 0 lc_l_toIntS_0 [] k_l_toIntS_0 ((x00, (), x02, ()), x1, ()) = some R := loopW ((el_l_toIntS_0 CC LL x00 x02 x1).trans h)
end Go.Proofs.Ytdbgiclddcphfaa.Abs
