/- What the functions come to in the abstract machine. -/
import Derived.Test.YtdbgiclddcphfaaT2Ann
import Derived.KernelRfl
set_option linter.unusedVariables false
set_option maxRecDepth 100000
namespace Go.Proofs.Ytdbgiclddcphfaa.Abs
open Go Go.Proofs
noncomputable def nf_l_FnExactNodesOf (C : CallT) (L : LoopT) (a0 : Int) (a1 : Int) (a2 : List UInt8) (a3 : List UInt8) (a40 : Int) (a41 : Int) (a42 : List CVal) (a5 : List CVal) (a6 : List CVal) : Option Ret :=
  (C f_l_szTerm
        [AVal.v
            (CVal.agg
              [CVal.int IntKind.i64 a0, CVal.int IntKind.i64 a1, CVal.str a2, CVal.str a3, CVal.int IntKind.i64 a40,
                CVal.int IntKind.i64 a41, CVal.sl a42, CVal.sl a5, CVal.sl a6]),
          AVal.v (CVal.int IntKind.i64 (1048576 : Int))]
        []).bind
    fun r =>
    (CVal.asInt IntKind.i64 r.1).bind fun n =>
      br (decide (n < (0 : Int))) (some (CVal.bool true, []))
        ((C f_l_toTerm
              [AVal.v
                  (CVal.agg
                    [CVal.int IntKind.i64 a0, CVal.int IntKind.i64 a1, CVal.str a2, CVal.str a3, CVal.int IntKind.i64 a40,
                      CVal.int IntKind.i64 a41, CVal.sl a42, CVal.sl a5, CVal.sl a6])]
              []).bind
          fun r =>
          (C f_s_NodesOf [AVal.v r.1] []).bind fun r =>
            (C f_l_toTerm
                  [AVal.v
                      (CVal.agg
                        [CVal.int IntKind.i64 a0, CVal.int IntKind.i64 a1, CVal.str a2, CVal.str a3,
                          CVal.int IntKind.i64 a40, CVal.int IntKind.i64 a41, CVal.sl a42, CVal.sl a5, CVal.sl a6])]
                  []).bind
              fun r_1 =>
              br (CVal.isAggN (9 : Nat) r_1.1)
                ((r_1.1.cell (0 : Nat)).bind fun c =>
                  (r_1.1.cell (1 : Nat)).bind fun c_1 =>
                    (r_1.1.cell (2 : Nat)).bind fun c_2 =>
                      (r_1.1.cell (3 : Nat)).bind fun c_3 =>
                        (r_1.1.cell (4 : Nat)).bind fun c_4 =>
                          (r_1.1.cell (5 : Nat)).bind fun c_5 =>
                            (r_1.1.cell (6 : Nat)).bind fun c_6 =>
                              (r_1.1.cell (7 : Nat)).bind fun c_7 =>
                                (r_1.1.cell (8 : Nat)).bind fun c_8 =>
                                  (C f_i_NodesOf [AVal.v (CVal.agg [c, c_1, c_2, c_3, c_4, c_5, c_6, c_7, c_8])] []).bind
                                    fun r_2 =>
                                    (CVal.asInt IntKind.i64 r_2.1).bind fun n =>
                                      (CVal.asInt IntKind.i64 r.1).bind fun n_1 =>
                                        br (!decide (n = n_1)) (some (CVal.bool false, []))
                                          ((C f_l_toTerm
                                                [AVal.v
                                                    (CVal.agg
                                                      [CVal.int IntKind.i64 a0, CVal.int IntKind.i64 a1, CVal.str a2,
                                                        CVal.str a3, CVal.int IntKind.i64 a40, CVal.int IntKind.i64 a41,
                                                        CVal.sl a42, CVal.sl a5, CVal.sl a6])]
                                                []).bind
                                            fun r =>
                                            (C f_l_eqTerm
                                                  [AVal.v (CVal.agg [c, c_1, c_2, c_3, c_4, c_5, c_6, c_7, c_8]),
                                                    AVal.v r.1]
                                                  []).bind
                                              fun r =>
                                              r.1.asBool.bind fun b =>
                                                br (!b) (some (CVal.bool false, [])) (some (CVal.bool true, []))))
                none)
theorem eq_l_FnExactNodesOf (C : CallT) (L : LoopT) (a0 : Int) (a1 : Int) (a2 : List UInt8) (a3 : List UInt8) (a40 : Int) (a41 : Int) (a42 : List CVal) (a5 : List CVal) (a6 : List CVal) : evF E N C L f_l_FnExactNodesOf [AVal.v
    (CVal.agg
      [CVal.int IntKind.i64 a0, CVal.int IntKind.i64 a1, CVal.str a2, CVal.str a3, CVal.int IntKind.i64 a40,
        CVal.int IntKind.i64 a41, CVal.sl a42, CVal.sl a5, CVal.sl a6])] [] = nf_l_FnExactNodesOf C L a0 a1 a2 a3 a40 a41 a42 a5 a6 := by kernel_rfl
theorem go_l_FnExactNodesOf (a0 : Int) (a1 : Int) (a2 : List UInt8) (a3 : List UInt8) (a40 : Int) (a41 : Int) (a42 : List CVal) (a5 : List CVal) (a6 : List CVal) (R : Ret) (h : nf_l_FnExactNodesOf CC LL a0 a1 a2 a3 a40 a41 a42 a5 a6 = some R) : CC f_l_FnExactNodesOf [AVal.v
    (CVal.agg
      [CVal.int IntKind.i64 a0, CVal.int IntKind.i64 a1, CVal.str a2, CVal.str a3, CVal.int IntKind.i64 a40,
        CVal.int IntKind.i64 a41, CVal.sl a42, CVal.sl a5, CVal.sl a6])] [] = some R := fnW (by decide) ((eq_l_FnExactNodesOf CC LL a0 a1 a2 a3 a40 a41 a42 a5 a6).trans h)
noncomputable def nf_s_VarsOf (C : CallT) (L : LoopT) (a0 : Int) (a1 : Int) (a2 : List CVal) : Option Ret :=
  (C f_s_TyOk [AVal.v (CVal.agg [CVal.int IntKind.i64 a0, CVal.int IntKind.i64 a1, CVal.sl a2])] []).bind fun r =>
    r.1.asBool.bind fun b =>
      br (!b) (some (CVal.int IntKind.i64 (0 : Int), []))
        ((C f_s_l1Vars [AVal.v (CVal.agg [CVal.int IntKind.i64 a0, CVal.int IntKind.i64 a1, CVal.sl a2])] []).bind
          fun r => some (r.1, []))
theorem eq_s_VarsOf (C : CallT) (L : LoopT) (a0 : Int) (a1 : Int) (a2 : List CVal) : evF E N C L f_s_VarsOf [AVal.v (CVal.agg [CVal.int IntKind.i64 a0, CVal.int IntKind.i64 a1, CVal.sl a2])] [] = nf_s_VarsOf C L a0 a1 a2 := by kernel_rfl
theorem go_s_VarsOf (a0 : Int) (a1 : Int) (a2 : List CVal) (R : Ret) (h : nf_s_VarsOf CC LL a0 a1 a2 = some R) : CC f_s_VarsOf [AVal.v (CVal.agg [CVal.int IntKind.i64 a0, CVal.int IntKind.i64 a1, CVal.sl a2])] [] = some R := fnW (by decide) ((eq_s_VarsOf CC LL a0 a1 a2).trans h)
noncomputable def nf_l_toPiece (C : CallT) (L : LoopT) (a0 : Int) (a1 : Int) (a2 : Int) (a3 : List CVal) : Option Ret :=
  (C f_l_toInsS [AVal.v (CVal.sl a3)] []).bind fun r =>
    br (r.1.isFlat && true)
      (some (CVal.agg [CVal.int IntKind.i64 a0, CVal.int IntKind.i64 a1, CVal.int IntKind.i64 a2, r.1], [])) none
theorem eq_l_toPiece (C : CallT) (L : LoopT) (a0 : Int) (a1 : Int) (a2 : Int) (a3 : List CVal) : evF E N C L f_l_toPiece [AVal.v (CVal.agg [CVal.int IntKind.i64 a0, CVal.int IntKind.i64 a1, CVal.int IntKind.i64 a2, CVal.sl a3])] [] = nf_l_toPiece C L a0 a1 a2 a3 := by kernel_rfl
theorem go_l_toPiece (a0 : Int) (a1 : Int) (a2 : Int) (a3 : List CVal) (R : Ret) (h : nf_l_toPiece CC LL a0 a1 a2 a3 = some R) : CC f_l_toPiece [AVal.v (CVal.agg [CVal.int IntKind.i64 a0, CVal.int IntKind.i64 a1, CVal.int IntKind.i64 a2, CVal.sl a3])] [] = some R := fnW (by decide) ((eq_l_toPiece CC LL a0 a1 a2 a3).trans h)
noncomputable def nf_i_SubstTy (C : CallT) (L : LoopT) (a0 : Int) (a1 : Int) (a2 : List CVal) (b : List CVal) : Option Ret :=
  ((C f_i_TyOk [AVal.v (CVal.agg [CVal.int IntKind.i64 a0, CVal.int IntKind.i64 a1, CVal.sl a2])] []).bind fun r =>
        r.1.asBool.bind fun b_1 =>
          br (!b_1) (some (true, PUnit.unit))
            ((C f_slices_ContainsFunc_Ty [AVal.v (CVal.sl b), AVal.v (CVal.func f_i_SubstTy_1 [])] []).bind fun r =>
              (bif false then CVal.bool true else r.1).asBool.bind fun b_2 =>
                br b_2 (some (true, PUnit.unit))
                  ((C f_i_VarsOf [AVal.v (CVal.agg [CVal.int IntKind.i64 a0, CVal.int IntKind.i64 a1, CVal.sl a2])]
                        []).bind
                    fun r =>
                    (CVal.asInt IntKind.i64 r.1).bind fun n => some (decide ((↑b.length : Int) < n), PUnit.unit)))).bind
    fun y =>
    br y.1
      (some
        (CVal.tup
            [CVal.agg [CVal.int IntKind.i64 (0 : Int), CVal.int IntKind.i64 (0 : Int), CVal.sl []], CVal.bool false],
          []))
      ((C f_i_subst [AVal.v (CVal.agg [CVal.int IntKind.i64 a0, CVal.int IntKind.i64 a1, CVal.sl a2]), AVal.v (CVal.sl b)]
            []).bind
        fun r =>
        br (CVal.isAggN (3 : Nat) r.1)
          ((r.1.cell (0 : Nat)).bind fun c =>
            (r.1.cell (1 : Nat)).bind fun c_1 =>
              (r.1.cell (2 : Nat)).bind fun c_2 =>
                (C f_i_TyOk [AVal.v (CVal.agg [c, c_1, c_2])] []).bind fun r =>
                  r.1.asBool.bind fun b =>
                    br (!b)
                      (some
                        (CVal.tup
                            [CVal.agg [CVal.int IntKind.i64 (0 : Int), CVal.int IntKind.i64 (0 : Int), CVal.sl []],
                              CVal.bool false],
                          []))
                      (some (CVal.tup [CVal.agg [c, c_1, c_2], CVal.bool true], [])))
          none)
theorem eq_i_SubstTy (C : CallT) (L : LoopT) (a0 : Int) (a1 : Int) (a2 : List CVal) (b : List CVal) : evF E N C L f_i_SubstTy [AVal.v (CVal.agg [CVal.int IntKind.i64 a0, CVal.int IntKind.i64 a1, CVal.sl a2]), AVal.v (CVal.sl b)] [] = nf_i_SubstTy C L a0 a1 a2 b := by kernel_rfl
theorem go_i_SubstTy (a0 : Int) (a1 : Int) (a2 : List CVal) (b : List CVal) (R : Ret) (h : nf_i_SubstTy CC LL a0 a1 a2 b = some R) : CC f_i_SubstTy [AVal.v (CVal.agg [CVal.int IntKind.i64 a0, CVal.int IntKind.i64 a1, CVal.sl a2]), AVal.v (CVal.sl b)] [] = some R := fnW (by decide) ((eq_i_SubstTy CC LL a0 a1 a2 b).trans h)
noncomputable def nf_s_Plain (C : CallT) (L : LoopT) (a0 : Int) (a1 : Int) (a2 : List UInt8) (a3 : List UInt8) (a40 : Int) (a41 : Int) (a42 : List CVal) (a5 : List CVal) (a6 : List CVal) : Option Ret :=
  ((C f_s_TermOk
            [AVal.v
                (CVal.agg
                  [CVal.int IntKind.i64 a0, CVal.int IntKind.i64 a1, CVal.str a2, CVal.str a3, CVal.int IntKind.i64 a40,
                    CVal.int IntKind.i64 a41, CVal.sl a42, CVal.sl a5, CVal.sl a6])]
            []).bind
        fun r =>
        r.1.asBool.bind fun b =>
          br b
            ((C f_s_l2Plain
                  [AVal.v
                      (CVal.agg
                        [CVal.int IntKind.i64 a0, CVal.int IntKind.i64 a1, CVal.str a2, CVal.str a3,
                          CVal.int IntKind.i64 a40, CVal.int IntKind.i64 a41, CVal.sl a42, CVal.sl a5, CVal.sl a6])]
                  []).bind
              fun r => (bif true then r.1 else CVal.bool false).asBool.bind fun b => some (b, PUnit.unit))
            (some (false, PUnit.unit))).bind
    fun y => some (CVal.bool y.1, [])
theorem eq_s_Plain (C : CallT) (L : LoopT) (a0 : Int) (a1 : Int) (a2 : List UInt8) (a3 : List UInt8) (a40 : Int) (a41 : Int) (a42 : List CVal) (a5 : List CVal) (a6 : List CVal) : evF E N C L f_s_Plain [AVal.v
    (CVal.agg
      [CVal.int IntKind.i64 a0, CVal.int IntKind.i64 a1, CVal.str a2, CVal.str a3, CVal.int IntKind.i64 a40,
        CVal.int IntKind.i64 a41, CVal.sl a42, CVal.sl a5, CVal.sl a6])] [] = nf_s_Plain C L a0 a1 a2 a3 a40 a41 a42 a5 a6 := by kernel_rfl
theorem go_s_Plain (a0 : Int) (a1 : Int) (a2 : List UInt8) (a3 : List UInt8) (a40 : Int) (a41 : Int) (a42 : List CVal) (a5 : List CVal) (a6 : List CVal) (R : Ret) (h : nf_s_Plain CC LL a0 a1 a2 a3 a40 a41 a42 a5 a6 = some R) : CC f_s_Plain [AVal.v
    (CVal.agg
      [CVal.int IntKind.i64 a0, CVal.int IntKind.i64 a1, CVal.str a2, CVal.str a3, CVal.int IntKind.i64 a40,
        CVal.int IntKind.i64 a41, CVal.sl a42, CVal.sl a5, CVal.sl a6])] [] = some R := fnW (by decide) ((eq_s_Plain CC LL a0 a1 a2 a3 a40 a41 a42 a5 a6).trans h)
noncomputable def nf_i_anyTy (C : CallT) (L : LoopT) (a0 : Int) (a1 : Int) (a2 : List CVal) (b : CVal) : Option Ret :=
  br (b.isFlat && true)
    (((b.cell (0 : Nat)).bind fun c =>
          (C apId [AVal.v c, AVal.v (CVal.agg [CVal.int IntKind.i64 a0, CVal.int IntKind.i64 a1, CVal.sl a2])] []).bind
            fun r =>
            r.1.asBool.bind fun b_1 =>
              br b_1 (some (true, PUnit.unit))
                ((C f_slices_ContainsFunc_Ty [AVal.v (CVal.sl a2), AVal.v (CVal.func f_i_anyTy_1 [b.fp (0 : Nat)])]
                      []).bind
                  fun r => (bif false then CVal.bool true else r.1).asBool.bind fun b => some (b, PUnit.unit))).bind
      fun y => some (CVal.bool y.1, []))
    none
theorem eq_i_anyTy (C : CallT) (L : LoopT) (a0 : Int) (a1 : Int) (a2 : List CVal) (b : CVal) : evF E N C L f_i_anyTy [AVal.v (CVal.agg [CVal.int IntKind.i64 a0, CVal.int IntKind.i64 a1, CVal.sl a2]), AVal.v b] [] = nf_i_anyTy C L a0 a1 a2 b := by kernel_rfl
theorem go_i_anyTy (a0 : Int) (a1 : Int) (a2 : List CVal) (b : CVal) (R : Ret) (h : nf_i_anyTy CC LL a0 a1 a2 b = some R) : CC f_i_anyTy [AVal.v (CVal.agg [CVal.int IntKind.i64 a0, CVal.int IntKind.i64 a1, CVal.sl a2]), AVal.v b] [] = some R := fnW (by decide) ((eq_i_anyTy CC LL a0 a1 a2 b).trans h)
noncomputable def nf_l_szInsS (C : CallT) (L : LoopT) (a : List CVal) (b : Int) : Option Ret :=
  br (decide (IntKind.i64.wrap (b - (↑a.length : Int)) < (0 : Int))) (some (CVal.int IntKind.i64 (-1 : Int), []))
    ((L f_l_szInsS (0 : Nat) lc_l_szInsS_0 [] k_l_szInsS_0
          ((a, IntKind.i64.wrap (b - (↑a.length : Int)), (0 : Int), PUnit.unit), PUnit.unit)).bind
      fun r => loK r (fun r => some r) fun j p => br (j == (0 : Nat)) (some (CVal.int IntKind.i64 p.fst.snd.1, [])) none)
theorem eq_l_szInsS (C : CallT) (L : LoopT) (a : List CVal) (b : Int) : evF E N C L f_l_szInsS [AVal.v (CVal.sl a), AVal.v (CVal.int IntKind.i64 b)] [] = nf_l_szInsS C L a b := by kernel_rfl
theorem go_l_szInsS (a : List CVal) (b : Int) (R : Ret) (h : nf_l_szInsS CC LL a b = some R) : CC f_l_szInsS [AVal.v (CVal.sl a), AVal.v (CVal.int IntKind.i64 b)] [] = some R := fnW (by decide) ((eq_l_szInsS CC LL a b).trans h)
noncomputable def nf_s_l1New (C : CallT) (L : LoopT) (a : List CVal) : Option Ret :=
  (L f_s_l1New (0 : Nat) lc_s_l1New_0 [] k_s_l1New_0
        ((a, IntKind.i64.wrap ((122122 : Int) + (↑a.length : Int)), (0 : Int), PUnit.unit), PUnit.unit)).bind
    fun r =>
    loK r (fun r => some r) fun j p =>
      br (j == (0 : Nat))
        (some
          ((CVal.agg [CVal.sl p.fst.1, CVal.int IntKind.i64 (0 : Int), CVal.int IntKind.i64 p.fst.snd.1]).fp (0 : Nat),
            []))
        none
theorem eq_s_l1New (C : CallT) (L : LoopT) (a : List CVal) : evF E N C L f_s_l1New [AVal.v (CVal.sl a)] [] = nf_s_l1New C L a := by kernel_rfl
theorem go_s_l1New (a : List CVal) (R : Ret) (h : nf_s_l1New CC LL a = some R) : CC f_s_l1New [AVal.v (CVal.sl a)] [] = some R := fnW (by decide) ((eq_s_l1New CC LL a).trans h)
noncomputable def nf_s_l2Look (C : CallT) (L : LoopT) (a0 : Int) (a1 : Int) (a2 : List UInt8) (a3 : List UInt8) (a40 : Int) (a41 : Int) (a42 : List CVal) (a5 : List CVal) (a6 : List CVal) (b : Int) (c : Int) : Option Ret :=
  (br (decide (b = (0 : Int))) (some (true, PUnit.unit))
        (br (decide ((150 : Int) < IntKind.i64.wrap (c + (1 : Int)))) (some (true, PUnit.unit))
          ((C f_s_l2One
                [AVal.v
                    (CVal.agg
                      [CVal.int IntKind.i64 a0, CVal.int IntKind.i64 a1, CVal.str a2, CVal.str a3,
                        CVal.int IntKind.i64 a40, CVal.int IntKind.i64 a41, CVal.sl a42, CVal.sl a5, CVal.sl a6])]
                []).bind
            fun r => r.1.asBool.bind fun b => some (!b, PUnit.unit)))).bind
    fun y =>
    br y.1 (some (CVal.bool false, [[CVal.int IntKind.i64 (IntKind.i64.wrap (c + (1 : Int)))]]))
      ((L f_s_l2Look (0 : Nat) lc_s_l2Look_0 [none] k_s_l2Look_0
            ((b, PUnit.unit, PUnit.unit, (0 : Int), PUnit.unit), (IntKind.i64.wrap (c + (1 : Int)), PUnit.unit),
              (a0, a1, a2, a3, a40, a41, a42, a5, a6, PUnit.unit), PUnit.unit)).bind
        fun r =>
        loK r (fun r => some r) fun j p =>
          br (j == (0 : Nat)) (some (CVal.bool true, [[CVal.int IntKind.i64 p.snd.fst.1]])) none)
theorem eq_s_l2Look (C : CallT) (L : LoopT) (a0 : Int) (a1 : Int) (a2 : List UInt8) (a3 : List UInt8) (a40 : Int) (a41 : Int) (a42 : List CVal) (a5 : List CVal) (a6 : List CVal) (b : Int) (c : Int) : evF E N C L f_s_l2Look [AVal.v
    (CVal.agg
      [CVal.int IntKind.i64 a0, CVal.int IntKind.i64 a1, CVal.str a2, CVal.str a3, CVal.int IntKind.i64 a40,
        CVal.int IntKind.i64 a41, CVal.sl a42, CVal.sl a5, CVal.sl a6]),
  AVal.v (CVal.int IntKind.i64 b), AVal.lptr (0 : Nat) (0 : Nat)] [PB.mk false (0 : Nat) [CVal.int IntKind.i64 c]] = nf_s_l2Look C L a0 a1 a2 a3 a40 a41 a42 a5 a6 b c := by kernel_rfl
theorem go_s_l2Look (a0 : Int) (a1 : Int) (a2 : List UInt8) (a3 : List UInt8) (a40 : Int) (a41 : Int) (a42 : List CVal) (a5 : List CVal) (a6 : List CVal) (b : Int) (c : Int) (R : Ret) (h : nf_s_l2Look CC LL a0 a1 a2 a3 a40 a41 a42 a5 a6 b c = some R) : CC f_s_l2Look [AVal.v
    (CVal.agg
      [CVal.int IntKind.i64 a0, CVal.int IntKind.i64 a1, CVal.str a2, CVal.str a3, CVal.int IntKind.i64 a40,
        CVal.int IntKind.i64 a41, CVal.sl a42, CVal.sl a5, CVal.sl a6]),
  AVal.v (CVal.int IntKind.i64 b), AVal.lptr (0 : Nat) (0 : Nat)] [PB.mk false (0 : Nat) [CVal.int IntKind.i64 c]] = some R := fnW (by decide) ((eq_s_l2Look CC LL a0 a1 a2 a3 a40 a41 a42 a5 a6 b c).trans h)
noncomputable def nf_i_anyTy_1 (C : CallT) (L : LoopT) (a0 : Int) (a1 : Int) (a2 : List CVal) (b : CVal) : Option Ret :=
  (b.cell (0 : Nat)).bind fun c =>
    (C f_i_anyTy [AVal.v (CVal.agg [CVal.int IntKind.i64 a0, CVal.int IntKind.i64 a1, CVal.sl a2]), AVal.v c] []).bind
      fun r => some (r.1, [])
theorem eq_i_anyTy_1 (C : CallT) (L : LoopT) (a0 : Int) (a1 : Int) (a2 : List CVal) (b : CVal) : evF E N C L f_i_anyTy_1 [AVal.v (CVal.agg [CVal.int IntKind.i64 a0, CVal.int IntKind.i64 a1, CVal.sl a2]), AVal.v (b.fp (0 : Nat))] [] = nf_i_anyTy_1 C L a0 a1 a2 b := by kernel_rfl
theorem go_i_anyTy_1 (a0 : Int) (a1 : Int) (a2 : List CVal) (b : CVal) (R : Ret) (h : nf_i_anyTy_1 CC LL a0 a1 a2 b = some R) : CC f_i_anyTy_1 [AVal.v (CVal.agg [CVal.int IntKind.i64 a0, CVal.int IntKind.i64 a1, CVal.sl a2]), AVal.v (b.fp (0 : Nat))] [] = some R := fnW (by decide) ((eq_i_anyTy_1 CC LL a0 a1 a2 b).trans h)
noncomputable def nf_s_l1Bend (C : CallT) (L : LoopT) (a : CVal) (b0 : Int) (b1 : Int) (b2 : List CVal) : Option Ret :=
  (C f_s_l1Copy [AVal.v (CVal.agg [CVal.int IntKind.i64 b0, CVal.int IntKind.i64 b1, CVal.sl b2])] []).bind fun r =>
    br (CVal.isAggN (3 : Nat) r.1)
      ((r.1.cell (0 : Nat)).bind fun c =>
        (r.1.cell (1 : Nat)).bind fun c_1 =>
          (r.1.cell (2 : Nat)).bind fun c_2 =>
            (c_2.asSl.bind fun xs =>
                  br (decide ((0 : Int) < (↑xs.length : Int)))
                    ((C f_s_l1Once [AVal.v a, AVal.v (CVal.int IntKind.i64 (2 : Int))] []).bind fun r =>
                      (bif true then r.1 else CVal.bool false).asBool.bind fun b => some (b, PUnit.unit))
                    (some (false, PUnit.unit))).bind
              fun y =>
              br y.1
                (c_2.asSl.bind fun xs =>
                  (C f_s_l1Below [AVal.v a, AVal.v (CVal.int IntKind.i64 (↑xs.length : Int))] []).bind fun r =>
                    r.1.asIdx.bind fun y =>
                      br (decide ((0 : Int) ≤ y) && true)
                        (c_2.asSl.bind fun xs =>
                          xs[y.toNat]?.bind fun y =>
                            br (CVal.fits true (3 : Nat) y)
                              ((y.sub (0 : Nat) (3 : Nat)).bind fun y =>
                                (C f_s_l1Bend [AVal.v a, AVal.v y] []).bind fun r_1 =>
                                  r.1.asIdx.bind fun y =>
                                    br (decide ((0 : Int) ≤ y) && true)
                                      (c_2.asSl.bind fun xs =>
                                        xs[y.toNat]?.bind fun y => br (CVal.fits true (3 : Nat) y) none none)
                                      none)
                              none)
                        none)
                ((C f_s_l1Below [AVal.v a, AVal.v (CVal.int IntKind.i64 (5 : Int))] []).bind fun r =>
                  (CVal.asInt IntKind.i64 r.1).bind fun n =>
                    br (decide (n = (0 : Int)))
                      ((C f_s_l1Below [AVal.v a, AVal.v (CVal.int IntKind.i64 (8 : Int))] []).bind fun r =>
                        br (r.1.isFlat && true) (some (CVal.agg [r.1, c_1, c_2], [])) none)
                      ((CVal.asInt IntKind.i64 r.1).bind fun n =>
                        br (decide (n = (1 : Int)))
                          ((C f_s_l1Int
                                [AVal.v a,
                                  AVal.v
                                    (CVal.sl
                                      [CVal.int IntKind.i64 (0 : Int), CVal.int IntKind.i64 (1 : Int),
                                        CVal.int IntKind.i64 (2 : Int), CVal.int IntKind.i64 (-1 : Int)])]
                                []).bind
                            fun r => br (r.1.isFlat && true) (some (CVal.agg [c, r.1, c_2], [])) none)
                          ((CVal.asInt IntKind.i64 r.1).bind fun n =>
                            br (decide (n = (2 : Int))) none
                              ((CVal.asInt IntKind.i64 r.1).bind fun n =>
                                br (decide (n = (3 : Int)))
                                  ((CVal.asInt IntKind.i64 c).bind fun n =>
                                    (CVal.asInt IntKind.i64 c_1).bind fun n_1 =>
                                      c_2.asSl.bind fun xs =>
                                        (L f_s_l1Bend (1 : Nat) lc_s_l1Bend_1 [] k_s_l1Bend_1
                                              ((PUnit.unit, PUnit.unit, (0 : Int), PUnit.unit), (n, n_1, xs, PUnit.unit),
                                                ((0 : Int), (0 : Int), [], PUnit.unit), PUnit.unit)).bind
                                          fun r =>
                                          loK r (fun r => some r) fun j p =>
                                            br (j == (1 : Nat))
                                              (some
                                                (CVal.agg
                                                    [CVal.int IntKind.i64 p.snd.fst.1,
                                                      CVal.int IntKind.i64 p.snd.fst.snd.1, CVal.sl p.snd.fst.snd.snd.1],
                                                  []))
                                              (br (j == (0 : Nat))
                                                (some
                                                  (CVal.agg
                                                      [CVal.int IntKind.i64 p.snd.fst.1,
                                                        CVal.int IntKind.i64 p.snd.fst.snd.1,
                                                        CVal.sl p.snd.fst.snd.snd.1],
                                                    []))
                                                none))
                                  (some (CVal.agg [c, c_1, c_2], [])))))))
      none
theorem eq_s_l1Bend (C : CallT) (L : LoopT) (a : CVal) (b0 : Int) (b1 : Int) (b2 : List CVal) : evF E N C L f_s_l1Bend [AVal.v a, AVal.v (CVal.agg [CVal.int IntKind.i64 b0, CVal.int IntKind.i64 b1, CVal.sl b2])] [] = nf_s_l1Bend C L a b0 b1 b2 := by kernel_rfl
theorem go_s_l1Bend (a : CVal) (b0 : Int) (b1 : Int) (b2 : List CVal) (R : Ret) (h : nf_s_l1Bend CC LL a b0 b1 b2 = some R) : CC f_s_l1Bend [AVal.v a, AVal.v (CVal.agg [CVal.int IntKind.i64 b0, CVal.int IntKind.i64 b1, CVal.sl b2])] [] = some R := fnW (by decide) ((eq_s_l1Bend CC LL a b0 b1 b2).trans h)
noncomputable def nf_s_l2Name (C : CallT) (L : LoopT) (a : List UInt8) (b : Bool) : Option Ret :=
  ((C f_s_l1In
            [AVal.v (CVal.int IntKind.i64 (↑a.length : Int)), AVal.v (CVal.int IntKind.i64 (1 : Int)),
              AVal.v (CVal.int IntKind.i64 (8 : Int))]
            []).bind
        fun r =>
        r.1.asBool.bind fun b =>
          br (!b) (some (true, PUnit.unit))
            (a[(0 : Nat)]?.bind fun y =>
              (C f_s_l1In
                    [AVal.v (CVal.int IntKind.i64 (IntKind.i64.wrap (↑y.toNat : Int))),
                      AVal.v (CVal.int IntKind.i64 (97 : Int)), AVal.v (CVal.int IntKind.i64 (122 : Int))]
                    []).bind
                fun r => r.1.asBool.bind fun b => some (!b, PUnit.unit))).bind
    fun y =>
    br y.1 (some (CVal.bool false, []))
      ((L f_s_l2Name (0 : Nat) lc_s_l2Name_0 [] k_s_l2Name_0 ((a, b, (0 : Int), PUnit.unit), PUnit.unit)).bind fun r =>
        loK r (fun r => some r) fun j p => br (j == (0 : Nat)) (some (CVal.bool true, [])) none)
theorem eq_s_l2Name (C : CallT) (L : LoopT) (a : List UInt8) (b : Bool) : evF E N C L f_s_l2Name [AVal.v (CVal.str a), AVal.v (CVal.bool b)] [] = nf_s_l2Name C L a b := by kernel_rfl
theorem go_s_l2Name (a : List UInt8) (b : Bool) (R : Ret) (h : nf_s_l2Name CC LL a b = some R) : CC f_s_l2Name [AVal.v (CVal.str a), AVal.v (CVal.bool b)] [] = some R := fnW (by decide) ((eq_s_l2Name CC LL a b).trans h)
noncomputable def nf_s_l1Byte (C : CallT) (L : LoopT) (a : CVal) : Option Ret :=
  a.asFp.bind fun y =>
    (y.1.cell (y.2 + (2 : Nat))).bind fun c => (CVal.asInt IntKind.i64 c).bind fun n => a.asFp.bind fun y => none
theorem eq_s_l1Byte (C : CallT) (L : LoopT) (a : CVal) : evF E N C L f_s_l1Byte [AVal.v a] [] = nf_s_l1Byte C L a := by kernel_rfl
theorem go_s_l1Byte (a : CVal) (R : Ret) (h : nf_s_l1Byte CC LL a = some R) : CC f_s_l1Byte [AVal.v a] [] = some R := fnW (by decide) ((eq_s_l1Byte CC LL a).trans h)
noncomputable def nf_i_isName (C : CallT) (L : LoopT) (a : List UInt8) : Option Ret :=
  (L f_i_isName (0 : Nat) lc_i_isName_0 [] k_i_isName_0 ((a, (↑a.length : Int), (0 : Int), PUnit.unit), PUnit.unit)).bind
    fun r =>
    loK r (fun r => some r) fun j p =>
      br (j == (0 : Nat))
        ((C f_i_in
              [AVal.v (CVal.int IntKind.i64 (↑(List.length p.fst.1) : Int)), AVal.v (CVal.int IntKind.i64 (1 : Int)),
                AVal.v (CVal.int IntKind.i64 (8 : Int))]
              []).bind
          fun r => some (r.1, []))
        none
theorem eq_i_isName (C : CallT) (L : LoopT) (a : List UInt8) : evF E N C L f_i_isName [AVal.v (CVal.str a)] [] = nf_i_isName C L a := by kernel_rfl
theorem go_i_isName (a : List UInt8) (R : Ret) (h : nf_i_isName CC LL a = some R) : CC f_i_isName [AVal.v (CVal.str a)] [] = some R := fnW (by decide) ((eq_i_isName CC LL a).trans h)
noncomputable def nl_l_toTyS_0 (C : CallT) (L : LoopT) (x00 : List CVal) (x02 : Int) (x1 : List CVal) : Option (LO k_l_toTyS_0.T) :=
  br (decide (x02 < (↑x00.length : Int)))
    (br (decide ((0 : Int) ≤ x02) && true)
      (x00[x02.toNat]?.bind fun y =>
        br (CVal.fits true (3 : Nat) y)
          ((y.sub (0 : Nat) (3 : Nat)).bind fun y =>
            (C f_l_toTy [AVal.v y] []).bind fun r =>
              br (decide ((0 : Int) ≤ x02) && true)
                (br (decide (x02.toNat < x1.length) && true)
                  (x1[x02.toNat]?.bind fun y =>
                    br (CVal.fits true (3 : Nat) r.1)
                      (br (CVal.fits true (3 : Nat) y)
                        (L f_l_toTyS (0 : Nat) lc_l_toTyS_0 [] k_l_toTyS_0
                          ((x00, PUnit.unit, IntKind.i64.wrap (x02 + (1 : Int)), PUnit.unit), x1.set x02.toNat r.1,
                            PUnit.unit))
                        (br (y.isAgg && decide ((0 : Nat) + r.1.cells.length ≤ y.cells.length))
                          (L f_l_toTyS (0 : Nat) lc_l_toTyS_0 [] k_l_toTyS_0
                            ((x00, PUnit.unit, IntKind.i64.wrap (x02 + (1 : Int)), PUnit.unit),
                              x1.set x02.toNat (CVal.agg (splice y.cells (0 : Nat) r.1.cells)), PUnit.unit))
                          none))
                      none)
                  none)
                none)
          none)
      none)
    (some (LO.out (0 : Nat) ((x00, PUnit.unit, x02, PUnit.unit), x1, PUnit.unit)))
theorem el_l_toTyS_0 (C : CallT) (L : LoopT) (x00 : List CVal) (x02 : Int) (x1 : List CVal) : evL E N C L f_l_toTyS 0 lc_l_toTyS_0 [] k_l_toTyS_0 ((x00, (), x02, ()), x1, ()) = nl_l_toTyS_0 C L x00 x02 x1 := by kernel_rfl
theorem gl_l_toTyS_0 (x00 : List CVal) (x02 : Int) (x1 : List CVal) (R : LO k_l_toTyS_0.T) (h : nl_l_toTyS_0 CC LL x00 x02 x1 = some R) : LL f_l_toTyS 0 lc_l_toTyS_0 [] k_l_toTyS_0 ((x00, (), x02, ()), x1, ()) = some R := loopW ((el_l_toTyS_0 CC LL x00 x02 x1).trans h)
noncomputable def nl_l_toInsS_0 (C : CallT) (L : LoopT) (x00 : List CVal) (x02 : Int) (x1 : List CVal) : Option (LO k_l_toInsS_0.T) :=
  br (decide (x02 < (↑x00.length : Int)))
    (br (decide ((0 : Int) ≤ x02) && true)
      (x00[x02.toNat]?.bind fun y =>
        br (CVal.fits true (7 : Nat) y)
          ((y.sub (0 : Nat) (7 : Nat)).bind fun y =>
            (C f_l_toIns [AVal.v y] []).bind fun r =>
              br (decide ((0 : Int) ≤ x02) && true)
                (br (decide (x02.toNat < x1.length) && true)
                  (x1[x02.toNat]?.bind fun y =>
                    br (CVal.fits true (7 : Nat) r.1)
                      (br (CVal.fits true (7 : Nat) y)
                        (L f_l_toInsS (0 : Nat) lc_l_toInsS_0 [] k_l_toInsS_0
                          ((x00, PUnit.unit, IntKind.i64.wrap (x02 + (1 : Int)), PUnit.unit), x1.set x02.toNat r.1,
                            PUnit.unit))
                        (br (y.isAgg && decide ((0 : Nat) + r.1.cells.length ≤ y.cells.length))
                          (L f_l_toInsS (0 : Nat) lc_l_toInsS_0 [] k_l_toInsS_0
                            ((x00, PUnit.unit, IntKind.i64.wrap (x02 + (1 : Int)), PUnit.unit),
                              x1.set x02.toNat (CVal.agg (splice y.cells (0 : Nat) r.1.cells)), PUnit.unit))
                          none))
                      none)
                  none)
                none)
          none)
      none)
    (some (LO.out (0 : Nat) ((x00, PUnit.unit, x02, PUnit.unit), x1, PUnit.unit)))
theorem el_l_toInsS_0 (C : CallT) (L : LoopT) (x00 : List CVal) (x02 : Int) (x1 : List CVal) : evL E N C L f_l_toInsS 0 lc_l_toInsS_0 [] k_l_toInsS_0 ((x00, (), x02, ()), x1, ()) = nl_l_toInsS_0 C L x00 x02 x1 := by kernel_rfl
theorem gl_l_toInsS_0 (x00 : List CVal) (x02 : Int) (x1 : List CVal) (R : LO k_l_toInsS_0.T) (h : nl_l_toInsS_0 CC LL x00 x02 x1 = some R) : LL f_l_toInsS 0 lc_l_toInsS_0 [] k_l_toInsS_0 ((x00, (), x02, ()), x1, ()) = some R := loopW ((el_l_toInsS_0 CC LL x00 x02 x1).trans h)
noncomputable def nl_i_subst_0 (C : CallT) (L : LoopT) (x00 : List CVal) (x03 : List CVal) (x04 : Int) (x05 : Int) (x10 : Int) (x11 : Int) (x12 : List CVal) (x20 : Int) (x21 : Int) (x22 : List CVal) : Option (LO k_i_subst_0.T) :=
  br (decide (x05 < x04))
    (br (decide ((0 : Int) ≤ x05) && true)
      (x03[x05.toNat]?.bind fun y =>
        br (CVal.fits true (3 : Nat) y)
          ((y.sub (0 : Nat) (3 : Nat)).bind fun y =>
            br (CVal.isAggN (3 : Nat) y)
              ((y.cell (0 : Nat)).bind fun c =>
                (y.cell (1 : Nat)).bind fun c_1 =>
                  (y.cell (2 : Nat)).bind fun c_2 =>
                    (C f_i_subst [AVal.v (CVal.agg [c, c_1, c_2]), AVal.v (CVal.sl x00)] []).bind fun r =>
                      br ([r.1].all (CVal.fits (aggT E.P (29 : Nat)) (E.P.cellsOf (29 : Nat)))) none none)
              none)
          none)
      none)
    (some
      (LO.out (0 : Nat)
        ((x00, PUnit.unit, PUnit.unit, x03, x04, x05, PUnit.unit), (x10, x11, x12, PUnit.unit),
          (x20, x21, x22, PUnit.unit), PUnit.unit)))
theorem el_i_subst_0 (C : CallT) (L : LoopT) (x00 : List CVal) (x03 : List CVal) (x04 : Int) (x05 : Int) (x10 : Int) (x11 : Int) (x12 : List CVal) (x20 : Int) (x21 : Int) (x22 : List CVal) : evL E N C L f_i_subst 0 lc_i_subst_0 [] k_i_subst_0 ((x00, (), (), x03, x04, x05, ()), (x10, x11, x12, ()), (x20, x21, x22, ()), ()) = nl_i_subst_0 C L x00 x03 x04 x05 x10 x11 x12 x20 x21 x22 := by kernel_rfl
theorem gl_i_subst_0 (x00 : List CVal) (x03 : List CVal) (x04 : Int) (x05 : Int) (x10 : Int) (x11 : Int) (x12 : List CVal) (x20 : Int) (x21 : Int) (x22 : List CVal) (R : LO k_i_subst_0.T) (h : nl_i_subst_0 CC LL x00 x03 x04 x05 x10 x11 x12 x20 x21 x22 = some R) : LL f_i_subst 0 lc_i_subst_0 [] k_i_subst_0 ((x00, (), (), x03, x04, x05, ()), (x10, x11, x12, ()), (x20, x21, x22, ()), ()) = some R := loopW ((el_i_subst_0 CC LL x00 x03 x04 x05 x10 x11 x12 x20 x21 x22).trans h)
noncomputable def nl_s_l1Ty_0 (C : CallT) (L : LoopT) (x00 : CVal) (x01 : Int) (x02 : Int) (x04 : Int) (x06 : Int) (x10 : Int) (x11 : Int) (x12 : List CVal) (x20 : Int) (x21 : Int) (x22 : List CVal) : Option (LO k_s_l1Ty_0.T) :=
  (C f_s_l1Args [AVal.v (CVal.int IntKind.i64 x04)] []).bind fun r =>
    (CVal.asInt IntKind.i64 r.1).bind fun n =>
      br (decide (x06 < n))
        ((C f_s_l1Ty
              [AVal.v x00, AVal.v (CVal.int IntKind.i64 (IntKind.i64.wrap (x01 - (1 : Int)))),
                AVal.v (CVal.int IntKind.i64 x02)]
              []).bind
          fun r => br ([r.1].all (CVal.fits (aggT E.P (29 : Nat)) (E.P.cellsOf (29 : Nat)))) none none)
        (some
          (LO.out (0 : Nat)
            ((x00, x01, x02, PUnit.unit, x04, PUnit.unit, x06, PUnit.unit), (x10, x11, x12, PUnit.unit),
              (x20, x21, x22, PUnit.unit), PUnit.unit)))
theorem el_s_l1Ty_0 (C : CallT) (L : LoopT) (x00 : CVal) (x01 : Int) (x02 : Int) (x04 : Int) (x06 : Int) (x10 : Int) (x11 : Int) (x12 : List CVal) (x20 : Int) (x21 : Int) (x22 : List CVal) : evL E N C L f_s_l1Ty 0 lc_s_l1Ty_0 [] k_s_l1Ty_0 ((x00, x01, x02, (), x04, (), x06, ()), (x10, x11, x12, ()), (x20, x21, x22, ()), ()) = nl_s_l1Ty_0 C L x00 x01 x02 x04 x06 x10 x11 x12 x20 x21 x22 := by kernel_rfl
theorem gl_s_l1Ty_0 (x00 : CVal) (x01 : Int) (x02 : Int) (x04 : Int) (x06 : Int) (x10 : Int) (x11 : Int) (x12 : List CVal) (x20 : Int) (x21 : Int) (x22 : List CVal) (R : LO k_s_l1Ty_0.T) (h : nl_s_l1Ty_0 CC LL x00 x01 x02 x04 x06 x10 x11 x12 x20 x21 x22 = some R) : LL f_s_l1Ty 0 lc_s_l1Ty_0 [] k_s_l1Ty_0 ((x00, x01, x02, (), x04, (), x06, ()), (x10, x11, x12, ()), (x20, x21, x22, ()), ()) = some R := loopW ((el_s_l1Ty_0 CC LL x00 x01 x02 x04 x06 x10 x11 x12 x20 x21 x22).trans h)
noncomputable def nl_l_eqIntS_0 (C : CallT) (L : LoopT) (x00 : List CVal) (x01 : List CVal) (x02 : Int) : Option (LO k_l_eqIntS_0.T) :=
  br (decide (x02 < (↑x00.length : Int)))
    (br (decide ((0 : Int) ≤ x02) && true)
      (x00[x02.toNat]?.bind fun y =>
        br (CVal.fits false (1 : Nat) y)
          ((y.cell (0 : Nat)).bind fun c =>
            br (decide ((0 : Int) ≤ x02) && true)
              (x01[x02.toNat]?.bind fun y =>
                br (CVal.fits false (1 : Nat) y)
                  ((y.cell (0 : Nat)).bind fun c_1 =>
                    (CVal.asInt IntKind.i64 c).bind fun n =>
                      (CVal.asInt IntKind.i64 c_1).bind fun n_1 =>
                        br (!decide (n = n_1)) (some (LO.ret (CVal.bool false, [])))
                          (L f_l_eqIntS (0 : Nat) lc_l_eqIntS_0 [] k_l_eqIntS_0
                            ((x00, x01, IntKind.i64.wrap (x02 + (1 : Int)), PUnit.unit), PUnit.unit)))
                  none)
              none)
          none)
      none)
    (some (LO.out (0 : Nat) ((x00, x01, x02, PUnit.unit), PUnit.unit)))
theorem el_l_eqIntS_0 (C : CallT) (L : LoopT) (x00 : List CVal) (x01 : List CVal) (x02 : Int) : evL E N C L f_l_eqIntS 0 lc_l_eqIntS_0 [] k_l_eqIntS_0 ((x00, x01, x02, ()), ()) = nl_l_eqIntS_0 C L x00 x01 x02 := by kernel_rfl
theorem gl_l_eqIntS_0 (x00 : List CVal) (x01 : List CVal) (x02 : Int) (R : LO k_l_eqIntS_0.T) (h : nl_l_eqIntS_0 CC LL x00 x01 x02 = some R) : LL f_l_eqIntS 0 lc_l_eqIntS_0 [] k_l_eqIntS_0 ((x00, x01, x02, ()), ()) = some R := loopW ((el_l_eqIntS_0 CC LL x00 x01 x02).trans h)
end Go.Proofs.Ytdbgiclddcphfaa.Abs
