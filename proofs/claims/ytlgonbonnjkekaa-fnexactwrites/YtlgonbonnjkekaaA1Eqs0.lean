/- What the functions come to in the abstract machine. -/
import Derived.Test.YtlgonbonnjkekaaA1Ann
import Derived.KernelRfl
set_option linter.unusedVariables false
set_option maxRecDepth 100000
namespace Go.Proofs.Ytlgonbonnjkekaa.Abs
open Go Go.Proofs
noncomputable def nf_l_FnExactSameEnd (C : CallT) (L : LoopT) (a0 : Int) (a1 : Int) (a2 : List UInt8) (b0 : Int) (b1 : Int) (b2 : List UInt8) : Option Ret :=
  (C f_l_szOutcome
        [AVal.v (CVal.agg [CVal.int IntKind.i64 a0, CVal.int IntKind.i64 a1, CVal.str a2]),
          AVal.v (CVal.int IntKind.i64 (1048576 : Int))]
        []).bind
    fun r =>
    (CVal.asInt IntKind.i64 r.1).bind fun n =>
      br (decide (n < (0 : Int))) (some (CVal.bool true, []))
        ((C f_l_szOutcome [AVal.v (CVal.agg [CVal.int IntKind.i64 b0, CVal.int IntKind.i64 b1, CVal.str b2]), AVal.v r.1]
              []).bind
          fun r =>
          (CVal.asInt IntKind.i64 r.1).bind fun n =>
            br (decide (n < (0 : Int))) (some (CVal.bool true, []))
              ((C f_l_toOutcome [AVal.v (CVal.agg [CVal.int IntKind.i64 a0, CVal.int IntKind.i64 a1, CVal.str a2])]
                    []).bind
                fun r =>
                (C f_l_toOutcome [AVal.v (CVal.agg [CVal.int IntKind.i64 b0, CVal.int IntKind.i64 b1, CVal.str b2])]
                      []).bind
                  fun r_1 =>
                  (C f_s_SameEnd [AVal.v r.1, AVal.v r_1.1] []).bind fun r =>
                    (C f_l_toOutcome [AVal.v (CVal.agg [CVal.int IntKind.i64 a0, CVal.int IntKind.i64 a1, CVal.str a2])]
                          []).bind
                      fun r_2 =>
                      (C f_l_toOutcome [AVal.v (CVal.agg [CVal.int IntKind.i64 b0, CVal.int IntKind.i64 b1, CVal.str b2])]
                            []).bind
                        fun r_3 =>
                        (C f_i_SameEnd [AVal.v r_2.1, AVal.v r_3.1] []).bind fun r_4 =>
                          r_4.1.asBool.bind fun b =>
                            r.1.asBool.bind fun b_1 =>
                              br (!b == b_1) (some (CVal.bool false, [])) (some (CVal.bool true, []))))
theorem eq_l_FnExactSameEnd (C : CallT) (L : LoopT) (a0 : Int) (a1 : Int) (a2 : List UInt8) (b0 : Int) (b1 : Int) (b2 : List UInt8) : evF E N C L f_l_FnExactSameEnd [AVal.v (CVal.agg [CVal.int IntKind.i64 a0, CVal.int IntKind.i64 a1, CVal.str a2]),
  AVal.v (CVal.agg [CVal.int IntKind.i64 b0, CVal.int IntKind.i64 b1, CVal.str b2])] [] = nf_l_FnExactSameEnd C L a0 a1 a2 b0 b1 b2 := by kernel_rfl
theorem go_l_FnExactSameEnd (a0 : Int) (a1 : Int) (a2 : List UInt8) (b0 : Int) (b1 : Int) (b2 : List UInt8) (R : Ret) (h : nf_l_FnExactSameEnd CC LL a0 a1 a2 b0 b1 b2 = some R) : CC f_l_FnExactSameEnd [AVal.v (CVal.agg [CVal.int IntKind.i64 a0, CVal.int IntKind.i64 a1, CVal.str a2]),
  AVal.v (CVal.agg [CVal.int IntKind.i64 b0, CVal.int IntKind.i64 b1, CVal.str b2])] [] = some R := fnW (by decide) ((eq_l_FnExactSameEnd CC LL a0 a1 a2 b0 b1 b2).trans h)
noncomputable def nf_l_FnExactWrites (C : CallT) (L : LoopT) (a0 : Int) (a1 : Int) (a2 : Int) (a3 : Int) (a4 : Int) (a5 : List CVal) (a6 : Int) : Option Ret :=
  (C f_l_szIns
        [AVal.v
            (CVal.agg
              [CVal.int IntKind.i64 a0, CVal.int IntKind.i64 a1, CVal.int IntKind.i64 a2, CVal.int IntKind.i64 a3,
                CVal.int IntKind.i64 a4, CVal.sl a5, CVal.int IntKind.i64 a6]),
          AVal.v (CVal.int IntKind.i64 (1048576 : Int))]
        []).bind
    fun r =>
    (CVal.asInt IntKind.i64 r.1).bind fun n =>
      br (decide (n < (0 : Int))) (some (CVal.bool true, []))
        ((C f_l_toIns
              [AVal.v
                  (CVal.agg
                    [CVal.int IntKind.i64 a0, CVal.int IntKind.i64 a1, CVal.int IntKind.i64 a2, CVal.int IntKind.i64 a3,
                      CVal.int IntKind.i64 a4, CVal.sl a5, CVal.int IntKind.i64 a6])]
              []).bind
          fun r =>
          (C f_s_Writes [AVal.v r.1] []).bind fun r =>
            (C f_l_toIns
                  [AVal.v
                      (CVal.agg
                        [CVal.int IntKind.i64 a0, CVal.int IntKind.i64 a1, CVal.int IntKind.i64 a2,
                          CVal.int IntKind.i64 a3, CVal.int IntKind.i64 a4, CVal.sl a5, CVal.int IntKind.i64 a6])]
                  []).bind
              fun r_1 =>
              br (CVal.isAggN (7 : Nat) r_1.1)
                ((r_1.1.cell (0 : Nat)).bind fun c =>
                  (r_1.1.cell (1 : Nat)).bind fun c_1 =>
                    (r_1.1.cell (2 : Nat)).bind fun c_2 =>
                      (r_1.1.cell (3 : Nat)).bind fun c_3 =>
                        (r_1.1.cell (4 : Nat)).bind fun c_4 =>
                          (r_1.1.cell (5 : Nat)).bind fun c_5 =>
                            (r_1.1.cell (6 : Nat)).bind fun c_6 =>
                              (C f_i_Writes [AVal.v (CVal.agg [c, c_1, c_2, c_3, c_4, c_5, c_6])] []).bind fun r_2 =>
                                (CVal.asInt IntKind.i64 r_2.1).bind fun n =>
                                  (CVal.asInt IntKind.i64 r.1).bind fun n_1 =>
                                    br (!decide (n = n_1)) (some (CVal.bool false, []))
                                      ((C f_l_toIns
                                            [AVal.v
                                                (CVal.agg
                                                  [CVal.int IntKind.i64 a0, CVal.int IntKind.i64 a1,
                                                    CVal.int IntKind.i64 a2, CVal.int IntKind.i64 a3,
                                                    CVal.int IntKind.i64 a4, CVal.sl a5, CVal.int IntKind.i64 a6])]
                                            []).bind
                                        fun r =>
                                        (C f_l_eqIns [AVal.v (CVal.agg [c, c_1, c_2, c_3, c_4, c_5, c_6]), AVal.v r.1]
                                              []).bind
                                          fun r =>
                                          r.1.asBool.bind fun b =>
                                            br (!b) (some (CVal.bool false, [])) (some (CVal.bool true, []))))
                none)
theorem eq_l_FnExactWrites (C : CallT) (L : LoopT) (a0 : Int) (a1 : Int) (a2 : Int) (a3 : Int) (a4 : Int) (a5 : List CVal) (a6 : Int) : evF E N C L f_l_FnExactWrites [AVal.v
    (CVal.agg
      [CVal.int IntKind.i64 a0, CVal.int IntKind.i64 a1, CVal.int IntKind.i64 a2, CVal.int IntKind.i64 a3,
        CVal.int IntKind.i64 a4, CVal.sl a5, CVal.int IntKind.i64 a6])] [] = nf_l_FnExactWrites C L a0 a1 a2 a3 a4 a5 a6 := by kernel_rfl
theorem go_l_FnExactWrites (a0 : Int) (a1 : Int) (a2 : Int) (a3 : Int) (a4 : Int) (a5 : List CVal) (a6 : Int) (R : Ret) (h : nf_l_FnExactWrites CC LL a0 a1 a2 a3 a4 a5 a6 = some R) : CC f_l_FnExactWrites [AVal.v
    (CVal.agg
      [CVal.int IntKind.i64 a0, CVal.int IntKind.i64 a1, CVal.int IntKind.i64 a2, CVal.int IntKind.i64 a3,
        CVal.int IntKind.i64 a4, CVal.sl a5, CVal.int IntKind.i64 a6])] [] = some R := fnW (by decide) ((eq_l_FnExactWrites CC LL a0 a1 a2 a3 a4 a5 a6).trans h)
noncomputable def nf_s_SameEnd (C : CallT) (L : LoopT) (a0 : Int) (a1 : Int) (a2 : List UInt8) (b0 : Int) (b1 : Int) (b2 : List UInt8) : Option Ret :=
  (br (decide (a0 = b0) && (decide (a1 = b1) && (decide (a2 = b2) && true))) (some (true, PUnit.unit))
        (br (decide (a0 = (3 : Int))) (some (true, PUnit.unit)) (some (decide (b0 = (3 : Int)), PUnit.unit)))).bind
    fun y => some (CVal.bool y.1, [])
theorem eq_s_SameEnd (C : CallT) (L : LoopT) (a0 : Int) (a1 : Int) (a2 : List UInt8) (b0 : Int) (b1 : Int) (b2 : List UInt8) : evF E N C L f_s_SameEnd [AVal.v (CVal.agg [CVal.int IntKind.i64 a0, CVal.int IntKind.i64 a1, CVal.str a2]),
  AVal.v (CVal.agg [CVal.int IntKind.i64 b0, CVal.int IntKind.i64 b1, CVal.str b2])] [] = nf_s_SameEnd C L a0 a1 a2 b0 b1 b2 := by kernel_rfl
theorem go_s_SameEnd (a0 : Int) (a1 : Int) (a2 : List UInt8) (b0 : Int) (b1 : Int) (b2 : List UInt8) (R : Ret) (h : nf_s_SameEnd CC LL a0 a1 a2 b0 b1 b2 = some R) : CC f_s_SameEnd [AVal.v (CVal.agg [CVal.int IntKind.i64 a0, CVal.int IntKind.i64 a1, CVal.str a2]),
  AVal.v (CVal.agg [CVal.int IntKind.i64 b0, CVal.int IntKind.i64 b1, CVal.str b2])] [] = some R := fnW (by decide) ((eq_s_SameEnd CC LL a0 a1 a2 b0 b1 b2).trans h)
noncomputable def nf_l_toTy (C : CallT) (L : LoopT) (a0 : Int) (a1 : Int) (a2 : List CVal) : Option Ret :=
  (C f_l_toTyS [AVal.v (CVal.sl a2)] []).bind fun r =>
    br (r.1.isFlat && true) (some (CVal.agg [CVal.int IntKind.i64 a0, CVal.int IntKind.i64 a1, r.1], [])) none
theorem eq_l_toTy (C : CallT) (L : LoopT) (a0 : Int) (a1 : Int) (a2 : List CVal) : evF E N C L f_l_toTy [AVal.v (CVal.agg [CVal.int IntKind.i64 a0, CVal.int IntKind.i64 a1, CVal.sl a2])] [] = nf_l_toTy C L a0 a1 a2 := by kernel_rfl
theorem go_l_toTy (a0 : Int) (a1 : Int) (a2 : List CVal) (R : Ret) (h : nf_l_toTy CC LL a0 a1 a2 = some R) : CC f_l_toTy [AVal.v (CVal.agg [CVal.int IntKind.i64 a0, CVal.int IntKind.i64 a1, CVal.sl a2])] [] = some R := fnW (by decide) ((eq_l_toTy CC LL a0 a1 a2).trans h)
noncomputable def nf_l_eqTy (C : CallT) (L : LoopT) (a0 : Int) (a1 : Int) (a2 : List CVal) (b0 : Int) (b1 : Int) (b2 : List CVal) : Option Ret :=
  br (!decide (a0 = b0)) (some (CVal.bool false, []))
    (br (!decide (a1 = b1)) (some (CVal.bool false, []))
      ((C f_l_eqTyS [AVal.v (CVal.sl a2), AVal.v (CVal.sl b2)] []).bind fun r =>
        r.1.asBool.bind fun b => br (!b) (some (CVal.bool false, [])) (some (CVal.bool true, []))))
theorem eq_l_eqTy (C : CallT) (L : LoopT) (a0 : Int) (a1 : Int) (a2 : List CVal) (b0 : Int) (b1 : Int) (b2 : List CVal) : evF E N C L f_l_eqTy [AVal.v (CVal.agg [CVal.int IntKind.i64 a0, CVal.int IntKind.i64 a1, CVal.sl a2]),
  AVal.v (CVal.agg [CVal.int IntKind.i64 b0, CVal.int IntKind.i64 b1, CVal.sl b2])] [] = nf_l_eqTy C L a0 a1 a2 b0 b1 b2 := by kernel_rfl
theorem go_l_eqTy (a0 : Int) (a1 : Int) (a2 : List CVal) (b0 : Int) (b1 : Int) (b2 : List CVal) (R : Ret) (h : nf_l_eqTy CC LL a0 a1 a2 b0 b1 b2 = some R) : CC f_l_eqTy [AVal.v (CVal.agg [CVal.int IntKind.i64 a0, CVal.int IntKind.i64 a1, CVal.sl a2]),
  AVal.v (CVal.agg [CVal.int IntKind.i64 b0, CVal.int IntKind.i64 b1, CVal.sl b2])] [] = some R := fnW (by decide) ((eq_l_eqTy CC LL a0 a1 a2 b0 b1 b2).trans h)
noncomputable def nf_l_szIns (C : CallT) (L : LoopT) (a0 : Int) (a1 : Int) (a2 : Int) (a3 : Int) (a4 : Int) (a5 : List CVal) (a6 : Int) (b : Int) : Option Ret :=
  (C f_l_szIntS [AVal.v (CVal.sl a5), AVal.v (CVal.int IntKind.i64 b)] []).bind fun r =>
    (CVal.asInt IntKind.i64 r.1).bind fun n =>
      br (decide (n < (0 : Int))) (some (CVal.int IntKind.i64 (-1 : Int), [])) (some (r.1, []))
theorem eq_l_szIns (C : CallT) (L : LoopT) (a0 : Int) (a1 : Int) (a2 : Int) (a3 : Int) (a4 : Int) (a5 : List CVal) (a6 : Int) (b : Int) : evF E N C L f_l_szIns [AVal.v
    (CVal.agg
      [CVal.int IntKind.i64 a0, CVal.int IntKind.i64 a1, CVal.int IntKind.i64 a2, CVal.int IntKind.i64 a3,
        CVal.int IntKind.i64 a4, CVal.sl a5, CVal.int IntKind.i64 a6]),
  AVal.v (CVal.int IntKind.i64 b)] [] = nf_l_szIns C L a0 a1 a2 a3 a4 a5 a6 b := by kernel_rfl
theorem go_l_szIns (a0 : Int) (a1 : Int) (a2 : Int) (a3 : Int) (a4 : Int) (a5 : List CVal) (a6 : Int) (b : Int) (R : Ret) (h : nf_l_szIns CC LL a0 a1 a2 a3 a4 a5 a6 b = some R) : CC f_l_szIns [AVal.v
    (CVal.agg
      [CVal.int IntKind.i64 a0, CVal.int IntKind.i64 a1, CVal.int IntKind.i64 a2, CVal.int IntKind.i64 a3,
        CVal.int IntKind.i64 a4, CVal.sl a5, CVal.int IntKind.i64 a6]),
  AVal.v (CVal.int IntKind.i64 b)] [] = some R := fnW (by decide) ((eq_l_szIns CC LL a0 a1 a2 a3 a4 a5 a6 b).trans h)
noncomputable def nf_i_Writes (C : CallT) (L : LoopT) (a0 : Int) (a1 : Int) (a2 : Int) (a3 : Int) (a4 : Int) (a5 : List CVal) (a6 : Int) : Option Ret :=
  ((C f_i_hasPart [AVal.v (CVal.int IntKind.i64 a0), AVal.v (CVal.int IntKind.u8 (68 : Int))] []).bind fun r =>
        r.1.asBool.bind fun b => br b (some (!decide (a0 = (17 : Int)), PUnit.unit)) (some (false, PUnit.unit))).bind
    fun y => br y.1 (some (CVal.int IntKind.i64 a1, [])) (some (CVal.int IntKind.i64 (-1 : Int), []))
theorem eq_i_Writes (C : CallT) (L : LoopT) (a0 : Int) (a1 : Int) (a2 : Int) (a3 : Int) (a4 : Int) (a5 : List CVal) (a6 : Int) : evF E N C L f_i_Writes [AVal.v
    (CVal.agg
      [CVal.int IntKind.i64 a0, CVal.int IntKind.i64 a1, CVal.int IntKind.i64 a2, CVal.int IntKind.i64 a3,
        CVal.int IntKind.i64 a4, CVal.sl a5, CVal.int IntKind.i64 a6])] [] = nf_i_Writes C L a0 a1 a2 a3 a4 a5 a6 := by kernel_rfl
theorem go_i_Writes (a0 : Int) (a1 : Int) (a2 : Int) (a3 : Int) (a4 : Int) (a5 : List CVal) (a6 : Int) (R : Ret) (h : nf_i_Writes CC LL a0 a1 a2 a3 a4 a5 a6 = some R) : CC f_i_Writes [AVal.v
    (CVal.agg
      [CVal.int IntKind.i64 a0, CVal.int IntKind.i64 a1, CVal.int IntKind.i64 a2, CVal.int IntKind.i64 a3,
        CVal.int IntKind.i64 a4, CVal.sl a5, CVal.int IntKind.i64 a6])] [] = some R := fnW (by decide) ((eq_i_Writes CC LL a0 a1 a2 a3 a4 a5 a6).trans h)
noncomputable def nf_l_toTyS (C : CallT) (L : LoopT) (a : List CVal) : Option Ret :=
  br (decide ((↑a.length : Int) = (↑a.length : Int)) && decide ((↑a.length : Int) ≤ (1048576 : Int)))
    ((L f_l_toTyS (0 : Nat) lc_l_toTyS_0 [] k_l_toTyS_0
          ((a, PUnit.unit, (0 : Int), PUnit.unit),
            List.replicate (↑a.length : Int).toNat
              (CVal.agg [CVal.int IntKind.i64 (0 : Int), CVal.int IntKind.i64 (0 : Int), CVal.sl []]),
            PUnit.unit)).bind
      fun r => loK r (fun r => some r) fun j p => br (j == (0 : Nat)) (some (CVal.sl p.snd.1, [])) none)
    none
theorem eq_l_toTyS (C : CallT) (L : LoopT) (a : List CVal) : evF E N C L f_l_toTyS [AVal.v (CVal.sl a)] [] = nf_l_toTyS C L a := by kernel_rfl
theorem go_l_toTyS (a : List CVal) (R : Ret) (h : nf_l_toTyS CC LL a = some R) : CC f_l_toTyS [AVal.v (CVal.sl a)] [] = some R := fnW (by decide) ((eq_l_toTyS CC LL a).trans h)
noncomputable def nf_l_eqTyS (C : CallT) (L : LoopT) (a : List CVal) (b : List CVal) : Option Ret :=
  br (!decide ((↑a.length : Int) = (↑b.length : Int))) (some (CVal.bool false, []))
    ((L f_l_eqTyS (0 : Nat) lc_l_eqTyS_0 [] k_l_eqTyS_0 ((a, b, (0 : Int), PUnit.unit), PUnit.unit)).bind fun r =>
      loK r (fun r => some r) fun j p => br (j == (0 : Nat)) (some (CVal.bool true, [])) none)
theorem eq_l_eqTyS (C : CallT) (L : LoopT) (a : List CVal) (b : List CVal) : evF E N C L f_l_eqTyS [AVal.v (CVal.sl a), AVal.v (CVal.sl b)] [] = nf_l_eqTyS C L a b := by kernel_rfl
theorem go_l_eqTyS (a : List CVal) (b : List CVal) (R : Ret) (h : nf_l_eqTyS CC LL a b = some R) : CC f_l_eqTyS [AVal.v (CVal.sl a), AVal.v (CVal.sl b)] [] = some R := fnW (by decide) ((eq_l_eqTyS CC LL a b).trans h)
noncomputable def nf_s_l9Uses (C : CallT) (L : LoopT) (a : Int) : Option Ret :=
  br (decide (a = (1 : Int))) (some (CVal.agg [CVal.bool true, CVal.bool false, CVal.bool false, CVal.bool false], []))
    (br (decide (a = (2 : Int))) (some (CVal.agg [CVal.bool true, CVal.bool false, CVal.bool false, CVal.bool false], []))
      (br (decide (a = (3 : Int)))
        (some (CVal.agg [CVal.bool true, CVal.bool false, CVal.bool false, CVal.bool false], []))
        (br (decide (a = (8 : Int)))
          (some (CVal.agg [CVal.bool true, CVal.bool false, CVal.bool false, CVal.bool false], []))
          (br (decide (a = (4 : Int)))
            (some (CVal.agg [CVal.bool true, CVal.bool true, CVal.bool false, CVal.bool false], []))
            (br (decide (a = (9 : Int)))
              (some (CVal.agg [CVal.bool true, CVal.bool true, CVal.bool false, CVal.bool false], []))
              (br (decide (a = (10 : Int)))
                (some (CVal.agg [CVal.bool true, CVal.bool true, CVal.bool false, CVal.bool false], []))
                (br (decide (a = (5 : Int)))
                  (some (CVal.agg [CVal.bool true, CVal.bool true, CVal.bool true, CVal.bool false], []))
                  (br (decide (a = (6 : Int)))
                    (some (CVal.agg [CVal.bool true, CVal.bool true, CVal.bool true, CVal.bool false], []))
                    (br (decide (a = (7 : Int)))
                      (some (CVal.agg [CVal.bool true, CVal.bool true, CVal.bool true, CVal.bool false], []))
                      (br (decide (a = (14 : Int)))
                        (some (CVal.agg [CVal.bool true, CVal.bool true, CVal.bool true, CVal.bool false], []))
                        (br (decide (a = (11 : Int)))
                          (some (CVal.agg [CVal.bool false, CVal.bool true, CVal.bool false, CVal.bool true], []))
                          (br (decide (a = (12 : Int)))
                            (some (CVal.agg [CVal.bool false, CVal.bool true, CVal.bool false, CVal.bool true], []))
                            (br (decide (a = (13 : Int)))
                              (some (CVal.agg [CVal.bool false, CVal.bool false, CVal.bool false, CVal.bool true], []))
                              (br (decide (a = (15 : Int)))
                                (some (CVal.agg [CVal.bool false, CVal.bool true, CVal.bool false, CVal.bool false], []))
                                (br (decide (a = (16 : Int)))
                                  (some
                                    (CVal.agg [CVal.bool false, CVal.bool true, CVal.bool false, CVal.bool false], []))
                                  (br (decide (a = (17 : Int)))
                                    (some
                                      (CVal.agg [CVal.bool true, CVal.bool false, CVal.bool false, CVal.bool true], []))
                                    (some
                                      (CVal.agg [CVal.bool false, CVal.bool false, CVal.bool false, CVal.bool false],
                                        []))))))))))))))))))
theorem eq_s_l9Uses (C : CallT) (L : LoopT) (a : Int) : evF E N C L f_s_l9Uses [AVal.v (CVal.int IntKind.i64 a)] [] = nf_s_l9Uses C L a := by kernel_rfl
theorem go_s_l9Uses (a : Int) (R : Ret) (h : nf_s_l9Uses CC LL a = some R) : CC f_s_l9Uses [AVal.v (CVal.int IntKind.i64 a)] [] = some R := fnW (by decide) ((eq_s_l9Uses CC LL a).trans h)
noncomputable def nf_s_l1Args (C : CallT) (L : LoopT) (a : Int) : Option Ret :=
  br (decide (a = (1 : Int))) (some (CVal.int IntKind.i64 (0 : Int), []))
    (br (decide (a = (2 : Int))) (some (CVal.int IntKind.i64 (0 : Int), []))
      (br (decide (a = (3 : Int))) (some (CVal.int IntKind.i64 (0 : Int), []))
        (br (decide (a = (6 : Int))) (some (CVal.int IntKind.i64 (1 : Int), []))
          (br (decide (a = (4 : Int))) (some (CVal.int IntKind.i64 (2 : Int), []))
            (br (decide (a = (5 : Int))) (some (CVal.int IntKind.i64 (2 : Int), []))
              (some (CVal.int IntKind.i64 (-1 : Int), [])))))))
theorem eq_s_l1Args (C : CallT) (L : LoopT) (a : Int) : evF E N C L f_s_l1Args [AVal.v (CVal.int IntKind.i64 a)] [] = nf_s_l1Args C L a := by kernel_rfl
theorem go_s_l1Args (a : Int) (R : Ret) (h : nf_s_l1Args CC LL a = some R) : CC f_s_l1Args [AVal.v (CVal.int IntKind.i64 a)] [] = some R := fnW (by decide) ((eq_s_l1Args CC LL a).trans h)
noncomputable def nf_i_insForm (C : CallT) (L : LoopT) (a : Int) : Option Ret :=
  br (decide (a = (1 : Int))) (some (CVal.tup [CVal.str [(68 : UInt8), (78 : UInt8)], CVal.bool true], []))
    (br (decide (a = (2 : Int))) (some (CVal.tup [CVal.str [(68 : UInt8), (78 : UInt8)], CVal.bool true], []))
      (br (decide (a = (3 : Int))) (some (CVal.tup [CVal.str [(68 : UInt8)], CVal.bool true], []))
        (br (decide (a = (4 : Int))) (some (CVal.tup [CVal.str [(68 : UInt8), (88 : UInt8)], CVal.bool true], []))
          (br (decide (a = (9 : Int))) (some (CVal.tup [CVal.str [(68 : UInt8), (88 : UInt8)], CVal.bool true], []))
            (br (decide (a = (10 : Int))) (some (CVal.tup [CVal.str [(68 : UInt8), (88 : UInt8)], CVal.bool true], []))
              (br (decide (a = (5 : Int)))
                (some (CVal.tup [CVal.str [(68 : UInt8), (88 : UInt8), (89 : UInt8), (78 : UInt8)], CVal.bool true], []))
                (br (decide (a = (6 : Int)))
                  (some (CVal.tup [CVal.str [(68 : UInt8), (88 : UInt8), (89 : UInt8)], CVal.bool true], []))
                  (br (decide (a = (7 : Int)))
                    (some (CVal.tup [CVal.str [(68 : UInt8), (88 : UInt8), (89 : UInt8)], CVal.bool true], []))
                    (br (decide (a = (8 : Int)))
                      (some (CVal.tup [CVal.str [(68 : UInt8), (78 : UInt8), (76 : UInt8)], CVal.bool true], []))
                      (br (decide (a = (11 : Int)))
                        (some (CVal.tup [CVal.str [(88 : UInt8), (84 : UInt8)], CVal.bool true], []))
                        (br (decide (a = (12 : Int)))
                          (some (CVal.tup [CVal.str [(88 : UInt8), (84 : UInt8)], CVal.bool true], []))
                          (br (decide (a = (13 : Int))) (some (CVal.tup [CVal.str [(84 : UInt8)], CVal.bool true], []))
                            (br (decide (a = (14 : Int)))
                              (some
                                (CVal.tup
                                    [CVal.str [(68 : UInt8), (88 : UInt8), (89 : UInt8), (76 : UInt8)], CVal.bool true],
                                  []))
                              (br (decide (a = (15 : Int)))
                                (some (CVal.tup [CVal.str [(88 : UInt8)], CVal.bool true], []))
                                (br (decide (a = (16 : Int)))
                                  (some (CVal.tup [CVal.str [(88 : UInt8)], CVal.bool true], []))
                                  (br (decide (a = (17 : Int)))
                                    (some (CVal.tup [CVal.str [(68 : UInt8), (84 : UInt8)], CVal.bool true], []))
                                    (some
                                      (CVal.tup [CVal.str [], CVal.bool (decide (a = (18 : Int)))], []))))))))))))))))))
theorem eq_i_insForm (C : CallT) (L : LoopT) (a : Int) : evF E N C L f_i_insForm [AVal.v (CVal.int IntKind.i64 a)] [] = nf_i_insForm C L a := by kernel_rfl
theorem go_i_insForm (a : Int) (R : Ret) (h : nf_i_insForm CC LL a = some R) : CC f_i_insForm [AVal.v (CVal.int IntKind.i64 a)] [] = some R := fnW (by decide) ((eq_i_insForm CC LL a).trans h)
noncomputable def nl_l_szTyS_0 (C : CallT) (L : LoopT) (x00 : List CVal) (x01 : Int) (x02 : Int) : Option (LO k_l_szTyS_0.T) :=
  br (decide (x02 < (↑x00.length : Int)))
    (br (decide ((0 : Int) ≤ x02) && true)
      (x00[x02.toNat]?.bind fun y =>
        br (CVal.fits true (3 : Nat) y)
          ((y.sub (0 : Nat) (3 : Nat)).bind fun y =>
            (C f_l_szTy [AVal.v y, AVal.v (CVal.int IntKind.i64 x01)] []).bind fun r =>
              (CVal.asInt IntKind.i64 r.1).bind fun n =>
                br (decide (n < (0 : Int))) (some (LO.ret (CVal.int IntKind.i64 (-1 : Int), [])))
                  ((CVal.asInt IntKind.i64 r.1).bind fun n =>
                    L f_l_szTyS (0 : Nat) lc_l_szTyS_0 [] k_l_szTyS_0
                      ((x00, n, IntKind.i64.wrap (x02 + (1 : Int)), PUnit.unit), PUnit.unit)))
          none)
      none)
    (some (LO.out (0 : Nat) ((x00, x01, x02, PUnit.unit), PUnit.unit)))
theorem el_l_szTyS_0 (C : CallT) (L : LoopT) (x00 : List CVal) (x01 : Int) (x02 : Int) : evL E N C L f_l_szTyS 0 lc_l_szTyS_0 [] k_l_szTyS_0 ((x00, x01, x02, ()), ()) = nl_l_szTyS_0 C L x00 x01 x02 := by kernel_rfl
theorem gl_l_szTyS_0 (x00 : List CVal) (x01 : Int) (x02 : Int) (R : LO k_l_szTyS_0.T) (h : nl_l_szTyS_0 CC LL x00 x01 x02 = some R) : LL f_l_szTyS 0 lc_l_szTyS_0 [] k_l_szTyS_0 ((x00, x01, x02, ()), ()) = some R := loopW ((el_l_szTyS_0 CC LL x00 x01 x02).trans h)
noncomputable def nl_i_measure_0 (C : CallT) (L : LoopT) (x00 : Int) (x01 : Int) (x02 : List CVal) (x03 : Int) (x04 : Int) : Option (LO k_i_measure_0.T) :=
  br (decide (x04 < x03))
    (br (decide ((0 : Int) ≤ x04) && true)
      (x02[x04.toNat]?.bind fun y =>
        br (CVal.fits true (3 : Nat) y)
          ((y.sub (0 : Nat) (3 : Nat)).bind fun y =>
            br (CVal.isAggN (3 : Nat) y)
              ((y.cell (0 : Nat)).bind fun c =>
                (y.cell (1 : Nat)).bind fun c_1 =>
                  (y.cell (2 : Nat)).bind fun c_2 =>
                    (C f_i_measure [AVal.v (CVal.agg [c, c_1, c_2])] []).bind fun r =>
                      r.1.asTup.bind fun y =>
                        y[(0 : Nat)]?.bind fun y =>
                          r.1.asTup.bind fun y_1 =>
                            y_1[(1 : Nat)]?.bind fun y_2 =>
                              r.1.asTup.bind fun y_3 =>
                                y_3[(2 : Nat)]?.bind fun y_4 =>
                                  y_4.asBool.bind fun b =>
                                    br (!b)
                                      (some
                                        (LO.ret
                                          (CVal.tup
                                              [CVal.int IntKind.i64 (0 : Int), CVal.int IntKind.i64 (0 : Int),
                                                CVal.bool false],
                                            [])))
                                      ((CVal.asInt IntKind.i64 y).bind fun n =>
                                        (CVal.asInt IntKind.i64 y_2).bind fun n_1 =>
                                          L f_i_measure (0 : Nat) lc_i_measure_0 [] k_i_measure_0
                                            ((bif decide (x00 < n) then n else x00, IntKind.i64.wrap (x01 + n_1), x02,
                                                x03, IntKind.i64.wrap (x04 + (1 : Int)), PUnit.unit),
                                              PUnit.unit)))
              none)
          none)
      none)
    (some (LO.out (0 : Nat) ((x00, x01, x02, x03, x04, PUnit.unit), PUnit.unit)))
theorem el_i_measure_0 (C : CallT) (L : LoopT) (x00 : Int) (x01 : Int) (x02 : List CVal) (x03 : Int) (x04 : Int) : evL E N C L f_i_measure 0 lc_i_measure_0 [] k_i_measure_0 ((x00, x01, x02, x03, x04, ()), ()) = nl_i_measure_0 C L x00 x01 x02 x03 x04 := by kernel_rfl
theorem gl_i_measure_0 (x00 : Int) (x01 : Int) (x02 : List CVal) (x03 : Int) (x04 : Int) (R : LO k_i_measure_0.T) (h : nl_i_measure_0 CC LL x00 x01 x02 x03 x04 = some R) : LL f_i_measure 0 lc_i_measure_0 [] k_i_measure_0 ((x00, x01, x02, x03, x04, ()), ()) = some R := loopW ((el_i_measure_0 CC LL x00 x01 x02 x03 x04).trans h)
noncomputable def nl_l_eqIntS_0 (C : CallT) (L : LoopT) (x00 : List CVal) (x01 : List CVal) (x02 : Int) : Option (LO k_l_eqIntS_0.T) :=
  br (decide (x02 < (↑x00.length : Int)))
    (br (decide ((0 : Int) ≤ x02) && true)
      (x00[x02.toNat]?.bind fun y =>
        br (CVal.fits false (1 : Nat) y)
          ((y.cell (0 : Nat)).bind fun c =>
            br (decide ((0 : Int) ≤ x02) && true)
              (x01[x02.toNat]?.bind fun y =>
                br (CVal.fits false (1 : Nat) y)
                  ((y.cell (0 : Nat)).bind fun c_1 =>
                    (CVal.asInt IntKind.i64 c).bind fun n =>
                      (CVal.asInt IntKind.i64 c_1).bind fun n_1 =>
                        br (!decide (n = n_1)) (some (LO.ret (CVal.bool false, [])))
                          (L f_l_eqIntS (0 : Nat) lc_l_eqIntS_0 [] k_l_eqIntS_0
                            ((x00, x01, IntKind.i64.wrap (x02 + (1 : Int)), PUnit.unit), PUnit.unit)))
                  none)
              none)
          none)
      none)
    (some (LO.out (0 : Nat) ((x00, x01, x02, PUnit.unit), PUnit.unit)))
theorem el_l_eqIntS_0 (C : CallT) (L : LoopT) (x00 : List CVal) (x01 : List CVal) (x02 : Int) : evL E N C L f_l_eqIntS 0 lc_l_eqIntS_0 [] k_l_eqIntS_0 ((x00, x01, x02, ()), ()) = nl_l_eqIntS_0 C L x00 x01 x02 := by kernel_rfl
theorem gl_l_eqIntS_0 (x00 : List CVal) (x01 : List CVal) (x02 : Int) (R : LO k_l_eqIntS_0.T) (h : nl_l_eqIntS_0 CC LL x00 x01 x02 = some R) : LL f_l_eqIntS 0 lc_l_eqIntS_0 [] k_l_eqIntS_0 ((x00, x01, x02, ()), ()) = some R := loopW ((el_l_eqIntS_0 CC LL x00 x01 x02).trans h)
end Go.Proofs.Ytlgonbonnjkekaa.Abs
