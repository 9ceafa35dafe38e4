/- What the functions come to in the abstract machine. -/
import Derived.Test.YtdbgiclddcphfaaT2Ann
import Derived.KernelRfl
set_option linter.unusedVariables false
set_option maxRecDepth 100000
namespace Go.Proofs.Ytdbgiclddcphfaa.Abs
open Go Go.Proofs
noncomputable def nf_l_FnExactVarsOf (C : CallT) (L : LoopT) (a0 : Int) (a1 : Int) (a2 : List CVal) : Option Ret :=
  (C f_l_szTy
        [AVal.v (CVal.agg [CVal.int IntKind.i64 a0, CVal.int IntKind.i64 a1, CVal.sl a2]),
          AVal.v (CVal.int IntKind.i64 (1048576 : Int))]
        []).bind
    fun r =>
    (CVal.asInt IntKind.i64 r.1).bind fun n =>
      br (decide (n < (0 : Int))) (some (CVal.bool true, []))
        ((C f_l_toTy [AVal.v (CVal.agg [CVal.int IntKind.i64 a0, CVal.int IntKind.i64 a1, CVal.sl a2])] []).bind fun r =>
          (C f_s_VarsOf [AVal.v r.1] []).bind fun r =>
            (C f_l_toTy [AVal.v (CVal.agg [CVal.int IntKind.i64 a0, CVal.int IntKind.i64 a1, CVal.sl a2])] []).bind
              fun r_1 =>
              br (CVal.isAggN (3 : Nat) r_1.1)
                ((r_1.1.cell (0 : Nat)).bind fun c =>
                  (r_1.1.cell (1 : Nat)).bind fun c_1 =>
                    (r_1.1.cell (2 : Nat)).bind fun c_2 =>
                      (C f_i_VarsOf [AVal.v (CVal.agg [c, c_1, c_2])] []).bind fun r_2 =>
                        (CVal.asInt IntKind.i64 r_2.1).bind fun n =>
                          (CVal.asInt IntKind.i64 r.1).bind fun n_1 =>
                            br (!decide (n = n_1)) (some (CVal.bool false, []))
                              ((C f_l_toTy
                                    [AVal.v (CVal.agg [CVal.int IntKind.i64 a0, CVal.int IntKind.i64 a1, CVal.sl a2])]
                                    []).bind
                                fun r =>
                                (C f_l_eqTy [AVal.v (CVal.agg [c, c_1, c_2]), AVal.v r.1] []).bind fun r =>
                                  r.1.asBool.bind fun b =>
                                    br (!b) (some (CVal.bool false, [])) (some (CVal.bool true, []))))
                none)
theorem eq_l_FnExactVarsOf (C : CallT) (L : LoopT) (a0 : Int) (a1 : Int) (a2 : List CVal) : evF E N C L f_l_FnExactVarsOf [AVal.v (CVal.agg [CVal.int IntKind.i64 a0, CVal.int IntKind.i64 a1, CVal.sl a2])] [] = nf_l_FnExactVarsOf C L a0 a1 a2 := by kernel_rfl
theorem go_l_FnExactVarsOf (a0 : Int) (a1 : Int) (a2 : List CVal) (R : Ret) (h : nf_l_FnExactVarsOf CC LL a0 a1 a2 = some R) : CC f_l_FnExactVarsOf [AVal.v (CVal.agg [CVal.int IntKind.i64 a0, CVal.int IntKind.i64 a1, CVal.sl a2])] [] = some R := fnW (by decide) ((eq_l_FnExactVarsOf CC LL a0 a1 a2).trans h)
noncomputable def nf_l_FnExactIsMono (C : CallT) (L : LoopT) (a0 : Int) (a1 : Int) (a2 : List UInt8) (a3 : List UInt8) (a40 : Int) (a41 : Int) (a42 : List CVal) (a5 : List CVal) (a6 : List CVal) : Option Ret :=
  (C f_l_szTerm
        [AVal.v
            (CVal.agg
              [CVal.int IntKind.i64 a0, CVal.int IntKind.i64 a1, CVal.str a2, CVal.str a3, CVal.int IntKind.i64 a40,
                CVal.int IntKind.i64 a41, CVal.sl a42, CVal.sl a5, CVal.sl a6]),
          AVal.v (CVal.int IntKind.i64 (1048576 : Int))]
        []).bind
    fun r =>
    (CVal.asInt IntKind.i64 r.1).bind fun n =>
      br (decide (n < (0 : Int))) (some (CVal.bool true, []))
        ((C f_l_toTerm
              [AVal.v
                  (CVal.agg
                    [CVal.int IntKind.i64 a0, CVal.int IntKind.i64 a1, CVal.str a2, CVal.str a3, CVal.int IntKind.i64 a40,
                      CVal.int IntKind.i64 a41, CVal.sl a42, CVal.sl a5, CVal.sl a6])]
              []).bind
          fun r =>
          (C f_s_IsMono [AVal.v r.1] []).bind fun r =>
            (C f_l_toTerm
                  [AVal.v
                      (CVal.agg
                        [CVal.int IntKind.i64 a0, CVal.int IntKind.i64 a1, CVal.str a2, CVal.str a3,
                          CVal.int IntKind.i64 a40, CVal.int IntKind.i64 a41, CVal.sl a42, CVal.sl a5, CVal.sl a6])]
                  []).bind
              fun r_1 =>
              br (CVal.isAggN (9 : Nat) r_1.1)
                ((r_1.1.cell (0 : Nat)).bind fun c =>
                  (r_1.1.cell (1 : Nat)).bind fun c_1 =>
                    (r_1.1.cell (2 : Nat)).bind fun c_2 =>
                      (r_1.1.cell (3 : Nat)).bind fun c_3 =>
                        (r_1.1.cell (4 : Nat)).bind fun c_4 =>
                          (r_1.1.cell (5 : Nat)).bind fun c_5 =>
                            (r_1.1.cell (6 : Nat)).bind fun c_6 =>
                              (r_1.1.cell (7 : Nat)).bind fun c_7 =>
                                (r_1.1.cell (8 : Nat)).bind fun c_8 =>
                                  (C f_i_IsMono [AVal.v (CVal.agg [c, c_1, c_2, c_3, c_4, c_5, c_6, c_7, c_8])] []).bind
                                    fun r_2 =>
                                    r_2.1.asBool.bind fun b =>
                                      r.1.asBool.bind fun b_1 =>
                                        br (!b == b_1) (some (CVal.bool false, []))
                                          ((C f_l_toTerm
                                                [AVal.v
                                                    (CVal.agg
                                                      [CVal.int IntKind.i64 a0, CVal.int IntKind.i64 a1, CVal.str a2,
                                                        CVal.str a3, CVal.int IntKind.i64 a40, CVal.int IntKind.i64 a41,
                                                        CVal.sl a42, CVal.sl a5, CVal.sl a6])]
                                                []).bind
                                            fun r =>
                                            (C f_l_eqTerm
                                                  [AVal.v (CVal.agg [c, c_1, c_2, c_3, c_4, c_5, c_6, c_7, c_8]),
                                                    AVal.v r.1]
                                                  []).bind
                                              fun r =>
                                              r.1.asBool.bind fun b =>
                                                br (!b) (some (CVal.bool false, [])) (some (CVal.bool true, []))))
                none)
theorem eq_l_FnExactIsMono (C : CallT) (L : LoopT) (a0 : Int) (a1 : Int) (a2 : List UInt8) (a3 : List UInt8) (a40 : Int) (a41 : Int) (a42 : List CVal) (a5 : List CVal) (a6 : List CVal) : evF E N C L f_l_FnExactIsMono [AVal.v
    (CVal.agg
      [CVal.int IntKind.i64 a0, CVal.int IntKind.i64 a1, CVal.str a2, CVal.str a3, CVal.int IntKind.i64 a40,
        CVal.int IntKind.i64 a41, CVal.sl a42, CVal.sl a5, CVal.sl a6])] [] = nf_l_FnExactIsMono C L a0 a1 a2 a3 a40 a41 a42 a5 a6 := by kernel_rfl
theorem go_l_FnExactIsMono (a0 : Int) (a1 : Int) (a2 : List UInt8) (a3 : List UInt8) (a40 : Int) (a41 : Int) (a42 : List CVal) (a5 : List CVal) (a6 : List CVal) (R : Ret) (h : nf_l_FnExactIsMono CC LL a0 a1 a2 a3 a40 a41 a42 a5 a6 = some R) : CC f_l_FnExactIsMono [AVal.v
    (CVal.agg
      [CVal.int IntKind.i64 a0, CVal.int IntKind.i64 a1, CVal.str a2, CVal.str a3, CVal.int IntKind.i64 a40,
        CVal.int IntKind.i64 a41, CVal.sl a42, CVal.sl a5, CVal.sl a6])] [] = some R := fnW (by decide) ((eq_l_FnExactIsMono CC LL a0 a1 a2 a3 a40 a41 a42 a5 a6).trans h)
noncomputable def nf_l_szTerm (C : CallT) (L : LoopT) (a0 : Int) (a1 : Int) (a2 : List UInt8) (a3 : List UInt8) (a40 : Int) (a41 : Int) (a42 : List CVal) (a5 : List CVal) (a6 : List CVal) (b : Int) : Option Ret :=
  br (decide (IntKind.i64.wrap (b - (↑a2.length : Int)) < (0 : Int))) (some (CVal.int IntKind.i64 (-1 : Int), []))
    (br (decide (IntKind.i64.wrap (IntKind.i64.wrap (b - (↑a2.length : Int)) - (↑a3.length : Int)) < (0 : Int)))
      (some (CVal.int IntKind.i64 (-1 : Int), []))
      ((C f_l_szTy
            [AVal.v (CVal.agg [CVal.int IntKind.i64 a40, CVal.int IntKind.i64 a41, CVal.sl a42]),
              AVal.v
                (CVal.int IntKind.i64
                  (IntKind.i64.wrap (IntKind.i64.wrap (b - (↑a2.length : Int)) - (↑a3.length : Int))))]
            []).bind
        fun r =>
        (CVal.asInt IntKind.i64 r.1).bind fun n =>
          br (decide (n < (0 : Int))) (some (CVal.int IntKind.i64 (-1 : Int), []))
            ((C f_l_szTyS [AVal.v (CVal.sl a5), AVal.v r.1] []).bind fun r =>
              (CVal.asInt IntKind.i64 r.1).bind fun n =>
                br (decide (n < (0 : Int))) (some (CVal.int IntKind.i64 (-1 : Int), []))
                  ((C f_l_szTermS [AVal.v (CVal.sl a6), AVal.v r.1] []).bind fun r =>
                    (CVal.asInt IntKind.i64 r.1).bind fun n =>
                      br (decide (n < (0 : Int))) (some (CVal.int IntKind.i64 (-1 : Int), [])) (some (r.1, []))))))
theorem eq_l_szTerm (C : CallT) (L : LoopT) (a0 : Int) (a1 : Int) (a2 : List UInt8) (a3 : List UInt8) (a40 : Int) (a41 : Int) (a42 : List CVal) (a5 : List CVal) (a6 : List CVal) (b : Int) : evF E N C L f_l_szTerm [AVal.v
    (CVal.agg
      [CVal.int IntKind.i64 a0, CVal.int IntKind.i64 a1, CVal.str a2, CVal.str a3, CVal.int IntKind.i64 a40,
        CVal.int IntKind.i64 a41, CVal.sl a42, CVal.sl a5, CVal.sl a6]),
  AVal.v (CVal.int IntKind.i64 b)] [] = nf_l_szTerm C L a0 a1 a2 a3 a40 a41 a42 a5 a6 b := by kernel_rfl
theorem go_l_szTerm (a0 : Int) (a1 : Int) (a2 : List UInt8) (a3 : List UInt8) (a40 : Int) (a41 : Int) (a42 : List CVal) (a5 : List CVal) (a6 : List CVal) (b : Int) (R : Ret) (h : nf_l_szTerm CC LL a0 a1 a2 a3 a40 a41 a42 a5 a6 b = some R) : CC f_l_szTerm [AVal.v
    (CVal.agg
      [CVal.int IntKind.i64 a0, CVal.int IntKind.i64 a1, CVal.str a2, CVal.str a3, CVal.int IntKind.i64 a40,
        CVal.int IntKind.i64 a41, CVal.sl a42, CVal.sl a5, CVal.sl a6]),
  AVal.v (CVal.int IntKind.i64 b)] [] = some R := fnW (by decide) ((eq_l_szTerm CC LL a0 a1 a2 a3 a40 a41 a42 a5 a6 b).trans h)
noncomputable def nf_i_Guard (C : CallT) (L : LoopT) (a0 : Int) (a1 : Int) (a2 : Int) (a3 : List CVal) (b : Int) : Option Ret :=
  (C f_i_guardOf
        [AVal.v (CVal.agg [CVal.int IntKind.i64 a0, CVal.int IntKind.i64 a1, CVal.int IntKind.i64 a2, CVal.sl a3]),
          AVal.v (CVal.int IntKind.i64 b)]
        []).bind
    fun r =>
    (CVal.asInt IntKind.i64 r.1).bind fun n =>
      br (decide (n < (0 : Int))) (some (CVal.int IntKind.i64 (-1 : Int), []))
        (r.1.asIdx.bind fun y =>
          br (decide ((0 : Int) ≤ y) && true)
            (a3[y.toNat]?.bind fun y =>
              br (CVal.fits true (7 : Nat) y) ((y.cell (6 : Nat)).bind fun c => some (c, [])) none)
            none)
theorem eq_i_Guard (C : CallT) (L : LoopT) (a0 : Int) (a1 : Int) (a2 : Int) (a3 : List CVal) (b : Int) : evF E N C L f_i_Guard [AVal.v (CVal.agg [CVal.int IntKind.i64 a0, CVal.int IntKind.i64 a1, CVal.int IntKind.i64 a2, CVal.sl a3]),
  AVal.v (CVal.int IntKind.i64 b)] [] = nf_i_Guard C L a0 a1 a2 a3 b := by kernel_rfl
theorem go_i_Guard (a0 : Int) (a1 : Int) (a2 : Int) (a3 : List CVal) (b : Int) (R : Ret) (h : nf_i_Guard CC LL a0 a1 a2 a3 b = some R) : CC f_i_Guard [AVal.v (CVal.agg [CVal.int IntKind.i64 a0, CVal.int IntKind.i64 a1, CVal.int IntKind.i64 a2, CVal.sl a3]),
  AVal.v (CVal.int IntKind.i64 b)] [] = some R := fnW (by decide) ((eq_i_Guard CC LL a0 a1 a2 a3 b).trans h)
noncomputable def nf_i_TyOk (C : CallT) (L : LoopT) (a0 : Int) (a1 : Int) (a2 : List CVal) : Option Ret :=
  (C f_i_measure [AVal.v (CVal.agg [CVal.int IntKind.i64 a0, CVal.int IntKind.i64 a1, CVal.sl a2])] []).bind fun r =>
    r.1.asTup.bind fun y =>
      y[(0 : Nat)]?.bind fun y =>
        r.1.asTup.bind fun y_1 =>
          y_1[(1 : Nat)]?.bind fun y_2 =>
            r.1.asTup.bind fun y_3 =>
              y_3[(2 : Nat)]?.bind fun y_4 =>
                (y_4.asBool.bind fun b =>
                      br b
                        ((CVal.asInt IntKind.i64 y).bind fun n =>
                          br (decide (n ≤ (6 : Int)))
                            ((CVal.asInt IntKind.i64 y_2).bind fun n => some (decide (n ≤ (60 : Int)), PUnit.unit))
                            (some (false, PUnit.unit)))
                        (some (false, PUnit.unit))).bind
                  fun y => some (CVal.bool y.1, [])
theorem eq_i_TyOk (C : CallT) (L : LoopT) (a0 : Int) (a1 : Int) (a2 : List CVal) : evF E N C L f_i_TyOk [AVal.v (CVal.agg [CVal.int IntKind.i64 a0, CVal.int IntKind.i64 a1, CVal.sl a2])] [] = nf_i_TyOk C L a0 a1 a2 := by kernel_rfl
theorem go_i_TyOk (a0 : Int) (a1 : Int) (a2 : List CVal) (R : Ret) (h : nf_i_TyOk CC LL a0 a1 a2 = some R) : CC f_i_TyOk [AVal.v (CVal.agg [CVal.int IntKind.i64 a0, CVal.int IntKind.i64 a1, CVal.sl a2])] [] = some R := fnW (by decide) ((eq_i_TyOk CC LL a0 a1 a2).trans h)
noncomputable def nf_s_IsMono (C : CallT) (L : LoopT) (a0 : Int) (a1 : Int) (a2 : List UInt8) (a3 : List UInt8) (a40 : Int) (a41 : Int) (a42 : List CVal) (a5 : List CVal) (a6 : List CVal) : Option Ret :=
  ((C f_s_TermOk
            [AVal.v
                (CVal.agg
                  [CVal.int IntKind.i64 a0, CVal.int IntKind.i64 a1, CVal.str a2, CVal.str a3, CVal.int IntKind.i64 a40,
                    CVal.int IntKind.i64 a41, CVal.sl a42, CVal.sl a5, CVal.sl a6])]
            []).bind
        fun r =>
        r.1.asBool.bind fun b =>
          br b
            ((C f_s_l5Mono
                  [AVal.v
                      (CVal.agg
                        [CVal.int IntKind.i64 a0, CVal.int IntKind.i64 a1, CVal.str a2, CVal.str a3,
                          CVal.int IntKind.i64 a40, CVal.int IntKind.i64 a41, CVal.sl a42, CVal.sl a5, CVal.sl a6])]
                  []).bind
              fun r => (bif true then r.1 else CVal.bool false).asBool.bind fun b => some (b, PUnit.unit))
            (some (false, PUnit.unit))).bind
    fun y => some (CVal.bool y.1, [])
theorem eq_s_IsMono (C : CallT) (L : LoopT) (a0 : Int) (a1 : Int) (a2 : List UInt8) (a3 : List UInt8) (a40 : Int) (a41 : Int) (a42 : List CVal) (a5 : List CVal) (a6 : List CVal) : evF E N C L f_s_IsMono [AVal.v
    (CVal.agg
      [CVal.int IntKind.i64 a0, CVal.int IntKind.i64 a1, CVal.str a2, CVal.str a3, CVal.int IntKind.i64 a40,
        CVal.int IntKind.i64 a41, CVal.sl a42, CVal.sl a5, CVal.sl a6])] [] = nf_s_IsMono C L a0 a1 a2 a3 a40 a41 a42 a5 a6 := by kernel_rfl
theorem go_s_IsMono (a0 : Int) (a1 : Int) (a2 : List UInt8) (a3 : List UInt8) (a40 : Int) (a41 : Int) (a42 : List CVal) (a5 : List CVal) (a6 : List CVal) (R : Ret) (h : nf_s_IsMono CC LL a0 a1 a2 a3 a40 a41 a42 a5 a6 = some R) : CC f_s_IsMono [AVal.v
    (CVal.agg
      [CVal.int IntKind.i64 a0, CVal.int IntKind.i64 a1, CVal.str a2, CVal.str a3, CVal.int IntKind.i64 a40,
        CVal.int IntKind.i64 a41, CVal.sl a42, CVal.sl a5, CVal.sl a6])] [] = some R := fnW (by decide) ((eq_s_IsMono CC LL a0 a1 a2 a3 a40 a41 a42 a5 a6).trans h)
noncomputable def nf_l_eqTyS (C : CallT) (L : LoopT) (a : List CVal) (b : List CVal) : Option Ret :=
  br (!decide ((↑a.length : Int) = (↑b.length : Int))) (some (CVal.bool false, []))
    ((L f_l_eqTyS (0 : Nat) lc_l_eqTyS_0 [] k_l_eqTyS_0 ((a, b, (0 : Int), PUnit.unit), PUnit.unit)).bind fun r =>
      loK r (fun r => some r) fun j p => br (j == (0 : Nat)) (some (CVal.bool true, [])) none)
theorem eq_l_eqTyS (C : CallT) (L : LoopT) (a : List CVal) (b : List CVal) : evF E N C L f_l_eqTyS [AVal.v (CVal.sl a), AVal.v (CVal.sl b)] [] = nf_l_eqTyS C L a b := by kernel_rfl
theorem go_l_eqTyS (a : List CVal) (b : List CVal) (R : Ret) (h : nf_l_eqTyS CC LL a b = some R) : CC f_l_eqTyS [AVal.v (CVal.sl a), AVal.v (CVal.sl b)] [] = some R := fnW (by decide) ((eq_l_eqTyS CC LL a b).trans h)
noncomputable def nf_s_l10Guard (C : CallT) (L : LoopT) (a0 : Int) (a1 : Int) (a2 : Int) (a3 : List CVal) (b : Int) : Option Ret :=
  (L f_s_l10Guard (0 : Nat) lc_s_l10Guard_0 [] k_s_l10Guard_0
        ((b, PUnit.unit, PUnit.unit, (0 : Int), PUnit.unit), (a0, a1, a2, a3, PUnit.unit), [], PUnit.unit)).bind
    fun r =>
    loK r (fun r => some r) fun j p =>
      br (j == (0 : Nat))
        ((br (decide ((↑(List.length p.snd.snd.1) : Int) = (0 : Int))) (some (true, PUnit.unit))
              ((C f_s_l1In
                    [AVal.v (CVal.int IntKind.i64 p.fst.1), AVal.v (CVal.int IntKind.i64 (0 : Int)),
                      AVal.v
                        (CVal.int IntKind.i64
                          (IntKind.i64.wrap ((↑(List.length p.snd.fst.snd.snd.snd.1) : Int) - (1 : Int))))]
                    []).bind
                fun r => r.1.asBool.bind fun b => some (!b, PUnit.unit))).bind
          fun y =>
          br y.1 (some (CVal.int IntKind.i64 (-1 : Int), []))
            (br (decide ((0 : Int) ≤ IntKind.i64.wrap ((↑(List.length p.snd.snd.1) : Int) - (1 : Int))) && true)
              (br
                (decide
                    ((IntKind.i64.wrap ((↑(List.length p.snd.snd.1) : Int) - (1 : Int))).toNat <
                      List.length p.snd.snd.1) &&
                  true)
                (p.snd.snd.1[(IntKind.i64.wrap ((↑(List.length p.snd.snd.1) : Int) - (1 : Int))).toNat]?.bind fun y =>
                  (y.cell (0 : Nat)).bind fun c => some (c, []))
                none)
              none))
        none
theorem eq_s_l10Guard (C : CallT) (L : LoopT) (a0 : Int) (a1 : Int) (a2 : Int) (a3 : List CVal) (b : Int) : evF E N C L f_s_l10Guard [AVal.v (CVal.agg [CVal.int IntKind.i64 a0, CVal.int IntKind.i64 a1, CVal.int IntKind.i64 a2, CVal.sl a3]),
  AVal.v (CVal.int IntKind.i64 b)] [] = nf_s_l10Guard C L a0 a1 a2 a3 b := by kernel_rfl
theorem go_s_l10Guard (a0 : Int) (a1 : Int) (a2 : Int) (a3 : List CVal) (b : Int) (R : Ret) (h : nf_s_l10Guard CC LL a0 a1 a2 a3 b = some R) : CC f_s_l10Guard [AVal.v (CVal.agg [CVal.int IntKind.i64 a0, CVal.int IntKind.i64 a1, CVal.int IntKind.i64 a2, CVal.sl a3]),
  AVal.v (CVal.int IntKind.i64 b)] [] = some R := fnW (by decide) ((eq_s_l10Guard CC LL a0 a1 a2 a3 b).trans h)
noncomputable def nf_s_l1Int (C : CallT) (L : LoopT) (a : CVal) (b : List CVal) : Option Ret :=
  (C f_s_l1Below [AVal.v a, AVal.v (CVal.int IntKind.i64 (↑b.length : Int))] []).bind fun r =>
    r.1.asIdx.bind fun y =>
      br (decide ((0 : Int) ≤ y) && true)
        (b[y.toNat]?.bind fun y => br (CVal.fits false (1 : Nat) y) ((y.cell (0 : Nat)).bind fun c => some (c, [])) none)
        none
theorem eq_s_l1Int (C : CallT) (L : LoopT) (a : CVal) (b : List CVal) : evF E N C L f_s_l1Int [AVal.v a, AVal.v (CVal.sl b)] [] = nf_s_l1Int C L a b := by kernel_rfl
theorem go_s_l1Int (a : CVal) (b : List CVal) (R : Ret) (h : nf_s_l1Int CC LL a b = some R) : CC f_s_l1Int [AVal.v a, AVal.v (CVal.sl b)] [] = some R := fnW (by decide) ((eq_s_l1Int CC LL a b).trans h)
noncomputable def nf_s_l2Plain (C : CallT) (L : LoopT) (a0 : Int) (a1 : Int) (a2 : List UInt8) (a3 : List UInt8) (a40 : Int) (a41 : Int) (a42 : List CVal) (a5 : List CVal) (a6 : List CVal) : Option Ret :=
  (br (!decide (a2 = []))
        ((C f_s_l2Name [AVal.v (CVal.str a2), AVal.v (CVal.bool true)] []).bind fun r =>
          r.1.asBool.bind fun b =>
            br (!b) (some (true, PUnit.unit))
              (br (!decide (a3 = []))
                ((C f_s_l2Name [AVal.v (CVal.str a3), AVal.v (CVal.bool true)] []).bind fun r =>
                  r.1.asBool.bind fun b => some (!b, PUnit.unit))
                (some (false, PUnit.unit))))
        (br (!decide (a3 = []))
          ((C f_s_l2Name [AVal.v (CVal.str a3), AVal.v (CVal.bool true)] []).bind fun r =>
            r.1.asBool.bind fun b => some (!b, PUnit.unit))
          (some (false, PUnit.unit)))).bind
    fun y =>
    br y.1 (some (CVal.bool false, []))
      ((L f_s_l2Plain (0 : Nat) lc_s_l2Plain_0 [] k_s_l2Plain_0
            ((PUnit.unit, (0 : Int), PUnit.unit), (a0, a1, a2, a3, a40, a41, a42, a5, a6, PUnit.unit), PUnit.unit)).bind
        fun r => loK r (fun r => some r) fun j p => br (j == (0 : Nat)) (some (CVal.bool true, [])) none)
theorem eq_s_l2Plain (C : CallT) (L : LoopT) (a0 : Int) (a1 : Int) (a2 : List UInt8) (a3 : List UInt8) (a40 : Int) (a41 : Int) (a42 : List CVal) (a5 : List CVal) (a6 : List CVal) : evF E N C L f_s_l2Plain [AVal.v
    (CVal.agg
      [CVal.int IntKind.i64 a0, CVal.int IntKind.i64 a1, CVal.str a2, CVal.str a3, CVal.int IntKind.i64 a40,
        CVal.int IntKind.i64 a41, CVal.sl a42, CVal.sl a5, CVal.sl a6])] [] = nf_s_l2Plain C L a0 a1 a2 a3 a40 a41 a42 a5 a6 := by kernel_rfl
theorem go_s_l2Plain (a0 : Int) (a1 : Int) (a2 : List UInt8) (a3 : List UInt8) (a40 : Int) (a41 : Int) (a42 : List CVal) (a5 : List CVal) (a6 : List CVal) (R : Ret) (h : nf_s_l2Plain CC LL a0 a1 a2 a3 a40 a41 a42 a5 a6 = some R) : CC f_s_l2Plain [AVal.v
    (CVal.agg
      [CVal.int IntKind.i64 a0, CVal.int IntKind.i64 a1, CVal.str a2, CVal.str a3, CVal.int IntKind.i64 a40,
        CVal.int IntKind.i64 a41, CVal.sl a42, CVal.sl a5, CVal.sl a6])] [] = some R := fnW (by decide) ((eq_s_l2Plain CC LL a0 a1 a2 a3 a40 a41 a42 a5 a6).trans h)
noncomputable def nf_l_toIns (C : CallT) (L : LoopT) (a0 : Int) (a1 : Int) (a2 : Int) (a3 : Int) (a4 : Int) (a5 : List CVal) (a6 : Int) : Option Ret :=
  (C f_l_toIntS [AVal.v (CVal.sl a5)] []).bind fun r =>
    br (r.1.isFlat && true)
      (some
        (CVal.agg
            [CVal.int IntKind.i64 a0, CVal.int IntKind.i64 a1, CVal.int IntKind.i64 a2, CVal.int IntKind.i64 a3,
              CVal.int IntKind.i64 a4, r.1, CVal.int IntKind.i64 a6],
          []))
      none
theorem eq_l_toIns (C : CallT) (L : LoopT) (a0 : Int) (a1 : Int) (a2 : Int) (a3 : Int) (a4 : Int) (a5 : List CVal) (a6 : Int) : evF E N C L f_l_toIns [AVal.v
    (CVal.agg
      [CVal.int IntKind.i64 a0, CVal.int IntKind.i64 a1, CVal.int IntKind.i64 a2, CVal.int IntKind.i64 a3,
        CVal.int IntKind.i64 a4, CVal.sl a5, CVal.int IntKind.i64 a6])] [] = nf_l_toIns C L a0 a1 a2 a3 a4 a5 a6 := by kernel_rfl
theorem go_l_toIns (a0 : Int) (a1 : Int) (a2 : Int) (a3 : Int) (a4 : Int) (a5 : List CVal) (a6 : Int) (R : Ret) (h : nf_l_toIns CC LL a0 a1 a2 a3 a4 a5 a6 = some R) : CC f_l_toIns [AVal.v
    (CVal.agg
      [CVal.int IntKind.i64 a0, CVal.int IntKind.i64 a1, CVal.int IntKind.i64 a2, CVal.int IntKind.i64 a3,
        CVal.int IntKind.i64 a4, CVal.sl a5, CVal.int IntKind.i64 a6])] [] = some R := fnW (by decide) ((eq_l_toIns CC LL a0 a1 a2 a3 a4 a5 a6).trans h)
noncomputable def nf_slices_IndexFunc_Ty (C : CallT) (L : LoopT) (a : List CVal) (b : CVal) : Option Ret :=
  (L f_slices_IndexFunc_Ty (0 : Nat) lc_slices_IndexFunc_Ty_0 [] k_slices_IndexFunc_Ty_0
        ((a, b, (↑a.length : Int), (0 : Int), PUnit.unit), PUnit.unit)).bind
    fun r => loK r (fun r => some r) fun j p => br (j == (0 : Nat)) (some (CVal.int IntKind.i64 (-1 : Int), [])) none
theorem eq_slices_IndexFunc_Ty (C : CallT) (L : LoopT) (a : List CVal) (b : CVal) : evF E N C L f_slices_IndexFunc_Ty [AVal.v (CVal.sl a), AVal.v b] [] = nf_slices_IndexFunc_Ty C L a b := by kernel_rfl
theorem go_slices_IndexFunc_Ty (a : List CVal) (b : CVal) (R : Ret) (h : nf_slices_IndexFunc_Ty CC LL a b = some R) : CC f_slices_IndexFunc_Ty [AVal.v (CVal.sl a), AVal.v b] [] = some R := fnW (by decide) ((eq_slices_IndexFunc_Ty CC LL a b).trans h)
noncomputable def nf_i_anyTerm_1 (C : CallT) (L : LoopT) (a0 : Int) (a1 : Int) (a2 : List UInt8) (a3 : List UInt8) (a40 : Int) (a41 : Int) (a42 : List CVal) (a5 : List CVal) (a6 : List CVal) (b : CVal) : Option Ret :=
  (b.cell (0 : Nat)).bind fun c =>
    (C f_i_anyTerm
          [AVal.v
              (CVal.agg
                [CVal.int IntKind.i64 a0, CVal.int IntKind.i64 a1, CVal.str a2, CVal.str a3, CVal.int IntKind.i64 a40,
                  CVal.int IntKind.i64 a41, CVal.sl a42, CVal.sl a5, CVal.sl a6]),
            AVal.v c]
          []).bind
      fun r => some (r.1, [])
theorem eq_i_anyTerm_1 (C : CallT) (L : LoopT) (a0 : Int) (a1 : Int) (a2 : List UInt8) (a3 : List UInt8) (a40 : Int) (a41 : Int) (a42 : List CVal) (a5 : List CVal) (a6 : List CVal) (b : CVal) : evF E N C L f_i_anyTerm_1 [AVal.v
    (CVal.agg
      [CVal.int IntKind.i64 a0, CVal.int IntKind.i64 a1, CVal.str a2, CVal.str a3, CVal.int IntKind.i64 a40,
        CVal.int IntKind.i64 a41, CVal.sl a42, CVal.sl a5, CVal.sl a6]),
  AVal.v (b.fp (0 : Nat))] [] = nf_i_anyTerm_1 C L a0 a1 a2 a3 a40 a41 a42 a5 a6 b := by kernel_rfl
theorem go_i_anyTerm_1 (a0 : Int) (a1 : Int) (a2 : List UInt8) (a3 : List UInt8) (a40 : Int) (a41 : Int) (a42 : List CVal) (a5 : List CVal) (a6 : List CVal) (b : CVal) (R : Ret) (h : nf_i_anyTerm_1 CC LL a0 a1 a2 a3 a40 a41 a42 a5 a6 b = some R) : CC f_i_anyTerm_1 [AVal.v
    (CVal.agg
      [CVal.int IntKind.i64 a0, CVal.int IntKind.i64 a1, CVal.str a2, CVal.str a3, CVal.int IntKind.i64 a40,
        CVal.int IntKind.i64 a41, CVal.sl a42, CVal.sl a5, CVal.sl a6]),
  AVal.v (b.fp (0 : Nat))] [] = some R := fnW (by decide) ((eq_i_anyTerm_1 CC LL a0 a1 a2 a3 a40 a41 a42 a5 a6 b).trans h)
noncomputable def nf_s_l2Number (C : CallT) (L : LoopT) (a0 : Int) (a1 : Int) (a2 : List UInt8) (a3 : List UInt8) (a40 : Int) (a41 : Int) (a42 : List CVal) (a5 : List CVal) (a6 : List CVal) : Option Ret :=
  br (decide (a0 = (1 : Int)))
    ((C f_s_l1In
          [AVal.v (CVal.int IntKind.i64 a1), AVal.v (CVal.int IntKind.i64 (-1000000 : Int)),
            AVal.v (CVal.int IntKind.i64 (1000000 : Int))]
          []).bind
      fun r => some (r.1, []))
    (br (decide (a0 = (2 : Int)))
      ((C f_s_l1In
            [AVal.v (CVal.int IntKind.i64 a1), AVal.v (CVal.int IntKind.i64 (0 : Int)),
              AVal.v (CVal.int IntKind.i64 (1 : Int))]
            []).bind
        fun r => some (r.1, []))
      (br (decide (a0 = (6 : Int)))
        ((C f_s_l1In
              [AVal.v (CVal.int IntKind.i64 a1), AVal.v (CVal.int IntKind.i64 (0 : Int)),
                AVal.v (CVal.int IntKind.i64 (2 : Int))]
              []).bind
          fun r => some (r.1, []))
        (br (decide (a0 = (7 : Int)))
          ((C f_s_l1In
                [AVal.v (CVal.int IntKind.i64 a1), AVal.v (CVal.int IntKind.i64 (0 : Int)),
                  AVal.v (CVal.int IntKind.i64 (2 : Int))]
                []).bind
            fun r => some (r.1, []))
          (br (decide (a0 = (15 : Int)))
            ((C f_s_l1In
                  [AVal.v (CVal.int IntKind.i64 a1), AVal.v (CVal.int IntKind.i64 (1 : Int)),
                    AVal.v (CVal.int IntKind.i64 (5 : Int))]
                  []).bind
              fun r => some (r.1, []))
            (some (CVal.bool (decide (a1 = (0 : Int))), []))))))
theorem eq_s_l2Number (C : CallT) (L : LoopT) (a0 : Int) (a1 : Int) (a2 : List UInt8) (a3 : List UInt8) (a40 : Int) (a41 : Int) (a42 : List CVal) (a5 : List CVal) (a6 : List CVal) : evF E N C L f_s_l2Number [AVal.v
    (CVal.agg
      [CVal.int IntKind.i64 a0, CVal.int IntKind.i64 a1, CVal.str a2, CVal.str a3, CVal.int IntKind.i64 a40,
        CVal.int IntKind.i64 a41, CVal.sl a42, CVal.sl a5, CVal.sl a6])] [] = nf_s_l2Number C L a0 a1 a2 a3 a40 a41 a42 a5 a6 := by kernel_rfl
theorem go_s_l2Number (a0 : Int) (a1 : Int) (a2 : List UInt8) (a3 : List UInt8) (a40 : Int) (a41 : Int) (a42 : List CVal) (a5 : List CVal) (a6 : List CVal) (R : Ret) (h : nf_s_l2Number CC LL a0 a1 a2 a3 a40 a41 a42 a5 a6 = some R) : CC f_s_l2Number [AVal.v
    (CVal.agg
      [CVal.int IntKind.i64 a0, CVal.int IntKind.i64 a1, CVal.str a2, CVal.str a3, CVal.int IntKind.i64 a40,
        CVal.int IntKind.i64 a41, CVal.sl a42, CVal.sl a5, CVal.sl a6])] [] = some R := fnW (by decide) ((eq_s_l2Number CC LL a0 a1 a2 a3 a40 a41 a42 a5 a6).trans h)
noncomputable def nl_l_FnSubst_0 (C : CallT) (L : LoopT) (x01 : List CVal) (x03 : Int) (x04 : Bool) (x05 : Int) (x10 : Int) (x11 : Int) (x12 : List CVal) (x20 : Int) (x21 : Int) (x22 : List CVal) : Option (LO k_l_FnSubst_0.T) :=
  br (decide (x05 < (↑x01.length : Int)))
    (br (decide ((0 : Int) ≤ x05) && true)
      (x01[x05.toNat]?.bind fun y =>
        br (CVal.fits true (3 : Nat) y)
          ((y.sub (0 : Nat) (3 : Nat)).bind fun y =>
            (C f_i_VarsOf [AVal.v y] []).bind fun r =>
              (CVal.asInt IntKind.i64 r.1).bind fun n =>
                br (decide (x03 < n))
                  (br (decide ((0 : Int) ≤ x05) && true)
                    (x01[x05.toNat]?.bind fun y =>
                      br (CVal.fits true (3 : Nat) y)
                        ((y.sub (0 : Nat) (3 : Nat)).bind fun y =>
                          (C f_i_VarsOf [AVal.v y] []).bind fun r =>
                            (br x04
                                  (br (decide ((0 : Int) ≤ x05) && true)
                                    (x01[x05.toNat]?.bind fun y =>
                                      br (CVal.fits true (3 : Nat) y)
                                        ((y.sub (0 : Nat) (3 : Nat)).bind fun y =>
                                          (C f_i_Ground [AVal.v y] []).bind fun r =>
                                            (bif true then r.1 else CVal.bool false).asBool.bind fun b =>
                                              some (b, PUnit.unit))
                                        none)
                                    none)
                                  (some (false, PUnit.unit))).bind
                              fun y =>
                              (CVal.asInt IntKind.i64 r.1).bind fun n =>
                                L f_l_FnSubst (0 : Nat) lc_l_FnSubst_0 [] k_l_FnSubst_0
                                  ((PUnit.unit, x01, PUnit.unit, n, y.1, IntKind.i64.wrap (x05 + (1 : Int)), PUnit.unit),
                                    (x10, x11, x12, PUnit.unit), (x20, x21, x22, PUnit.unit), PUnit.unit))
                        none)
                    none)
                  ((br x04
                        (br (decide ((0 : Int) ≤ x05) && true)
                          (x01[x05.toNat]?.bind fun y =>
                            br (CVal.fits true (3 : Nat) y)
                              ((y.sub (0 : Nat) (3 : Nat)).bind fun y =>
                                (C f_i_Ground [AVal.v y] []).bind fun r =>
                                  (bif true then r.1 else CVal.bool false).asBool.bind fun b => some (b, PUnit.unit))
                              none)
                          none)
                        (some (false, PUnit.unit))).bind
                    fun y =>
                    L f_l_FnSubst (0 : Nat) lc_l_FnSubst_0 [] k_l_FnSubst_0
                      ((PUnit.unit, x01, PUnit.unit, x03, y.1, IntKind.i64.wrap (x05 + (1 : Int)), PUnit.unit),
                        (x10, x11, x12, PUnit.unit), (x20, x21, x22, PUnit.unit), PUnit.unit)))
          none)
      none)
    (some
      (LO.out (0 : Nat)
        ((PUnit.unit, x01, PUnit.unit, x03, x04, x05, PUnit.unit), (x10, x11, x12, PUnit.unit),
          (x20, x21, x22, PUnit.unit), PUnit.unit)))
theorem el_l_FnSubst_0 (C : CallT) (L : LoopT) (x01 : List CVal) (x03 : Int) (x04 : Bool) (x05 : Int) (x10 : Int) (x11 : Int) (x12 : List CVal) (x20 : Int) (x21 : Int) (x22 : List CVal) : evL E N C L f_l_FnSubst 0 lc_l_FnSubst_0 [] k_l_FnSubst_0 (((), x01, (), x03, x04, x05, ()), (x10, x11, x12, ()), (x20, x21, x22, ()), ()) = nl_l_FnSubst_0 C L x01 x03 x04 x05 x10 x11 x12 x20 x21 x22 := by kernel_rfl
theorem gl_l_FnSubst_0 (x01 : List CVal) (x03 : Int) (x04 : Bool) (x05 : Int) (x10 : Int) (x11 : Int) (x12 : List CVal) (x20 : Int) (x21 : Int) (x22 : List CVal) (R : LO k_l_FnSubst_0.T) (h : nl_l_FnSubst_0 CC LL x01 x03 x04 x05 x10 x11 x12 x20 x21 x22 = some R) : LL f_l_FnSubst 0 lc_l_FnSubst_0 [] k_l_FnSubst_0 (((), x01, (), x03, x04, x05, ()), (x10, x11, x12, ()), (x20, x21, x22, ()), ()) = some R := loopW ((el_l_FnSubst_0 CC LL x01 x03 x04 x05 x10 x11 x12 x20 x21 x22).trans h)
noncomputable def nl_l_eqTyS_0 (C : CallT) (L : LoopT) (x00 : List CVal) (x01 : List CVal) (x02 : Int) : Option (LO k_l_eqTyS_0.T) :=
  br (decide (x02 < (↑x00.length : Int)))
    (br (decide ((0 : Int) ≤ x02) && true)
      (x00[x02.toNat]?.bind fun y =>
        br (CVal.fits true (3 : Nat) y)
          ((y.sub (0 : Nat) (3 : Nat)).bind fun y =>
            br (decide ((0 : Int) ≤ x02) && true)
              (x01[x02.toNat]?.bind fun y_1 =>
                br (CVal.fits true (3 : Nat) y_1)
                  ((y_1.sub (0 : Nat) (3 : Nat)).bind fun y_2 =>
                    (C f_l_eqTy [AVal.v y, AVal.v y_2] []).bind fun r =>
                      r.1.asBool.bind fun b =>
                        br (!b) (some (LO.ret (CVal.bool false, [])))
                          (L f_l_eqTyS (0 : Nat) lc_l_eqTyS_0 [] k_l_eqTyS_0
                            ((x00, x01, IntKind.i64.wrap (x02 + (1 : Int)), PUnit.unit), PUnit.unit)))
                  none)
              none)
          none)
      none)
    (some (LO.out (0 : Nat) ((x00, x01, x02, PUnit.unit), PUnit.unit)))
theorem el_l_eqTyS_0 (C : CallT) (L : LoopT) (x00 : List CVal) (x01 : List CVal) (x02 : Int) : evL E N C L f_l_eqTyS 0 lc_l_eqTyS_0 [] k_l_eqTyS_0 ((x00, x01, x02, ()), ()) = nl_l_eqTyS_0 C L x00 x01 x02 := by kernel_rfl
theorem gl_l_eqTyS_0 (x00 : List CVal) (x01 : List CVal) (x02 : Int) (R : LO k_l_eqTyS_0.T) (h : nl_l_eqTyS_0 CC LL x00 x01 x02 = some R) : LL f_l_eqTyS 0 lc_l_eqTyS_0 [] k_l_eqTyS_0 ((x00, x01, x02, ()), ()) = some R := loopW ((el_l_eqTyS_0 CC LL x00 x01 x02).trans h)
noncomputable def nl_i_guardOf_0 (C : CallT) (L : LoopT) (x01 : List CVal) (x02 : Int) (x03 : Int) (x1 : List CVal) : Option (LO k_i_guardOf_0.T) :=
  br (decide (x03 < x02))
    (br (decide ((0 : Int) ≤ x03) && true)
      (x01[x03.toNat]?.bind fun y =>
        br (CVal.fits true (7 : Nat) y)
          ((y.sub (0 : Nat) (7 : Nat)).bind fun y =>
            br (CVal.isAggN (7 : Nat) y)
              ((y.cell (0 : Nat)).bind fun c =>
                (y.cell (1 : Nat)).bind fun c_1 =>
                  (y.cell (2 : Nat)).bind fun c_2 =>
                    (y.cell (3 : Nat)).bind fun c_3 =>
                      (y.cell (4 : Nat)).bind fun c_4 =>
                        (y.cell (5 : Nat)).bind fun c_5 =>
                          (y.cell (6 : Nat)).bind fun c_6 =>
                            (CVal.asInt IntKind.i64 c).bind fun n =>
                              br (decide (n = (17 : Int)))
                                (br (decide (x1.length + (1 : Nat) ≤ (4294967296 : Nat)) && true && true)
                                  (L f_i_guardOf (0 : Nat) lc_i_guardOf_0 [] k_i_guardOf_0
                                    ((PUnit.unit, x01, x02, IntKind.i64.wrap (x03 + (1 : Int)), PUnit.unit),
                                      x1 ++ [CVal.int IntKind.i64 x03], PUnit.unit))
                                  none)
                                ((CVal.asInt IntKind.i64 c).bind fun n =>
                                  br (decide (n = (18 : Int)))
                                    (br
                                      (decide
                                          ((0 : Int) ≤
                                            bif
                                                decide
                                                  ((0 : Int) < IntKind.i64.wrap ((↑x1.length : Int) - (1 : Int))) then
                                              IntKind.i64.wrap ((↑x1.length : Int) - (1 : Int))
                                            else (0 : Int)) &&
                                        decide
                                          ((bif
                                                decide
                                                  ((0 : Int) < IntKind.i64.wrap ((↑x1.length : Int) - (1 : Int))) then
                                              IntKind.i64.wrap ((↑x1.length : Int) - (1 : Int))
                                            else (0 : Int)) ≤
                                            (↑x1.length : Int)))
                                      (L f_i_guardOf (0 : Nat) lc_i_guardOf_0 [] k_i_guardOf_0
                                        ((PUnit.unit, x01, x02, IntKind.i64.wrap (x03 + (1 : Int)), PUnit.unit),
                                          List.take
                                            (bif
                                                  decide
                                                    ((0 : Int) < IntKind.i64.wrap ((↑x1.length : Int) - (1 : Int))) then
                                                IntKind.i64.wrap ((↑x1.length : Int) - (1 : Int))
                                              else (0 : Int)).toNat
                                            x1,
                                          PUnit.unit))
                                      none)
                                    (L f_i_guardOf (0 : Nat) lc_i_guardOf_0 [] k_i_guardOf_0
                                      ((PUnit.unit, x01, x02, IntKind.i64.wrap (x03 + (1 : Int)), PUnit.unit), x1,
                                        PUnit.unit))))
              none)
          none)
      none)
    (some (LO.out (0 : Nat) ((PUnit.unit, x01, x02, x03, PUnit.unit), x1, PUnit.unit)))
theorem el_i_guardOf_0 (C : CallT) (L : LoopT) (x01 : List CVal) (x02 : Int) (x03 : Int) (x1 : List CVal) : evL E N C L f_i_guardOf 0 lc_i_guardOf_0 [] k_i_guardOf_0 (((), x01, x02, x03, ()), x1, ()) = nl_i_guardOf_0 C L x01 x02 x03 x1 := by kernel_rfl
theorem gl_i_guardOf_0 (x01 : List CVal) (x02 : Int) (x03 : Int) (x1 : List CVal) (R : LO k_i_guardOf_0.T) (h : nl_i_guardOf_0 CC LL x01 x02 x03 x1 = some R) : LL f_i_guardOf 0 lc_i_guardOf_0 [] k_i_guardOf_0 (((), x01, x02, x03, ()), x1, ()) = some R := loopW ((el_i_guardOf_0 CC LL x01 x02 x03 x1).trans h)
noncomputable def nl_i_measure_0 (C : CallT) (L : LoopT) (x00 : Int) (x01 : Int) (x02 : List CVal) (x03 : Int) (x04 : Int) : Option (LO k_i_measure_0.T) :=
  br (decide (x04 < x03))
    (br (decide ((0 : Int) ≤ x04) && true)
      (x02[x04.toNat]?.bind fun y =>
        br (CVal.fits true (3 : Nat) y)
          ((y.sub (0 : Nat) (3 : Nat)).bind fun y =>
            br (CVal.isAggN (3 : Nat) y)
              ((y.cell (0 : Nat)).bind fun c =>
                (y.cell (1 : Nat)).bind fun c_1 =>
                  (y.cell (2 : Nat)).bind fun c_2 =>
                    (C f_i_measure [AVal.v (CVal.agg [c, c_1, c_2])] []).bind fun r =>
                      r.1.asTup.bind fun y =>
                        y[(0 : Nat)]?.bind fun y =>
                          r.1.asTup.bind fun y_1 =>
                            y_1[(1 : Nat)]?.bind fun y_2 =>
                              r.1.asTup.bind fun y_3 =>
                                y_3[(2 : Nat)]?.bind fun y_4 =>
                                  y_4.asBool.bind fun b =>
                                    br (!b)
                                      (some
                                        (LO.ret
                                          (CVal.tup
                                              [CVal.int IntKind.i64 (0 : Int), CVal.int IntKind.i64 (0 : Int),
                                                CVal.bool false],
                                            [])))
                                      ((CVal.asInt IntKind.i64 y).bind fun n =>
                                        (CVal.asInt IntKind.i64 y_2).bind fun n_1 =>
                                          L f_i_measure (0 : Nat) lc_i_measure_0 [] k_i_measure_0
                                            ((bif decide (x00 < n) then n else x00, IntKind.i64.wrap (x01 + n_1), x02,
                                                x03, IntKind.i64.wrap (x04 + (1 : Int)), PUnit.unit),
                                              PUnit.unit)))
              none)
          none)
      none)
    (some (LO.out (0 : Nat) ((x00, x01, x02, x03, x04, PUnit.unit), PUnit.unit)))
theorem el_i_measure_0 (C : CallT) (L : LoopT) (x00 : Int) (x01 : Int) (x02 : List CVal) (x03 : Int) (x04 : Int) : evL E N C L f_i_measure 0 lc_i_measure_0 [] k_i_measure_0 ((x00, x01, x02, x03, x04, ()), ()) = nl_i_measure_0 C L x00 x01 x02 x03 x04 := by kernel_rfl
theorem gl_i_measure_0 (x00 : Int) (x01 : Int) (x02 : List CVal) (x03 : Int) (x04 : Int) (R : LO k_i_measure_0.T) (h : nl_i_measure_0 CC LL x00 x01 x02 x03 x04 = some R) : LL f_i_measure 0 lc_i_measure_0 [] k_i_measure_0 ((x00, x01, x02, x03, x04, ()), ()) = some R := loopW ((el_i_measure_0 CC LL x00 x01 x02 x03 x04).trans h)
noncomputable def nl_slices_IndexFunc_Ty_0 (C : CallT) (L : LoopT) (x00 : List CVal) (x01 : CVal) (x02 : Int) (x03 : Int) : Option (LO k_slices_IndexFunc_Ty_0.T) :=
  br (decide (x03 < x02))
    (br (decide ((0 : Int) ≤ x03) && true)
      (x00[x03.toNat]?.bind fun y =>
        br (CVal.fits true (3 : Nat) y)
          ((y.sub (0 : Nat) (3 : Nat)).bind fun y =>
            (C apId [AVal.v x01, AVal.v y] []).bind fun r =>
              r.1.asBool.bind fun b =>
                br b (some (LO.ret (CVal.int IntKind.i64 x03, [])))
                  (L f_slices_IndexFunc_Ty (0 : Nat) lc_slices_IndexFunc_Ty_0 [] k_slices_IndexFunc_Ty_0
                    ((x00, x01, x02, IntKind.i64.wrap (x03 + (1 : Int)), PUnit.unit), PUnit.unit)))
          none)
      none)
    (some (LO.out (0 : Nat) ((x00, x01, x02, x03, PUnit.unit), PUnit.unit)))
theorem el_slices_IndexFunc_Ty_0 (C : CallT) (L : LoopT) (x00 : List CVal) (x01 : CVal) (x02 : Int) (x03 : Int) : evL E N C L f_slices_IndexFunc_Ty 0 lc_slices_IndexFunc_Ty_0 [] k_slices_IndexFunc_Ty_0 ((x00, x01, x02, x03, ()), ()) = nl_slices_IndexFunc_Ty_0 C L x00 x01 x02 x03 := by kernel_rfl
theorem gl_slices_IndexFunc_Ty_0 (x00 : List CVal) (x01 : CVal) (x02 : Int) (x03 : Int) (R : LO k_slices_IndexFunc_Ty_0.T) (h : nl_slices_IndexFunc_Ty_0 CC LL x00 x01 x02 x03 = some R) : LL f_slices_IndexFunc_Ty 0 lc_slices_IndexFunc_Ty_0 [] k_slices_IndexFunc_Ty_0 ((x00, x01, x02, x03, ()), ()) = some R := loopW ((el_slices_IndexFunc_Ty_0 CC LL x00 x01 x02 x03).trans h)
noncomputable def nl_i_isName_0 (C : CallT) (L : LoopT) (x00 : List UInt8) (x01 : Int) (x02 : Int) : Option (LO k_i_isName_0.T) :=
  br (decide (x02 < x01))
    (br (decide ((0 : Int) ≤ x02))
      (x00[x02.toNat]?.bind fun y =>
        (br (decide ((97 : Int) ≤ (↑y.toNat : Int))) (some (decide ((↑y.toNat : Int) ≤ (122 : Int)), PUnit.unit))
              (some (false, PUnit.unit))).bind
          fun y_1 =>
          (br (!y_1.1)
                (br (decide (x02 = (0 : Int))) (some (true, PUnit.unit))
                  (br (decide ((↑y.toNat : Int) < (48 : Int)))
                    (some (!decide ((↑y.toNat : Int) = (46 : Int)), PUnit.unit))
                    (br (decide ((57 : Int) < (↑y.toNat : Int)))
                      (some (!decide ((↑y.toNat : Int) = (46 : Int)), PUnit.unit)) (some (false, PUnit.unit)))))
                (some (false, PUnit.unit))).bind
            fun y =>
            br y.1 (some (LO.ret (CVal.bool false, [])))
              (L f_i_isName (0 : Nat) lc_i_isName_0 [] k_i_isName_0
                ((x00, x01, IntKind.i64.wrap (x02 + (1 : Int)), PUnit.unit), PUnit.unit)))
      none)
    (some (LO.out (0 : Nat) ((x00, x01, x02, PUnit.unit), PUnit.unit)))
theorem el_i_isName_0 (C : CallT) (L : LoopT) (x00 : List UInt8) (x01 : Int) (x02 : Int) : evL E N C L f_i_isName 0 lc_i_isName_0 [] k_i_isName_0 ((x00, x01, x02, ()), ()) = nl_i_isName_0 C L x00 x01 x02 := by kernel_rfl
theorem gl_i_isName_0 (x00 : List UInt8) (x01 : Int) (x02 : Int) (R : LO k_i_isName_0.T) (h : nl_i_isName_0 CC LL x00 x01 x02 = some R) : LL f_i_isName 0 lc_i_isName_0 [] k_i_isName_0 ((x00, x01, x02, ()), ()) = some R := loopW ((el_i_isName_0 CC LL x00 x01 x02).trans h)
end Go.Proofs.Ytdbgiclddcphfaa.Abs
