/- What the functions come to in the abstract machine. -/
import Derived.Test.YtomkegeojknihaaDoorV1Ann
import Derived.KernelRfl
set_option linter.unusedVariables false
set_option maxRecDepth 100000
namespace Go.Proofs.YtomkegeojknihaaDoor.Abs
open Go Go.Proofs
noncomputable def nf_l_FnExactInsText (C : CallT) (L : LoopT) (a0 : Int) (a1 : Int) (a2 : Int) (a3 : Int) (a4 : Int) (a5 : List CVal) (a6 : Int) : Option Ret :=
  (C f_l_szIns
        [AVal.v
            (CVal.agg
              [CVal.int IntKind.i64 a0, CVal.int IntKind.i64 a1, CVal.int IntKind.i64 a2, CVal.int IntKind.i64 a3,
                CVal.int IntKind.i64 a4, CVal.sl a5, CVal.int IntKind.i64 a6]),
          AVal.v (CVal.int IntKind.i64 (1048576 : Int))]
        []).bind
    fun r =>
    (CVal.asInt IntKind.i64 r.1).bind fun n =>
      br (decide (n < (0 : Int))) (some (CVal.bool true, []))
        ((C f_l_toIns
              [AVal.v
                  (CVal.agg
                    [CVal.int IntKind.i64 a0, CVal.int IntKind.i64 a1, CVal.int IntKind.i64 a2, CVal.int IntKind.i64 a3,
                      CVal.int IntKind.i64 a4, CVal.sl a5, CVal.int IntKind.i64 a6])]
              []).bind
          fun r =>
          (C f_s_InsText [AVal.v r.1] []).bind fun r =>
            (C f_l_toIns
                  [AVal.v
                      (CVal.agg
                        [CVal.int IntKind.i64 a0, CVal.int IntKind.i64 a1, CVal.int IntKind.i64 a2,
                          CVal.int IntKind.i64 a3, CVal.int IntKind.i64 a4, CVal.sl a5, CVal.int IntKind.i64 a6])]
                  []).bind
              fun r_1 =>
              br (CVal.isAggN (7 : Nat) r_1.1)
                ((r_1.1.cell (0 : Nat)).bind fun c =>
                  (r_1.1.cell (1 : Nat)).bind fun c_1 =>
                    (r_1.1.cell (2 : Nat)).bind fun c_2 =>
                      (r_1.1.cell (3 : Nat)).bind fun c_3 =>
                        (r_1.1.cell (4 : Nat)).bind fun c_4 =>
                          (r_1.1.cell (5 : Nat)).bind fun c_5 =>
                            (r_1.1.cell (6 : Nat)).bind fun c_6 =>
                              (C f_i_InsText [AVal.v (CVal.agg [c, c_1, c_2, c_3, c_4, c_5, c_6])] []).bind fun r_2 =>
                                r_2.1.asStr.bind fun s =>
                                  r.1.asStr.bind fun s_1 =>
                                    br (!decide (s = s_1)) (some (CVal.bool false, []))
                                      ((C f_l_toIns
                                            [AVal.v
                                                (CVal.agg
                                                  [CVal.int IntKind.i64 a0, CVal.int IntKind.i64 a1,
                                                    CVal.int IntKind.i64 a2, CVal.int IntKind.i64 a3,
                                                    CVal.int IntKind.i64 a4, CVal.sl a5, CVal.int IntKind.i64 a6])]
                                            []).bind
                                        fun r =>
                                        (C f_l_eqIns [AVal.v (CVal.agg [c, c_1, c_2, c_3, c_4, c_5, c_6]), AVal.v r.1]
                                              []).bind
                                          fun r =>
                                          r.1.asBool.bind fun b =>
                                            br (!b) (some (CVal.bool false, [])) (some (CVal.bool true, []))))
                none)
theorem eq_l_FnExactInsText (C : CallT) (L : LoopT) (a0 : Int) (a1 : Int) (a2 : Int) (a3 : Int) (a4 : Int) (a5 : List CVal) (a6 : Int) : evF E N C L f_l_FnExactInsText [AVal.v
    (CVal.agg
      [CVal.int IntKind.i64 a0, CVal.int IntKind.i64 a1, CVal.int IntKind.i64 a2, CVal.int IntKind.i64 a3,
        CVal.int IntKind.i64 a4, CVal.sl a5, CVal.int IntKind.i64 a6])] [] = nf_l_FnExactInsText C L a0 a1 a2 a3 a4 a5 a6 := by kernel_rfl
theorem go_l_FnExactInsText (a0 : Int) (a1 : Int) (a2 : Int) (a3 : Int) (a4 : Int) (a5 : List CVal) (a6 : Int) (R : Ret) (h : nf_l_FnExactInsText CC LL a0 a1 a2 a3 a4 a5 a6 = some R) : CC f_l_FnExactInsText [AVal.v
    (CVal.agg
      [CVal.int IntKind.i64 a0, CVal.int IntKind.i64 a1, CVal.int IntKind.i64 a2, CVal.int IntKind.i64 a3,
        CVal.int IntKind.i64 a4, CVal.sl a5, CVal.int IntKind.i64 a6])] [] = some R := fnW (by decide) rfl ((eq_l_FnExactInsText CC LL a0 a1 a2 a3 a4 a5 a6).trans h)
noncomputable def nf_s_InsText (C : CallT) (L : LoopT) (a0 : Int) (a1 : Int) (a2 : Int) (a3 : Int) (a4 : Int) (a5 : List CVal) (a6 : Int) : Option Ret :=
  (C f_s_l9Int [AVal.v (CVal.int IntKind.i64 a0)] []).bind fun r =>
    r.1.asStr.bind fun s =>
      br (decide (s.length + (1 : Nat) ≤ (1152921504606846976 : Nat)))
        ((C f_s_l9Int [AVal.v (CVal.int IntKind.i64 a1)] []).bind fun r =>
          r.1.asStr.bind fun s_1 =>
            br (decide ((s ++ [(32 : UInt8)]).length + s_1.length ≤ (1152921504606846976 : Nat)))
              (br (decide ((s ++ [(32 : UInt8)] ++ s_1).length + (1 : Nat) ≤ (1152921504606846976 : Nat)))
                ((C f_s_l9Int [AVal.v (CVal.int IntKind.i64 a2)] []).bind fun r =>
                  r.1.asStr.bind fun s_2 =>
                    br
                      (decide
                        ((s ++ [(32 : UInt8)] ++ s_1 ++ [(32 : UInt8)]).length + s_2.length ≤
                          (1152921504606846976 : Nat)))
                      (br
                        (decide
                          ((s ++ [(32 : UInt8)] ++ s_1 ++ [(32 : UInt8)] ++ s_2).length + (1 : Nat) ≤
                            (1152921504606846976 : Nat)))
                        ((C f_s_l9Int [AVal.v (CVal.int IntKind.i64 a3)] []).bind fun r =>
                          r.1.asStr.bind fun s_3 =>
                            br
                              (decide
                                ((s ++ [(32 : UInt8)] ++ s_1 ++ [(32 : UInt8)] ++ s_2 ++ [(32 : UInt8)]).length +
                                    s_3.length ≤
                                  (1152921504606846976 : Nat)))
                              (br
                                (decide
                                  ((s ++ [(32 : UInt8)] ++ s_1 ++ [(32 : UInt8)] ++ s_2 ++ [(32 : UInt8)] ++ s_3).length +
                                      (1 : Nat) ≤
                                    (1152921504606846976 : Nat)))
                                ((C f_s_l9Int [AVal.v (CVal.int IntKind.i64 a4)] []).bind fun r =>
                                  r.1.asStr.bind fun s_4 =>
                                    br
                                      (decide
                                        ((s ++ [(32 : UInt8)] ++ s_1 ++ [(32 : UInt8)] ++ s_2 ++ [(32 : UInt8)] ++ s_3 ++
                                                [(32 : UInt8)]).length +
                                            s_4.length ≤
                                          (1152921504606846976 : Nat)))
                                      (br
                                        (decide
                                          ((s ++ [(32 : UInt8)] ++ s_1 ++ [(32 : UInt8)] ++ s_2 ++ [(32 : UInt8)] ++
                                                      s_3 ++
                                                    [(32 : UInt8)] ++
                                                  s_4).length +
                                              (1 : Nat) ≤
                                            (1152921504606846976 : Nat)))
                                        ((C f_s_l9Int [AVal.v (CVal.int IntKind.i64 a6)] []).bind fun r =>
                                          r.1.asStr.bind fun s_5 =>
                                            br
                                              (decide
                                                ((s ++ [(32 : UInt8)] ++ s_1 ++ [(32 : UInt8)] ++ s_2 ++ [(32 : UInt8)] ++
                                                              s_3 ++
                                                            [(32 : UInt8)] ++
                                                          s_4 ++
                                                        [(32 : UInt8)]).length +
                                                    s_5.length ≤
                                                  (1152921504606846976 : Nat)))
                                              ((L f_s_InsText (0 : Nat) lc_s_InsText_0 [] k_s_InsText_0
                                                    ((PUnit.unit,
                                                        s ++ [(32 : UInt8)] ++ s_1 ++ [(32 : UInt8)] ++ s_2 ++
                                                                    [(32 : UInt8)] ++
                                                                  s_3 ++
                                                                [(32 : UInt8)] ++
                                                              s_4 ++
                                                            [(32 : UInt8)] ++
                                                          s_5,
                                                        (0 : Int), PUnit.unit),
                                                      (a0, a1, a2, a3, a4, a5, a6, PUnit.unit), PUnit.unit)).bind
                                                fun r =>
                                                loK r (fun r => some r) fun j p =>
                                                  br (j == (0 : Nat)) (some (CVal.str p.fst.snd.1, [])) none)
                                              none)
                                        none)
                                      none)
                                none)
                              none)
                        none)
                      none)
                none)
              none)
        none
theorem eq_s_InsText (C : CallT) (L : LoopT) (a0 : Int) (a1 : Int) (a2 : Int) (a3 : Int) (a4 : Int) (a5 : List CVal) (a6 : Int) : evF E N C L f_s_InsText [AVal.v
    (CVal.agg
      [CVal.int IntKind.i64 a0, CVal.int IntKind.i64 a1, CVal.int IntKind.i64 a2, CVal.int IntKind.i64 a3,
        CVal.int IntKind.i64 a4, CVal.sl a5, CVal.int IntKind.i64 a6])] [] = nf_s_InsText C L a0 a1 a2 a3 a4 a5 a6 := by kernel_rfl
theorem go_s_InsText (a0 : Int) (a1 : Int) (a2 : Int) (a3 : Int) (a4 : Int) (a5 : List CVal) (a6 : Int) (R : Ret) (h : nf_s_InsText CC LL a0 a1 a2 a3 a4 a5 a6 = some R) : CC f_s_InsText [AVal.v
    (CVal.agg
      [CVal.int IntKind.i64 a0, CVal.int IntKind.i64 a1, CVal.int IntKind.i64 a2, CVal.int IntKind.i64 a3,
        CVal.int IntKind.i64 a4, CVal.sl a5, CVal.int IntKind.i64 a6])] [] = some R := fnW (by decide) rfl ((eq_s_InsText CC LL a0 a1 a2 a3 a4 a5 a6).trans h)
noncomputable def nf_l_toTy (C : CallT) (L : LoopT) (a0 : Int) (a1 : Int) (a2 : List CVal) : Option Ret :=
  (C f_l_toTyS [AVal.v (CVal.sl a2)] []).bind fun r =>
    br (r.1.isFlat && true) (some (CVal.agg [CVal.int IntKind.i64 a0, CVal.int IntKind.i64 a1, r.1], [])) none
theorem eq_l_toTy (C : CallT) (L : LoopT) (a0 : Int) (a1 : Int) (a2 : List CVal) : evF E N C L f_l_toTy [AVal.v (CVal.agg [CVal.int IntKind.i64 a0, CVal.int IntKind.i64 a1, CVal.sl a2])] [] = nf_l_toTy C L a0 a1 a2 := by kernel_rfl
theorem go_l_toTy (a0 : Int) (a1 : Int) (a2 : List CVal) (R : Ret) (h : nf_l_toTy CC LL a0 a1 a2 = some R) : CC f_l_toTy [AVal.v (CVal.agg [CVal.int IntKind.i64 a0, CVal.int IntKind.i64 a1, CVal.sl a2])] [] = some R := fnW (by decide) rfl ((eq_l_toTy CC LL a0 a1 a2).trans h)
noncomputable def nf_l_szIntS (C : CallT) (L : LoopT) (a : List CVal) (b : Int) : Option Ret :=
  br (decide (IntKind.i64.wrap (b - (↑a.length : Int)) < (0 : Int))) (some (CVal.int IntKind.i64 (-1 : Int), []))
    (some (CVal.int IntKind.i64 (IntKind.i64.wrap (b - (↑a.length : Int))), []))
theorem eq_l_szIntS (C : CallT) (L : LoopT) (a : List CVal) (b : Int) : evF E N C L f_l_szIntS [AVal.v (CVal.sl a), AVal.v (CVal.int IntKind.i64 b)] [] = nf_l_szIntS C L a b := by kernel_rfl
theorem go_l_szIntS (a : List CVal) (b : Int) (R : Ret) (h : nf_l_szIntS CC LL a b = some R) : CC f_l_szIntS [AVal.v (CVal.sl a), AVal.v (CVal.int IntKind.i64 b)] [] = some R := fnW (by decide) rfl ((eq_l_szIntS CC LL a b).trans h)
noncomputable def nf_l_szTyS (C : CallT) (L : LoopT) (a : List CVal) (b : Int) : Option Ret :=
  br (decide (IntKind.i64.wrap (b - (↑a.length : Int)) < (0 : Int))) (some (CVal.int IntKind.i64 (-1 : Int), []))
    ((L f_l_szTyS (0 : Nat) lc_l_szTyS_0 [] k_l_szTyS_0
          ((a, IntKind.i64.wrap (b - (↑a.length : Int)), (0 : Int), PUnit.unit), PUnit.unit)).bind
      fun r => loK r (fun r => some r) fun j p => br (j == (0 : Nat)) (some (CVal.int IntKind.i64 p.fst.snd.1, [])) none)
theorem eq_l_szTyS (C : CallT) (L : LoopT) (a : List CVal) (b : Int) : evF E N C L f_l_szTyS [AVal.v (CVal.sl a), AVal.v (CVal.int IntKind.i64 b)] [] = nf_l_szTyS C L a b := by kernel_rfl
theorem go_l_szTyS (a : List CVal) (b : Int) (R : Ret) (h : nf_l_szTyS CC LL a b = some R) : CC f_l_szTyS [AVal.v (CVal.sl a), AVal.v (CVal.int IntKind.i64 b)] [] = some R := fnW (by decide) rfl ((eq_l_szTyS CC LL a b).trans h)
noncomputable def nf_i_TyOk (C : CallT) (L : LoopT) (a0 : Int) (a1 : Int) (a2 : List CVal) : Option Ret :=
  (C f_i_measure [AVal.v (CVal.agg [CVal.int IntKind.i64 a0, CVal.int IntKind.i64 a1, CVal.sl a2])] []).bind fun r =>
    r.1.asTup.bind fun y =>
      y[(0 : Nat)]?.bind fun y =>
        r.1.asTup.bind fun y_1 =>
          y_1[(1 : Nat)]?.bind fun y_2 =>
            r.1.asTup.bind fun y_3 =>
              y_3[(2 : Nat)]?.bind fun y_4 =>
                (y_4.asBool.bind fun b =>
                      br b
                        ((CVal.asInt IntKind.i64 y).bind fun n =>
                          br (decide (n ≤ (6 : Int)))
                            ((CVal.asInt IntKind.i64 y_2).bind fun n => some (decide (n ≤ (60 : Int)), PUnit.unit))
                            (some (false, PUnit.unit)))
                        (some (false, PUnit.unit))).bind
                  fun y => some (CVal.bool y.1, [])
theorem eq_i_TyOk (C : CallT) (L : LoopT) (a0 : Int) (a1 : Int) (a2 : List CVal) : evF E N C L f_i_TyOk [AVal.v (CVal.agg [CVal.int IntKind.i64 a0, CVal.int IntKind.i64 a1, CVal.sl a2])] [] = nf_i_TyOk C L a0 a1 a2 := by kernel_rfl
theorem go_i_TyOk (a0 : Int) (a1 : Int) (a2 : List CVal) (R : Ret) (h : nf_i_TyOk CC LL a0 a1 a2 = some R) : CC f_i_TyOk [AVal.v (CVal.agg [CVal.int IntKind.i64 a0, CVal.int IntKind.i64 a1, CVal.sl a2])] [] = some R := fnW (by decide) rfl ((eq_i_TyOk CC LL a0 a1 a2).trans h)
noncomputable def nf_s_l1Look (C : CallT) (L : LoopT) (a0 : Int) (a1 : Int) (a2 : List CVal) (b : Int) (c : Int) : Option Ret :=
  (br (decide (b = (0 : Int))) (some (true, PUnit.unit))
        (br (decide ((60 : Int) < IntKind.i64.wrap (c + (1 : Int)))) (some (true, PUnit.unit))
          ((C f_s_l1Args [AVal.v (CVal.int IntKind.i64 a0)] []).bind fun r =>
            (CVal.asInt IntKind.i64 r.1).bind fun n =>
              br (!decide ((↑a2.length : Int) = n)) (some (true, PUnit.unit))
                (br (decide (a0 = (3 : Int)))
                  ((C f_s_l1In
                        [AVal.v (CVal.int IntKind.i64 a1), AVal.v (CVal.int IntKind.i64 (0 : Int)),
                          AVal.v (CVal.int IntKind.i64 (1 : Int))]
                        []).bind
                    fun r =>
                    r.1.asBool.bind fun b =>
                      br (!b) (some (true, PUnit.unit))
                        (br (!decide (a0 = (3 : Int))) (some (!decide (a1 = (0 : Int)), PUnit.unit))
                          (some (false, PUnit.unit))))
                  (br (!decide (a0 = (3 : Int))) (some (!decide (a1 = (0 : Int)), PUnit.unit))
                    (some (false, PUnit.unit))))))).bind
    fun y =>
    br y.1 (some (CVal.bool false, [[CVal.int IntKind.i64 (IntKind.i64.wrap (c + (1 : Int)))]]))
      ((L f_s_l1Look (0 : Nat) lc_s_l1Look_0 [none] k_s_l1Look_0
            ((b, PUnit.unit, PUnit.unit, (0 : Int), PUnit.unit), (IntKind.i64.wrap (c + (1 : Int)), PUnit.unit),
              (a0, a1, a2, PUnit.unit), PUnit.unit)).bind
        fun r =>
        loK r (fun r => some r) fun j p =>
          br (j == (0 : Nat)) (some (CVal.bool true, [[CVal.int IntKind.i64 p.snd.fst.1]])) none)
theorem eq_s_l1Look (C : CallT) (L : LoopT) (a0 : Int) (a1 : Int) (a2 : List CVal) (b : Int) (c : Int) : evF E N C L f_s_l1Look [AVal.v (CVal.agg [CVal.int IntKind.i64 a0, CVal.int IntKind.i64 a1, CVal.sl a2]), AVal.v (CVal.int IntKind.i64 b),
  AVal.lptr (0 : Nat) (0 : Nat)] [PB.mk false (0 : Nat) [CVal.int IntKind.i64 c]] = nf_s_l1Look C L a0 a1 a2 b c := by kernel_rfl
theorem go_s_l1Look (a0 : Int) (a1 : Int) (a2 : List CVal) (b : Int) (c : Int) (R : Ret) (h : nf_s_l1Look CC LL a0 a1 a2 b c = some R) : CC f_s_l1Look [AVal.v (CVal.agg [CVal.int IntKind.i64 a0, CVal.int IntKind.i64 a1, CVal.sl a2]), AVal.v (CVal.int IntKind.i64 b),
  AVal.lptr (0 : Nat) (0 : Nat)] [PB.mk false (0 : Nat) [CVal.int IntKind.i64 c]] = some R := fnW (by decide) rfl ((eq_s_l1Look CC LL a0 a1 a2 b c).trans h)
noncomputable def nf_i_tyParts (C : CallT) (L : LoopT) (a : Int) : Option Ret :=
  br (decide (a = (1 : Int))) (some (CVal.int IntKind.i64 (0 : Int), []))
    (br (decide (a = (2 : Int))) (some (CVal.int IntKind.i64 (0 : Int), []))
      (br (decide (a = (3 : Int))) (some (CVal.int IntKind.i64 (0 : Int), []))
        (br (decide (a = (6 : Int))) (some (CVal.int IntKind.i64 (1 : Int), []))
          (br (decide (a = (4 : Int))) (some (CVal.int IntKind.i64 (2 : Int), []))
            (br (decide (a = (5 : Int))) (some (CVal.int IntKind.i64 (2 : Int), []))
              (some (CVal.int IntKind.i64 (-1 : Int), [])))))))
theorem eq_i_tyParts (C : CallT) (L : LoopT) (a : Int) : evF E N C L f_i_tyParts [AVal.v (CVal.int IntKind.i64 a)] [] = nf_i_tyParts C L a := by kernel_rfl
theorem go_i_tyParts (a : Int) (R : Ret) (h : nf_i_tyParts CC LL a = some R) : CC f_i_tyParts [AVal.v (CVal.int IntKind.i64 a)] [] = some R := fnW (by decide) rfl ((eq_i_tyParts CC LL a).trans h)
noncomputable def nl_l_eqIntS_0 (C : CallT) (L : LoopT) (x00 : List CVal) (x01 : List CVal) (x02 : Int) : Option (LO k_l_eqIntS_0.T) :=
  br (decide (x02 < (↑x00.length : Int)))
    (br (decide ((0 : Int) ≤ x02) && true)
      (x00[x02.toNat]?.bind fun y =>
        br (CVal.fits false (1 : Nat) y)
          ((y.cell (0 : Nat)).bind fun c =>
            br (decide ((0 : Int) ≤ x02) && true)
              (x01[x02.toNat]?.bind fun y =>
                br (CVal.fits false (1 : Nat) y)
                  ((y.cell (0 : Nat)).bind fun c_1 =>
                    (CVal.asInt IntKind.i64 c).bind fun n =>
                      (CVal.asInt IntKind.i64 c_1).bind fun n_1 =>
                        br (!decide (n = n_1)) (some (LO.ret (CVal.bool false, [])))
                          (L f_l_eqIntS (0 : Nat) lc_l_eqIntS_0 [] k_l_eqIntS_0
                            ((x00, x01, IntKind.i64.wrap (x02 + (1 : Int)), PUnit.unit), PUnit.unit)))
                  none)
              none)
          none)
      none)
    (some (LO.out (0 : Nat) ((x00, x01, x02, PUnit.unit), PUnit.unit)))
theorem el_l_eqIntS_0 (C : CallT) (L : LoopT) (x00 : List CVal) (x01 : List CVal) (x02 : Int) : evL E N C L f_l_eqIntS 0 lc_l_eqIntS_0 [] k_l_eqIntS_0 ((x00, x01, x02, ()), ()) = nl_l_eqIntS_0 C L x00 x01 x02 := by kernel_rfl
theorem gl_l_eqIntS_0 (x00 : List CVal) (x01 : List CVal) (x02 : Int) (R : LO k_l_eqIntS_0.T) (h : nl_l_eqIntS_0 CC LL x00 x01 x02 = some R) : LL f_l_eqIntS 0 lc_l_eqIntS_0 [] k_l_eqIntS_0 ((x00, x01, x02, ()), ()) = some R := loopW ((el_l_eqIntS_0 CC LL x00 x01 x02).trans h)
noncomputable def nl_i_tyTokens_0 (C : CallT) (L : LoopT) (x01 : List CVal) (x02 : Int) (x03 : Int) (x1 : List CVal) : Option (LO k_i_tyTokens_0.T) :=
  br (decide (x03 < x02))
    (br (decide ((0 : Int) ≤ x03) && true)
      (x01[x03.toNat]?.bind fun y =>
        br (CVal.fits true (3 : Nat) y)
          ((y.sub (0 : Nat) (3 : Nat)).bind fun y =>
            br (CVal.isAggN (3 : Nat) y)
              ((y.cell (0 : Nat)).bind fun c =>
                (y.cell (1 : Nat)).bind fun c_1 =>
                  (y.cell (2 : Nat)).bind fun c_2 =>
                    (C f_i_tyTokens [AVal.lref (0 : Nat) (0 : Nat), AVal.v (CVal.agg [c, c_1, c_2])]
                          [PB.mk true (1 : Nat) x1]).bind
                      fun r =>
                      r.2[(0 : Nat)]?.bind fun y =>
                        L f_i_tyTokens (0 : Nat) lc_i_tyTokens_0 [some (1 : Nat)] k_i_tyTokens_0
                          ((PUnit.unit, x01, x02, IntKind.i64.wrap (x03 + (1 : Int)), PUnit.unit), y, PUnit.unit))
              none)
          none)
      none)
    (some (LO.out (0 : Nat) ((PUnit.unit, x01, x02, x03, PUnit.unit), x1, PUnit.unit)))
theorem el_i_tyTokens_0 (C : CallT) (L : LoopT) (x01 : List CVal) (x02 : Int) (x03 : Int) (x1 : List CVal) : evL E N C L f_i_tyTokens 0 lc_i_tyTokens_0 [some (1 : Nat)] k_i_tyTokens_0 (((), x01, x02, x03, ()), x1, ()) = nl_i_tyTokens_0 C L x01 x02 x03 x1 := by kernel_rfl
theorem gl_i_tyTokens_0 (x01 : List CVal) (x02 : Int) (x03 : Int) (x1 : List CVal) (R : LO k_i_tyTokens_0.T) (h : nl_i_tyTokens_0 CC LL x01 x02 x03 x1 = some R) : LL f_i_tyTokens 0 lc_i_tyTokens_0 [some (1 : Nat)] k_i_tyTokens_0 (((), x01, x02, x03, ()), x1, ()) = some R := loopW ((el_i_tyTokens_0 CC LL x01 x02 x03 x1).trans h)
end Go.Proofs.YtomkegeojknihaaDoor.Abs
