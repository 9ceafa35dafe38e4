/- What the functions come to in the abstract machine. -/
import Derived.Test.YtdbgiclddcphfaaT1Ann
import Derived.KernelRfl
set_option linter.unusedVariables false
set_option maxRecDepth 100000
namespace Go.Proofs.Ytdbgiclddcphfaa.Abs
open Go Go.Proofs
noncomputable def nf_l_FnExactGround (C : CallT) (L : LoopT) (a0 : Int) (a1 : Int) (a2 : List CVal) : Option Ret :=
  (C f_l_szTy
        [AVal.v (CVal.agg [CVal.int IntKind.i64 a0, CVal.int IntKind.i64 a1, CVal.sl a2]),
          AVal.v (CVal.int IntKind.i64 (1048576 : Int))]
        []).bind
    fun r =>
    (CVal.asInt IntKind.i64 r.1).bind fun n =>
      br (decide (n < (0 : Int))) (some (CVal.bool true, []))
        ((C f_l_toTy [AVal.v (CVal.agg [CVal.int IntKind.i64 a0, CVal.int IntKind.i64 a1, CVal.sl a2])] []).bind fun r =>
          (C f_s_Ground [AVal.v r.1] []).bind fun r =>
            (C f_l_toTy [AVal.v (CVal.agg [CVal.int IntKind.i64 a0, CVal.int IntKind.i64 a1, CVal.sl a2])] []).bind
              fun r_1 =>
              br (CVal.isAggN (3 : Nat) r_1.1)
                ((r_1.1.cell (0 : Nat)).bind fun c =>
                  (r_1.1.cell (1 : Nat)).bind fun c_1 =>
                    (r_1.1.cell (2 : Nat)).bind fun c_2 =>
                      (C f_i_Ground [AVal.v (CVal.agg [c, c_1, c_2])] []).bind fun r_2 =>
                        r_2.1.asBool.bind fun b =>
                          r.1.asBool.bind fun b_1 =>
                            br (!b == b_1) (some (CVal.bool false, []))
                              ((C f_l_toTy
                                    [AVal.v (CVal.agg [CVal.int IntKind.i64 a0, CVal.int IntKind.i64 a1, CVal.sl a2])]
                                    []).bind
                                fun r =>
                                (C f_l_eqTy [AVal.v (CVal.agg [c, c_1, c_2]), AVal.v r.1] []).bind fun r =>
                                  r.1.asBool.bind fun b =>
                                    br (!b) (some (CVal.bool false, [])) (some (CVal.bool true, []))))
                none)
theorem eq_l_FnExactGround (C : CallT) (L : LoopT) (a0 : Int) (a1 : Int) (a2 : List CVal) : evF E N C L f_l_FnExactGround [AVal.v (CVal.agg [CVal.int IntKind.i64 a0, CVal.int IntKind.i64 a1, CVal.sl a2])] [] = nf_l_FnExactGround C L a0 a1 a2 := by kernel_rfl
theorem go_l_FnExactGround (a0 : Int) (a1 : Int) (a2 : List CVal) (R : Ret) (h : nf_l_FnExactGround CC LL a0 a1 a2 = some R) : CC f_l_FnExactGround [AVal.v (CVal.agg [CVal.int IntKind.i64 a0, CVal.int IntKind.i64 a1, CVal.sl a2])] [] = some R := fnW (by decide) ((eq_l_FnExactGround CC LL a0 a1 a2).trans h)
noncomputable def nf_s_Ground (C : CallT) (L : LoopT) (a0 : Int) (a1 : Int) (a2 : List CVal) : Option Ret :=
  ((C f_s_TyOk [AVal.v (CVal.agg [CVal.int IntKind.i64 a0, CVal.int IntKind.i64 a1, CVal.sl a2])] []).bind fun r =>
        r.1.asBool.bind fun b =>
          br b
            ((C f_s_l1Vars [AVal.v (CVal.agg [CVal.int IntKind.i64 a0, CVal.int IntKind.i64 a1, CVal.sl a2])] []).bind
              fun r => (CVal.asInt IntKind.i64 r.1).bind fun n => some (decide (n = (0 : Int)), PUnit.unit))
            (some (false, PUnit.unit))).bind
    fun y => some (CVal.bool y.1, [])
theorem eq_s_Ground (C : CallT) (L : LoopT) (a0 : Int) (a1 : Int) (a2 : List CVal) : evF E N C L f_s_Ground [AVal.v (CVal.agg [CVal.int IntKind.i64 a0, CVal.int IntKind.i64 a1, CVal.sl a2])] [] = nf_s_Ground C L a0 a1 a2 := by kernel_rfl
theorem go_s_Ground (a0 : Int) (a1 : Int) (a2 : List CVal) (R : Ret) (h : nf_s_Ground CC LL a0 a1 a2 = some R) : CC f_s_Ground [AVal.v (CVal.agg [CVal.int IntKind.i64 a0, CVal.int IntKind.i64 a1, CVal.sl a2])] [] = some R := fnW (by decide) ((eq_s_Ground CC LL a0 a1 a2).trans h)
noncomputable def nf_i_VarsOf (C : CallT) (L : LoopT) (a0 : Int) (a1 : Int) (a2 : List CVal) : Option Ret :=
  (C f_i_TyOk [AVal.v (CVal.agg [CVal.int IntKind.i64 a0, CVal.int IntKind.i64 a1, CVal.sl a2])] []).bind fun r =>
    r.1.asBool.bind fun b =>
      br (!b) (some (CVal.int IntKind.i64 (0 : Int), []))
        ((C f_i_varsOf [AVal.v (CVal.agg [CVal.int IntKind.i64 a0, CVal.int IntKind.i64 a1, CVal.sl a2])] []).bind
          fun r => some (r.1, []))
theorem eq_i_VarsOf (C : CallT) (L : LoopT) (a0 : Int) (a1 : Int) (a2 : List CVal) : evF E N C L f_i_VarsOf [AVal.v (CVal.agg [CVal.int IntKind.i64 a0, CVal.int IntKind.i64 a1, CVal.sl a2])] [] = nf_i_VarsOf C L a0 a1 a2 := by kernel_rfl
theorem go_i_VarsOf (a0 : Int) (a1 : Int) (a2 : List CVal) (R : Ret) (h : nf_i_VarsOf CC LL a0 a1 a2 = some R) : CC f_i_VarsOf [AVal.v (CVal.agg [CVal.int IntKind.i64 a0, CVal.int IntKind.i64 a1, CVal.sl a2])] [] = some R := fnW (by decide) ((eq_i_VarsOf CC LL a0 a1 a2).trans h)
noncomputable def nf_s_l1Vars (C : CallT) (L : LoopT) (a0 : Int) (a1 : Int) (a2 : List CVal) : Option Ret :=
  br (decide (a0 = (3 : Int)))
    ((L f_s_l1Vars (0 : Nat) lc_s_l1Vars_0 [] k_s_l1Vars_0
          ((PUnit.unit, IntKind.i64.wrap (a1 + (1 : Int)), (0 : Int), PUnit.unit), (a0, a1, a2, PUnit.unit),
            PUnit.unit)).bind
      fun r => loK r (fun r => some r) fun j p => br (j == (0 : Nat)) (some (CVal.int IntKind.i64 p.fst.snd.1, [])) none)
    ((L f_s_l1Vars (0 : Nat) lc_s_l1Vars_0 [] k_s_l1Vars_0
          ((PUnit.unit, (0 : Int), (0 : Int), PUnit.unit), (a0, a1, a2, PUnit.unit), PUnit.unit)).bind
      fun r => loK r (fun r => some r) fun j p => br (j == (0 : Nat)) (some (CVal.int IntKind.i64 p.fst.snd.1, [])) none)
theorem eq_s_l1Vars (C : CallT) (L : LoopT) (a0 : Int) (a1 : Int) (a2 : List CVal) : evF E N C L f_s_l1Vars [AVal.v (CVal.agg [CVal.int IntKind.i64 a0, CVal.int IntKind.i64 a1, CVal.sl a2])] [] = nf_s_l1Vars C L a0 a1 a2 := by kernel_rfl
theorem go_s_l1Vars (a0 : Int) (a1 : Int) (a2 : List CVal) (R : Ret) (h : nf_s_l1Vars CC LL a0 a1 a2 = some R) : CC f_s_l1Vars [AVal.v (CVal.agg [CVal.int IntKind.i64 a0, CVal.int IntKind.i64 a1, CVal.sl a2])] [] = some R := fnW (by decide) ((eq_s_l1Vars CC LL a0 a1 a2).trans h)
noncomputable def nf_l_eqTyS (C : CallT) (L : LoopT) (a : List CVal) (b : List CVal) : Option Ret :=
  br (!decide ((↑a.length : Int) = (↑b.length : Int))) (some (CVal.bool false, []))
    ((L f_l_eqTyS (0 : Nat) lc_l_eqTyS_0 [] k_l_eqTyS_0 ((a, b, (0 : Int), PUnit.unit), PUnit.unit)).bind fun r =>
      loK r (fun r => some r) fun j p => br (j == (0 : Nat)) (some (CVal.bool true, [])) none)
theorem eq_l_eqTyS (C : CallT) (L : LoopT) (a : List CVal) (b : List CVal) : evF E N C L f_l_eqTyS [AVal.v (CVal.sl a), AVal.v (CVal.sl b)] [] = nf_l_eqTyS C L a b := by kernel_rfl
theorem go_l_eqTyS (a : List CVal) (b : List CVal) (R : Ret) (h : nf_l_eqTyS CC LL a b = some R) : CC f_l_eqTyS [AVal.v (CVal.sl a), AVal.v (CVal.sl b)] [] = some R := fnW (by decide) ((eq_l_eqTyS CC LL a b).trans h)
noncomputable def nf_slices_ContainsFunc_Ty (C : CallT) (L : LoopT) (a : List CVal) (b : CVal) : Option Ret :=
  (C f_slices_IndexFunc_Ty [AVal.v (CVal.sl a), AVal.v b] []).bind fun r =>
    (CVal.asInt IntKind.i64 r.1).bind fun n => some (CVal.bool (decide ((0 : Int) ≤ n)), [])
theorem eq_slices_ContainsFunc_Ty (C : CallT) (L : LoopT) (a : List CVal) (b : CVal) : evF E N C L f_slices_ContainsFunc_Ty [AVal.v (CVal.sl a), AVal.v b] [] = nf_slices_ContainsFunc_Ty C L a b := by kernel_rfl
theorem go_slices_ContainsFunc_Ty (a : List CVal) (b : CVal) (R : Ret) (h : nf_slices_ContainsFunc_Ty CC LL a b = some R) : CC f_slices_ContainsFunc_Ty [AVal.v (CVal.sl a), AVal.v b] [] = some R := fnW (by decide) ((eq_slices_ContainsFunc_Ty CC LL a b).trans h)
noncomputable def nf_i_tyParts (C : CallT) (L : LoopT) (a : Int) : Option Ret :=
  br (decide (a = (1 : Int))) (some (CVal.int IntKind.i64 (0 : Int), []))
    (br (decide (a = (2 : Int))) (some (CVal.int IntKind.i64 (0 : Int), []))
      (br (decide (a = (3 : Int))) (some (CVal.int IntKind.i64 (0 : Int), []))
        (br (decide (a = (6 : Int))) (some (CVal.int IntKind.i64 (1 : Int), []))
          (br (decide (a = (4 : Int))) (some (CVal.int IntKind.i64 (2 : Int), []))
            (br (decide (a = (5 : Int))) (some (CVal.int IntKind.i64 (2 : Int), []))
              (some (CVal.int IntKind.i64 (-1 : Int), [])))))))
theorem eq_i_tyParts (C : CallT) (L : LoopT) (a : Int) : evF E N C L f_i_tyParts [AVal.v (CVal.int IntKind.i64 a)] [] = nf_i_tyParts C L a := by kernel_rfl
theorem go_i_tyParts (a : Int) (R : Ret) (h : nf_i_tyParts CC LL a = some R) : CC f_i_tyParts [AVal.v (CVal.int IntKind.i64 a)] [] = some R := fnW (by decide) ((eq_i_tyParts CC LL a).trans h)
noncomputable def nl_s_l1Vars_0 (C : CallT) (L : LoopT) (x01 : Int) (x02 : Int) (x10 : Int) (x11 : Int) (x12 : List CVal) : Option (LO k_s_l1Vars_0.T) :=
  br (decide (x02 < (↑x12.length : Int)))
    (br (decide ((0 : Int) ≤ x02) && true)
      (x12[x02.toNat]?.bind fun y =>
        br (CVal.fits true (3 : Nat) y)
          ((y.sub (0 : Nat) (3 : Nat)).bind fun y =>
            (C f_s_l1Vars [AVal.v y] []).bind fun r =>
              (CVal.asInt IntKind.i64 r.1).bind fun n =>
                br (decide (x01 < n))
                  ((CVal.asInt IntKind.i64 r.1).bind fun n =>
                    L f_s_l1Vars (0 : Nat) lc_s_l1Vars_0 [] k_s_l1Vars_0
                      ((PUnit.unit, n, IntKind.i64.wrap (x02 + (1 : Int)), PUnit.unit), (x10, x11, x12, PUnit.unit),
                        PUnit.unit))
                  (L f_s_l1Vars (0 : Nat) lc_s_l1Vars_0 [] k_s_l1Vars_0
                    ((PUnit.unit, x01, IntKind.i64.wrap (x02 + (1 : Int)), PUnit.unit), (x10, x11, x12, PUnit.unit),
                      PUnit.unit)))
          none)
      none)
    (some (LO.out (0 : Nat) ((PUnit.unit, x01, x02, PUnit.unit), (x10, x11, x12, PUnit.unit), PUnit.unit)))
theorem el_s_l1Vars_0 (C : CallT) (L : LoopT) (x01 : Int) (x02 : Int) (x10 : Int) (x11 : Int) (x12 : List CVal) : evL E N C L f_s_l1Vars 0 lc_s_l1Vars_0 [] k_s_l1Vars_0 (((), x01, x02, ()), (x10, x11, x12, ()), ()) = nl_s_l1Vars_0 C L x01 x02 x10 x11 x12 := by kernel_rfl
theorem gl_s_l1Vars_0 (x01 : Int) (x02 : Int) (x10 : Int) (x11 : Int) (x12 : List CVal) (R : LO k_s_l1Vars_0.T) (h : nl_s_l1Vars_0 CC LL x01 x02 x10 x11 x12 = some R) : LL f_s_l1Vars 0 lc_s_l1Vars_0 [] k_s_l1Vars_0 (((), x01, x02, ()), (x10, x11, x12, ()), ()) = some R := loopW ((el_s_l1Vars_0 CC LL x01 x02 x10 x11 x12).trans h)
noncomputable def nl_i_measure_0 (C : CallT) (L : LoopT) (x00 : Int) (x01 : Int) (x02 : List CVal) (x03 : Int) (x04 : Int) : Option (LO k_i_measure_0.T) :=
  br (decide (x04 < x03))
    (br (decide ((0 : Int) ≤ x04) && true)
      (x02[x04.toNat]?.bind fun y =>
        br (CVal.fits true (3 : Nat) y)
          ((y.sub (0 : Nat) (3 : Nat)).bind fun y =>
            br (CVal.isAggN (3 : Nat) y)
              ((y.cell (0 : Nat)).bind fun c =>
                (y.cell (1 : Nat)).bind fun c_1 =>
                  (y.cell (2 : Nat)).bind fun c_2 =>
                    (C f_i_measure [AVal.v (CVal.agg [c, c_1, c_2])] []).bind fun r =>
                      r.1.asTup.bind fun y =>
                        y[(0 : Nat)]?.bind fun y =>
                          r.1.asTup.bind fun y_1 =>
                            y_1[(1 : Nat)]?.bind fun y_2 =>
                              r.1.asTup.bind fun y_3 =>
                                y_3[(2 : Nat)]?.bind fun y_4 =>
                                  y_4.asBool.bind fun b =>
                                    br (!b)
                                      (some
                                        (LO.ret
                                          (CVal.tup
                                              [CVal.int IntKind.i64 (0 : Int), CVal.int IntKind.i64 (0 : Int),
                                                CVal.bool false],
                                            [])))
                                      ((CVal.asInt IntKind.i64 y).bind fun n =>
                                        (CVal.asInt IntKind.i64 y_2).bind fun n_1 =>
                                          L f_i_measure (0 : Nat) lc_i_measure_0 [] k_i_measure_0
                                            ((bif decide (x00 < n) then n else x00, IntKind.i64.wrap (x01 + n_1), x02,
                                                x03, IntKind.i64.wrap (x04 + (1 : Int)), PUnit.unit),
                                              PUnit.unit)))
              none)
          none)
      none)
    (some (LO.out (0 : Nat) ((x00, x01, x02, x03, x04, PUnit.unit), PUnit.unit)))
theorem el_i_measure_0 (C : CallT) (L : LoopT) (x00 : Int) (x01 : Int) (x02 : List CVal) (x03 : Int) (x04 : Int) : evL E N C L f_i_measure 0 lc_i_measure_0 [] k_i_measure_0 ((x00, x01, x02, x03, x04, ()), ()) = nl_i_measure_0 C L x00 x01 x02 x03 x04 := by kernel_rfl
theorem gl_i_measure_0 (x00 : Int) (x01 : Int) (x02 : List CVal) (x03 : Int) (x04 : Int) (R : LO k_i_measure_0.T) (h : nl_i_measure_0 CC LL x00 x01 x02 x03 x04 = some R) : LL f_i_measure 0 lc_i_measure_0 [] k_i_measure_0 ((x00, x01, x02, x03, x04, ()), ()) = some R := loopW ((el_i_measure_0 CC LL x00 x01 x02 x03 x04).trans h)
end Go.Proofs.Ytdbgiclddcphfaa.Abs
