/- What the functions come to in the abstract machine. -/
import Derived.Test.YtjndiaahgjhaeaaS1Ann
import Derived.KernelRfl
set_option linter.unusedVariables false
set_option maxRecDepth 100000
namespace Go.Proofs.Ytjndiaahgjhaeaa.Abs
open Go Go.Proofs
noncomputable def nf_l_toTy (C : CallT) (L : LoopT) (a0 : Int) (a1 : Int) (a2 : List CVal) : Option Ret :=
  (C f_l_toTyS [AVal.v (CVal.sl a2)] []).bind fun r =>
    br r.1.isFlat
      (r.1.asSl.bind fun xs => some (CVal.agg [CVal.int IntKind.i64 a0, CVal.int IntKind.i64 a1, CVal.sl xs], [])) none
theorem eq_l_toTy (C : CallT) (L : LoopT) (a0 : Int) (a1 : Int) (a2 : List CVal) : evF E N C L f_l_toTy [AVal.v (CVal.agg [CVal.int IntKind.i64 a0, CVal.int IntKind.i64 a1, CVal.sl a2])] [] = nf_l_toTy C L a0 a1 a2 := by kernel_rfl
theorem go_l_toTy (a0 : Int) (a1 : Int) (a2 : List CVal) (R : Ret) (h : nf_l_toTy CC LL a0 a1 a2 = some R) : CC f_l_toTy [AVal.v (CVal.agg [CVal.int IntKind.i64 a0, CVal.int IntKind.i64 a1, CVal.sl a2])] [] = some R := fnW (by decide) rfl ((eq_l_toTy CC LL a0 a1 a2).trans h)
noncomputable def nf_l_eqTy (C : CallT) (L : LoopT) (a0 : Int) (a1 : Int) (a2 : List CVal) (b0 : Int) (b1 : Int) (b2 : List CVal) : Option Ret :=
  br (!decide (a0 = b0)) (some (CVal.bool false, []))
    (br (!decide (a1 = b1)) (some (CVal.bool false, []))
      ((C f_l_eqTyS [AVal.v (CVal.sl a2), AVal.v (CVal.sl b2)] []).bind fun r =>
        r.1.asBool.bind fun b => br (!b) (some (CVal.bool false, [])) (some (CVal.bool true, []))))
theorem eq_l_eqTy (C : CallT) (L : LoopT) (a0 : Int) (a1 : Int) (a2 : List CVal) (b0 : Int) (b1 : Int) (b2 : List CVal) : evF E N C L f_l_eqTy [AVal.v (CVal.agg [CVal.int IntKind.i64 a0, CVal.int IntKind.i64 a1, CVal.sl a2]),
  AVal.v (CVal.agg [CVal.int IntKind.i64 b0, CVal.int IntKind.i64 b1, CVal.sl b2])] [] = nf_l_eqTy C L a0 a1 a2 b0 b1 b2 := by kernel_rfl
theorem go_l_eqTy (a0 : Int) (a1 : Int) (a2 : List CVal) (b0 : Int) (b1 : Int) (b2 : List CVal) (R : Ret) (h : nf_l_eqTy CC LL a0 a1 a2 b0 b1 b2 = some R) : CC f_l_eqTy [AVal.v (CVal.agg [CVal.int IntKind.i64 a0, CVal.int IntKind.i64 a1, CVal.sl a2]),
  AVal.v (CVal.agg [CVal.int IntKind.i64 b0, CVal.int IntKind.i64 b1, CVal.sl b2])] [] = some R := fnW (by decide) rfl ((eq_l_eqTy CC LL a0 a1 a2 b0 b1 b2).trans h)
noncomputable def nf_l_heldTy (C : CallT) (L : LoopT) (a0 : Int) (a1 : Int) (a2 : List CVal) (b : Int) : Option Ret :=
  (C f_l_heldTyS [AVal.v (CVal.sl a2), AVal.v (CVal.int IntKind.i64 b)] []).bind fun r =>
    (CVal.asInt IntKind.i64 r.1).bind fun n =>
      br (decide (n < (0 : Int))) (some (CVal.int IntKind.i64 (-1 : Int), [])) (some (r.1, []))
theorem eq_l_heldTy (C : CallT) (L : LoopT) (a0 : Int) (a1 : Int) (a2 : List CVal) (b : Int) : evF E N C L f_l_heldTy [AVal.v (CVal.agg [CVal.int IntKind.i64 a0, CVal.int IntKind.i64 a1, CVal.sl a2]), AVal.v (CVal.int IntKind.i64 b)] [] = nf_l_heldTy C L a0 a1 a2 b := by kernel_rfl
theorem go_l_heldTy (a0 : Int) (a1 : Int) (a2 : List CVal) (b : Int) (R : Ret) (h : nf_l_heldTy CC LL a0 a1 a2 b = some R) : CC f_l_heldTy [AVal.v (CVal.agg [CVal.int IntKind.i64 a0, CVal.int IntKind.i64 a1, CVal.sl a2]), AVal.v (CVal.int IntKind.i64 b)] [] = some R := fnW (by decide) rfl ((eq_l_heldTy CC LL a0 a1 a2 b).trans h)
noncomputable def nf_i_TyOk (C : CallT) (L : LoopT) (a0 : Int) (a1 : Int) (a2 : List CVal) : Option Ret :=
  (C f_i_measure [AVal.v (CVal.agg [CVal.int IntKind.i64 a0, CVal.int IntKind.i64 a1, CVal.sl a2])] []).bind fun r =>
    r.1.asTup.bind fun y =>
      y[(0 : Nat)]?.bind fun y =>
        r.1.asTup.bind fun y_1 =>
          y_1[(1 : Nat)]?.bind fun y_2 =>
            r.1.asTup.bind fun y_3 =>
              y_3[(2 : Nat)]?.bind fun y_4 =>
                (y_4.asBool.bind fun b =>
                      br b
                        ((CVal.asInt IntKind.i64 y).bind fun n =>
                          br (decide (n ≤ (6 : Int)))
                            ((CVal.asInt IntKind.i64 y_2).bind fun n => some (decide (n ≤ (60 : Int)), PUnit.unit))
                            (some (false, PUnit.unit)))
                        (some (false, PUnit.unit))).bind
                  fun y => some (CVal.bool y.1, [])
theorem eq_i_TyOk (C : CallT) (L : LoopT) (a0 : Int) (a1 : Int) (a2 : List CVal) : evF E N C L f_i_TyOk [AVal.v (CVal.agg [CVal.int IntKind.i64 a0, CVal.int IntKind.i64 a1, CVal.sl a2])] [] = nf_i_TyOk C L a0 a1 a2 := by kernel_rfl
theorem go_i_TyOk (a0 : Int) (a1 : Int) (a2 : List CVal) (R : Ret) (h : nf_i_TyOk CC LL a0 a1 a2 = some R) : CC f_i_TyOk [AVal.v (CVal.agg [CVal.int IntKind.i64 a0, CVal.int IntKind.i64 a1, CVal.sl a2])] [] = some R := fnW (by decide) rfl ((eq_i_TyOk CC LL a0 a1 a2).trans h)
noncomputable def nf_i_SubstTy_1 (C : CallT) (L : LoopT) (a0 : Int) (a1 : Int) (a2 : List CVal) : Option Ret :=
  (C f_i_TyOk [AVal.v (CVal.agg [CVal.int IntKind.i64 a0, CVal.int IntKind.i64 a1, CVal.sl a2])] []).bind fun r =>
    r.1.asBool.bind fun b => some (CVal.bool !b, [])
theorem eq_i_SubstTy_1 (C : CallT) (L : LoopT) (a0 : Int) (a1 : Int) (a2 : List CVal) : evF E N C L f_i_SubstTy_1 [AVal.v (CVal.agg [CVal.int IntKind.i64 a0, CVal.int IntKind.i64 a1, CVal.sl a2])] [] = nf_i_SubstTy_1 C L a0 a1 a2 := by kernel_rfl
theorem go_i_SubstTy_1 (a0 : Int) (a1 : Int) (a2 : List CVal) (R : Ret) (h : nf_i_SubstTy_1 CC LL a0 a1 a2 = some R) : CC f_i_SubstTy_1 [AVal.v (CVal.agg [CVal.int IntKind.i64 a0, CVal.int IntKind.i64 a1, CVal.sl a2])] [] = some R := fnW (by decide) rfl ((eq_i_SubstTy_1 CC LL a0 a1 a2).trans h)
noncomputable def nf_i_measure (C : CallT) (L : LoopT) (a0 : Int) (a1 : Int) (a2 : List CVal) : Option Ret :=
  ((C f_i_tyParts [AVal.v (CVal.int IntKind.i64 a0)] []).bind fun r =>
        (CVal.asInt IntKind.i64 r.1).bind fun n =>
          br (!decide ((↑a2.length : Int) = n)) (some (true, PUnit.unit))
            (br (!decide (a1 = (0 : Int)))
              (br (!decide (a0 = (3 : Int))) (some (true, PUnit.unit)) (some (!decide (a1 = (1 : Int)), PUnit.unit)))
              (some (false, PUnit.unit)))).bind
    fun y =>
    br y.1 (some (CVal.tup [CVal.int IntKind.i64 (0 : Int), CVal.int IntKind.i64 (0 : Int), CVal.bool false], []))
      ((L f_i_measure (0 : Nat) lc_i_measure_0 [] k_i_measure_0
            (((0 : Int), (1 : Int), a2, (↑a2.length : Int), (0 : Int), PUnit.unit), PUnit.unit)).bind
        fun r =>
        loK r (fun r => some r) fun j p =>
          br (j == (0 : Nat))
            (some
              (CVal.tup
                  [CVal.int IntKind.i64 (IntKind.i64.wrap (p.fst.1 + (1 : Int))), CVal.int IntKind.i64 p.fst.snd.1,
                    CVal.bool true],
                []))
            none)
theorem eq_i_measure (C : CallT) (L : LoopT) (a0 : Int) (a1 : Int) (a2 : List CVal) : evF E N C L f_i_measure [AVal.v (CVal.agg [CVal.int IntKind.i64 a0, CVal.int IntKind.i64 a1, CVal.sl a2])] [] = nf_i_measure C L a0 a1 a2 := by kernel_rfl
theorem go_i_measure (a0 : Int) (a1 : Int) (a2 : List CVal) (R : Ret) (h : nf_i_measure CC LL a0 a1 a2 = some R) : CC f_i_measure [AVal.v (CVal.agg [CVal.int IntKind.i64 a0, CVal.int IntKind.i64 a1, CVal.sl a2])] [] = some R := fnW (by decide) rfl ((eq_i_measure CC LL a0 a1 a2).trans h)
noncomputable def nf_s_l1Args (C : CallT) (L : LoopT) (a : Int) : Option Ret :=
  br (decide (a = (1 : Int))) (some (CVal.int IntKind.i64 (0 : Int), []))
    (br (decide (a = (2 : Int))) (some (CVal.int IntKind.i64 (0 : Int), []))
      (br (decide (a = (3 : Int))) (some (CVal.int IntKind.i64 (0 : Int), []))
        (br (decide (a = (6 : Int))) (some (CVal.int IntKind.i64 (1 : Int), []))
          (br (decide (a = (4 : Int))) (some (CVal.int IntKind.i64 (2 : Int), []))
            (br (decide (a = (5 : Int))) (some (CVal.int IntKind.i64 (2 : Int), []))
              (some (CVal.int IntKind.i64 (-1 : Int), [])))))))
theorem eq_s_l1Args (C : CallT) (L : LoopT) (a : Int) : evF E N C L f_s_l1Args [AVal.v (CVal.int IntKind.i64 a)] [] = nf_s_l1Args C L a := by kernel_rfl
theorem go_s_l1Args (a : Int) (R : Ret) (h : nf_s_l1Args CC LL a = some R) : CC f_s_l1Args [AVal.v (CVal.int IntKind.i64 a)] [] = some R := fnW (by decide) rfl ((eq_s_l1Args CC LL a).trans h)
noncomputable def nl_l_toTyS_0 (C : CallT) (L : LoopT) (x00 : List CVal) (x02 : Int) (x1 : List CVal) : Option (LO k_l_toTyS_0.T) :=
  br (decide (x02 < (↑x00.length : Int)))
    (br (decide ((0 : Int) ≤ x02) && true)
      (x00[x02.toNat]?.bind fun y =>
        br (CVal.fits true (3 : Nat) y)
          ((y.sub (0 : Nat) (3 : Nat)).bind fun y =>
            (C f_l_toTy [AVal.v y] []).bind fun r =>
              br (CVal.isAggN (3 : Nat) r.1)
                ((r.1.cell (0 : Nat)).bind fun c =>
                  (r.1.cell (1 : Nat)).bind fun c_1 =>
                    (r.1.cell (2 : Nat)).bind fun c_2 =>
                      c_2.asSl.bind fun xs =>
                        br (decide ((0 : Int) ≤ x02) && true)
                          (br (decide (x02.toNat < x1.length) && true)
                            ((CVal.asInt IntKind.i64 c).bind fun n =>
                              (CVal.asInt IntKind.i64 c_1).bind fun n_1 =>
                                x1[x02.toNat]?.bind fun y =>
                                  br (CVal.fits true (3 : Nat) y)
                                    (L f_l_toTyS (0 : Nat) lc_l_toTyS_0 [] k_l_toTyS_0
                                      ((x00, PUnit.unit, IntKind.i64.wrap (x02 + (1 : Int)), PUnit.unit),
                                        x1.set x02.toNat
                                          (CVal.agg [CVal.int IntKind.i64 n, CVal.int IntKind.i64 n_1, CVal.sl xs]),
                                        PUnit.unit))
                                    (br (y.isAgg && decide ((3 : Nat) ≤ y.cells.length))
                                      (L f_l_toTyS (0 : Nat) lc_l_toTyS_0 [] k_l_toTyS_0
                                        ((x00, PUnit.unit, IntKind.i64.wrap (x02 + (1 : Int)), PUnit.unit),
                                          x1.set x02.toNat
                                            (CVal.agg
                                              (CVal.int IntKind.i64 n ::
                                                CVal.int IntKind.i64 n_1 :: CVal.sl xs :: List.drop (3 : Nat) y.cells)),
                                          PUnit.unit))
                                      none))
                            none)
                          none)
                none)
          none)
      none)
    (some (LO.out (0 : Nat) ((x00, PUnit.unit, x02, PUnit.unit), x1, PUnit.unit)))
theorem el_l_toTyS_0 (C : CallT) (L : LoopT) (x00 : List CVal) (x02 : Int) (x1 : List CVal) : evL E N C L f_l_toTyS 0 lc_l_toTyS_0 [] k_l_toTyS_0 ((x00, (), x02, ()), x1, ()) = nl_l_toTyS_0 C L x00 x02 x1 := by kernel_rfl
theorem gl_l_toTyS_0 (x00 : List CVal) (x02 : Int) (x1 : List CVal) (R : LO k_l_toTyS_0.T) (h : nl_l_toTyS_0 CC LL x00 x02 x1 = some R) : LL f_l_toTyS 0 lc_l_toTyS_0 [] k_l_toTyS_0 ((x00, (), x02, ()), x1, ()) = some R := loopW ((el_l_toTyS_0 CC LL x00 x02 x1).trans h)
noncomputable def nl_s_l1Vars_0 (C : CallT) (L : LoopT) (x01 : Int) (x02 : Int) (x10 : Int) (x11 : Int) (x12 : List CVal) : Option (LO k_s_l1Vars_0.T) :=
  br (decide (x02 < (↑x12.length : Int)))
    (br (decide ((0 : Int) ≤ x02) && true)
      (x12[x02.toNat]?.bind fun y =>
        br (CVal.fits true (3 : Nat) y)
          ((y.sub (0 : Nat) (3 : Nat)).bind fun y =>
            (C f_s_l1Vars [AVal.v y] []).bind fun r =>
              (CVal.asInt IntKind.i64 r.1).bind fun n =>
                br (decide (x01 < n))
                  ((CVal.asInt IntKind.i64 r.1).bind fun n =>
                    L f_s_l1Vars (0 : Nat) lc_s_l1Vars_0 [] k_s_l1Vars_0
                      ((PUnit.unit, n, IntKind.i64.wrap (x02 + (1 : Int)), PUnit.unit), (x10, x11, x12, PUnit.unit),
                        PUnit.unit))
                  (L f_s_l1Vars (0 : Nat) lc_s_l1Vars_0 [] k_s_l1Vars_0
                    ((PUnit.unit, x01, IntKind.i64.wrap (x02 + (1 : Int)), PUnit.unit), (x10, x11, x12, PUnit.unit),
                      PUnit.unit)))
          none)
      none)
    (some (LO.out (0 : Nat) ((PUnit.unit, x01, x02, PUnit.unit), (x10, x11, x12, PUnit.unit), PUnit.unit)))
theorem el_s_l1Vars_0 (C : CallT) (L : LoopT) (x01 : Int) (x02 : Int) (x10 : Int) (x11 : Int) (x12 : List CVal) : evL E N C L f_s_l1Vars 0 lc_s_l1Vars_0 [] k_s_l1Vars_0 (((), x01, x02, ()), (x10, x11, x12, ()), ()) = nl_s_l1Vars_0 C L x01 x02 x10 x11 x12 := by kernel_rfl
theorem gl_s_l1Vars_0 (x01 : Int) (x02 : Int) (x10 : Int) (x11 : Int) (x12 : List CVal) (R : LO k_s_l1Vars_0.T) (h : nl_s_l1Vars_0 CC LL x01 x02 x10 x11 x12 = some R) : LL f_s_l1Vars 0 lc_s_l1Vars_0 [] k_s_l1Vars_0 (((), x01, x02, ()), (x10, x11, x12, ()), ()) = some R := loopW ((el_s_l1Vars_0 CC LL x01 x02 x10 x11 x12).trans h)
noncomputable def nl_s_l1Look_0 (C : CallT) (L : LoopT) (x00 : Int) (x03 : Int) (x10 : Int) (x20 : Int) (x21 : Int) (x22 : List CVal) : Option (LO k_s_l1Look_0.T) :=
  br (decide (x03 < (↑x22.length : Int)))
    (br (decide ((0 : Int) ≤ x03) && true)
      (x22[x03.toNat]?.bind fun y =>
        br (CVal.fits true (3 : Nat) y)
          ((y.sub (0 : Nat) (3 : Nat)).bind fun y =>
            (C f_s_l1Look
                  [AVal.v y, AVal.v (CVal.int IntKind.i64 (IntKind.i64.wrap (x00 - (1 : Int)))),
                    AVal.lptr (0 : Nat) (0 : Nat)]
                  [PB.box [AVal.v (CVal.int IntKind.i64 x10)]]).bind
              fun r =>
              r.2[(0 : Nat)]?.bind fun y =>
                y[(0 : Nat)]?.bind fun y =>
                  r.1.asBool.bind fun b =>
                    br (!b) (some (LO.ret (CVal.bool false, [[y]])))
                      ((CVal.asInt IntKind.i64 y).bind fun n =>
                        L f_s_l1Look (0 : Nat) lc_s_l1Look_0 [PSh.box [none]] k_s_l1Look_0
                          ((x00, PUnit.unit, PUnit.unit, IntKind.i64.wrap (x03 + (1 : Int)), PUnit.unit), (n, PUnit.unit),
                            (x20, x21, x22, PUnit.unit), PUnit.unit)))
          none)
      none)
    (some
      (LO.out (0 : Nat)
        ((x00, PUnit.unit, PUnit.unit, x03, PUnit.unit), (x10, PUnit.unit), (x20, x21, x22, PUnit.unit), PUnit.unit)))
theorem el_s_l1Look_0 (C : CallT) (L : LoopT) (x00 : Int) (x03 : Int) (x10 : Int) (x20 : Int) (x21 : Int) (x22 : List CVal) : evL E N C L f_s_l1Look 0 lc_s_l1Look_0 [PSh.box [none]] k_s_l1Look_0 ((x00, (), (), x03, ()), (x10, ()), (x20, x21, x22, ()), ()) = nl_s_l1Look_0 C L x00 x03 x10 x20 x21 x22 := by kernel_rfl
theorem gl_s_l1Look_0 (x00 : Int) (x03 : Int) (x10 : Int) (x20 : Int) (x21 : Int) (x22 : List CVal) (R : LO k_s_l1Look_0.T) (h : nl_s_l1Look_0 CC LL x00 x03 x10 x20 x21 x22 = some R) : LL f_s_l1Look 0 lc_s_l1Look_0 [PSh.box [none]] k_s_l1Look_0 ((x00, (), (), x03, ()), (x10, ()), (x20, x21, x22, ()), ()) = some R := loopW ((el_s_l1Look_0 CC LL x00 x03 x10 x20 x21 x22).trans h)
noncomputable def nl_i_varsOf_0 (C : CallT) (L : LoopT) (x00 : Int) (x01 : List CVal) (x02 : Int) (x03 : Int) : Option (LO k_i_varsOf_0.T) :=
  br (decide (x03 < x02))
    (br (decide ((0 : Int) ≤ x03) && true)
      (x01[x03.toNat]?.bind fun y =>
        br (CVal.fits true (3 : Nat) y)
          ((y.sub (0 : Nat) (3 : Nat)).bind fun y =>
            br (CVal.isAggN (3 : Nat) y)
              ((y.cell (0 : Nat)).bind fun c =>
                (y.cell (1 : Nat)).bind fun c_1 =>
                  (y.cell (2 : Nat)).bind fun c_2 =>
                    (C f_i_varsOf [AVal.v (CVal.agg [c, c_1, c_2])] []).bind fun r =>
                      (CVal.asInt IntKind.i64 r.1).bind fun n =>
                        L f_i_varsOf (0 : Nat) lc_i_varsOf_0 [] k_i_varsOf_0
                          ((bif decide (x00 < n) then n else x00, x01, x02, IntKind.i64.wrap (x03 + (1 : Int)),
                              PUnit.unit),
                            PUnit.unit))
              none)
          none)
      none)
    (some (LO.out (0 : Nat) ((x00, x01, x02, x03, PUnit.unit), PUnit.unit)))
theorem el_i_varsOf_0 (C : CallT) (L : LoopT) (x00 : Int) (x01 : List CVal) (x02 : Int) (x03 : Int) : evL E N C L f_i_varsOf 0 lc_i_varsOf_0 [] k_i_varsOf_0 ((x00, x01, x02, x03, ()), ()) = nl_i_varsOf_0 C L x00 x01 x02 x03 := by kernel_rfl
theorem gl_i_varsOf_0 (x00 : Int) (x01 : List CVal) (x02 : Int) (x03 : Int) (R : LO k_i_varsOf_0.T) (h : nl_i_varsOf_0 CC LL x00 x01 x02 x03 = some R) : LL f_i_varsOf 0 lc_i_varsOf_0 [] k_i_varsOf_0 ((x00, x01, x02, x03, ()), ()) = some R := loopW ((el_i_varsOf_0 CC LL x00 x01 x02 x03).trans h)
end Go.Proofs.Ytjndiaahgjhaeaa.Abs
