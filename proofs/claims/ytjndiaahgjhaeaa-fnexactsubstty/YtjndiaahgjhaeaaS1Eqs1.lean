/- What the functions come to in the abstract machine. -/
import Derived.Test.YtjndiaahgjhaeaaS1Ann
import Derived.KernelRfl
set_option linter.unusedVariables false
set_option maxRecDepth 100000
namespace Go.Proofs.Ytjndiaahgjhaeaa.Abs
open Go Go.Proofs
noncomputable def nf_l_szTy (C : CallT) (L : LoopT) (a0 : Int) (a1 : Int) (a2 : List CVal) (b : Int) : Option Ret :=
  (C f_l_szTyS [AVal.v (CVal.sl a2), AVal.v (CVal.int IntKind.i64 b)] []).bind fun r =>
    (CVal.asInt IntKind.i64 r.1).bind fun n =>
      br (decide (n < (0 : Int))) (some (CVal.int IntKind.i64 (-1 : Int), [])) (some (r.1, []))
theorem eq_l_szTy (C : CallT) (L : LoopT) (a0 : Int) (a1 : Int) (a2 : List CVal) (b : Int) : evF E N C L f_l_szTy [AVal.v (CVal.agg [CVal.int IntKind.i64 a0, CVal.int IntKind.i64 a1, CVal.sl a2]), AVal.v (CVal.int IntKind.i64 b)] [] = nf_l_szTy C L a0 a1 a2 b := by kernel_rfl
theorem go_l_szTy (a0 : Int) (a1 : Int) (a2 : List CVal) (b : Int) (R : Ret) (h : nf_l_szTy CC LL a0 a1 a2 b = some R) : CC f_l_szTy [AVal.v (CVal.agg [CVal.int IntKind.i64 a0, CVal.int IntKind.i64 a1, CVal.sl a2]), AVal.v (CVal.int IntKind.i64 b)] [] = some R := fnW (by decide) rfl ((eq_l_szTy CC LL a0 a1 a2 b).trans h)
noncomputable def nf_s_SubstTy (C : CallT) (L : LoopT) (a0 : Int) (a1 : Int) (a2 : List CVal) (b : List CVal) : Option Ret :=
  ((C f_s_TyOk [AVal.v (CVal.agg [CVal.int IntKind.i64 a0, CVal.int IntKind.i64 a1, CVal.sl a2])] []).bind fun r =>
        r.1.asBool.bind fun b_1 =>
          br (!b_1) (some (true, PUnit.unit))
            ((C f_s_l1Vars [AVal.v (CVal.agg [CVal.int IntKind.i64 a0, CVal.int IntKind.i64 a1, CVal.sl a2])] []).bind
              fun r => (CVal.asInt IntKind.i64 r.1).bind fun n => some (decide ((↑b.length : Int) < n), PUnit.unit))).bind
    fun y =>
    br y.1
      (some
        (CVal.tup
            [CVal.agg [CVal.int IntKind.i64 (0 : Int), CVal.int IntKind.i64 (0 : Int), CVal.sl []], CVal.bool false],
          []))
      ((L f_s_SubstTy (0 : Nat) lc_s_SubstTy_0 [] k_s_SubstTy_0
            ((b, PUnit.unit, PUnit.unit, (0 : Int), PUnit.unit), (a0, a1, a2, PUnit.unit),
              ((0 : Int), (0 : Int), PUnit.unit, PUnit.unit), [], PUnit.unit)).bind
        fun r =>
        loK r (fun r => some r) fun j p =>
          br (j == (0 : Nat))
            ((C f_s_l1Put
                  [AVal.v
                      (CVal.agg
                        [CVal.int IntKind.i64 p.snd.fst.1, CVal.int IntKind.i64 p.snd.fst.snd.1,
                          CVal.sl p.snd.fst.snd.snd.1]),
                    AVal.v (CVal.sl p.fst.1)]
                  []).bind
              fun r =>
              br (CVal.isAggN (3 : Nat) r.1)
                ((r.1.cell (0 : Nat)).bind fun c =>
                  (r.1.cell (1 : Nat)).bind fun c_1 =>
                    (r.1.cell (2 : Nat)).bind fun c_2 =>
                      c_2.asSl.bind fun xs =>
                        (C f_s_TyOk [AVal.v (CVal.agg [c, c_1, CVal.sl xs])] []).bind fun r =>
                          br (!scalar r.1) none
                            (r.1.asBool.bind fun b =>
                              br (!b)
                                (some
                                  (CVal.tup
                                      [CVal.agg
                                          [CVal.int IntKind.i64 (0 : Int), CVal.int IntKind.i64 (0 : Int), CVal.sl []],
                                        CVal.bool false],
                                    []))
                                (some (CVal.tup [CVal.agg [c, c_1, CVal.sl xs], CVal.bool true], []))))
                none)
            none)
theorem eq_s_SubstTy (C : CallT) (L : LoopT) (a0 : Int) (a1 : Int) (a2 : List CVal) (b : List CVal) : evF E N C L f_s_SubstTy [AVal.v (CVal.agg [CVal.int IntKind.i64 a0, CVal.int IntKind.i64 a1, CVal.sl a2]), AVal.v (CVal.sl b)] [] = nf_s_SubstTy C L a0 a1 a2 b := by kernel_rfl
theorem go_s_SubstTy (a0 : Int) (a1 : Int) (a2 : List CVal) (b : List CVal) (R : Ret) (h : nf_s_SubstTy CC LL a0 a1 a2 b = some R) : CC f_s_SubstTy [AVal.v (CVal.agg [CVal.int IntKind.i64 a0, CVal.int IntKind.i64 a1, CVal.sl a2]), AVal.v (CVal.sl b)] [] = some R := fnW (by decide) rfl ((eq_s_SubstTy CC LL a0 a1 a2 b).trans h)
noncomputable def nf_l_markTy (C : CallT) (L : LoopT) (a0 : Int) (a1 : Int) (a2 : List CVal) (b : Int) : Option Ret :=
  (C f_l_markTyS [AVal.lref (0 : Nat) (0 : Nat), AVal.v (CVal.int IntKind.i64 b)]
        [PB.arr (Md.mk true true (0 : Nat)) false (3 : Nat) a2]).bind
    fun r => r.2[(0 : Nat)]?.bind fun y => some (r.1, [y])
theorem eq_l_markTy (C : CallT) (L : LoopT) (a0 : Int) (a1 : Int) (a2 : List CVal) (b : Int) : evF E N C L f_l_markTy [AVal.agg [AVal.v (CVal.int IntKind.i64 a0), AVal.v (CVal.int IntKind.i64 a1), AVal.lref (0 : Nat) (0 : Nat)],
  AVal.v (CVal.int IntKind.i64 b)] [PB.arr (Md.mk true true (0 : Nat)) false (3 : Nat) a2] = nf_l_markTy C L a0 a1 a2 b := by kernel_rfl
theorem go_l_markTy (a0 : Int) (a1 : Int) (a2 : List CVal) (b : Int) (R : Ret) (h : nf_l_markTy CC LL a0 a1 a2 b = some R) : CC f_l_markTy [AVal.agg [AVal.v (CVal.int IntKind.i64 a0), AVal.v (CVal.int IntKind.i64 a1), AVal.lref (0 : Nat) (0 : Nat)],
  AVal.v (CVal.int IntKind.i64 b)] [PB.arr (Md.mk true true (0 : Nat)) false (3 : Nat) a2] = some R := fnW (by decide) rfl ((eq_l_markTy CC LL a0 a1 a2 b).trans h)
noncomputable def nf_s_l1Vars (C : CallT) (L : LoopT) (a0 : Int) (a1 : Int) (a2 : List CVal) : Option Ret :=
  br (decide (a0 = (3 : Int)))
    ((L f_s_l1Vars (0 : Nat) lc_s_l1Vars_0 [] k_s_l1Vars_0
          ((PUnit.unit, IntKind.i64.wrap (a1 + (1 : Int)), (0 : Int), PUnit.unit), (a0, a1, a2, PUnit.unit),
            PUnit.unit)).bind
      fun r => loK r (fun r => some r) fun j p => br (j == (0 : Nat)) (some (CVal.int IntKind.i64 p.fst.snd.1, [])) none)
    ((L f_s_l1Vars (0 : Nat) lc_s_l1Vars_0 [] k_s_l1Vars_0
          ((PUnit.unit, (0 : Int), (0 : Int), PUnit.unit), (a0, a1, a2, PUnit.unit), PUnit.unit)).bind
      fun r => loK r (fun r => some r) fun j p => br (j == (0 : Nat)) (some (CVal.int IntKind.i64 p.fst.snd.1, [])) none)
theorem eq_s_l1Vars (C : CallT) (L : LoopT) (a0 : Int) (a1 : Int) (a2 : List CVal) : evF E N C L f_s_l1Vars [AVal.v (CVal.agg [CVal.int IntKind.i64 a0, CVal.int IntKind.i64 a1, CVal.sl a2])] [] = nf_s_l1Vars C L a0 a1 a2 := by kernel_rfl
theorem go_s_l1Vars (a0 : Int) (a1 : Int) (a2 : List CVal) (R : Ret) (h : nf_s_l1Vars CC LL a0 a1 a2 = some R) : CC f_s_l1Vars [AVal.v (CVal.agg [CVal.int IntKind.i64 a0, CVal.int IntKind.i64 a1, CVal.sl a2])] [] = some R := fnW (by decide) rfl ((eq_s_l1Vars CC LL a0 a1 a2).trans h)
noncomputable def nf_i_VarsOf (C : CallT) (L : LoopT) (a0 : Int) (a1 : Int) (a2 : List CVal) : Option Ret :=
  (C f_i_TyOk [AVal.v (CVal.agg [CVal.int IntKind.i64 a0, CVal.int IntKind.i64 a1, CVal.sl a2])] []).bind fun r =>
    r.1.asBool.bind fun b =>
      br (!b) (some (CVal.int IntKind.i64 (0 : Int), []))
        ((C f_i_varsOf [AVal.v (CVal.agg [CVal.int IntKind.i64 a0, CVal.int IntKind.i64 a1, CVal.sl a2])] []).bind
          fun r => some (r.1, []))
theorem eq_i_VarsOf (C : CallT) (L : LoopT) (a0 : Int) (a1 : Int) (a2 : List CVal) : evF E N C L f_i_VarsOf [AVal.v (CVal.agg [CVal.int IntKind.i64 a0, CVal.int IntKind.i64 a1, CVal.sl a2])] [] = nf_i_VarsOf C L a0 a1 a2 := by kernel_rfl
theorem go_i_VarsOf (a0 : Int) (a1 : Int) (a2 : List CVal) (R : Ret) (h : nf_i_VarsOf CC LL a0 a1 a2 = some R) : CC f_i_VarsOf [AVal.v (CVal.agg [CVal.int IntKind.i64 a0, CVal.int IntKind.i64 a1, CVal.sl a2])] [] = some R := fnW (by decide) rfl ((eq_i_VarsOf CC LL a0 a1 a2).trans h)
noncomputable def nf_s_l1Look (C : CallT) (L : LoopT) (a0 : Int) (a1 : Int) (a2 : List CVal) (b : Int) (c : Int) : Option Ret :=
  (br (decide (b = (0 : Int))) (some (true, PUnit.unit))
        (br (decide ((60 : Int) < IntKind.i64.wrap (c + (1 : Int)))) (some (true, PUnit.unit))
          ((C f_s_l1Args [AVal.v (CVal.int IntKind.i64 a0)] []).bind fun r =>
            (CVal.asInt IntKind.i64 r.1).bind fun n =>
              br (!decide ((↑a2.length : Int) = n)) (some (true, PUnit.unit))
                (br (decide (a0 = (3 : Int)))
                  ((C f_s_l1In
                        [AVal.v (CVal.int IntKind.i64 a1), AVal.v (CVal.int IntKind.i64 (0 : Int)),
                          AVal.v (CVal.int IntKind.i64 (1 : Int))]
                        []).bind
                    fun r =>
                    r.1.asBool.bind fun b =>
                      br (!b) (some (true, PUnit.unit))
                        (br (!decide (a0 = (3 : Int))) (some (!decide (a1 = (0 : Int)), PUnit.unit))
                          (some (false, PUnit.unit))))
                  (br (!decide (a0 = (3 : Int))) (some (!decide (a1 = (0 : Int)), PUnit.unit))
                    (some (false, PUnit.unit))))))).bind
    fun y =>
    br y.1 (some (CVal.bool false, [[CVal.int IntKind.i64 (IntKind.i64.wrap (c + (1 : Int)))]]))
      ((L f_s_l1Look (0 : Nat) lc_s_l1Look_0 [PSh.box [none]] k_s_l1Look_0
            ((b, PUnit.unit, PUnit.unit, (0 : Int), PUnit.unit), (IntKind.i64.wrap (c + (1 : Int)), PUnit.unit),
              (a0, a1, a2, PUnit.unit), PUnit.unit)).bind
        fun r =>
        loK r (fun r => some r) fun j p =>
          br (j == (0 : Nat)) (some (CVal.bool true, [[CVal.int IntKind.i64 p.snd.fst.1]])) none)
theorem eq_s_l1Look (C : CallT) (L : LoopT) (a0 : Int) (a1 : Int) (a2 : List CVal) (b : Int) (c : Int) : evF E N C L f_s_l1Look [AVal.v (CVal.agg [CVal.int IntKind.i64 a0, CVal.int IntKind.i64 a1, CVal.sl a2]), AVal.v (CVal.int IntKind.i64 b),
  AVal.lptr (0 : Nat) (0 : Nat)] [PB.box [AVal.v (CVal.int IntKind.i64 c)]] = nf_s_l1Look C L a0 a1 a2 b c := by kernel_rfl
theorem go_s_l1Look (a0 : Int) (a1 : Int) (a2 : List CVal) (b : Int) (c : Int) (R : Ret) (h : nf_s_l1Look CC LL a0 a1 a2 b c = some R) : CC f_s_l1Look [AVal.v (CVal.agg [CVal.int IntKind.i64 a0, CVal.int IntKind.i64 a1, CVal.sl a2]), AVal.v (CVal.int IntKind.i64 b),
  AVal.lptr (0 : Nat) (0 : Nat)] [PB.box [AVal.v (CVal.int IntKind.i64 c)]] = some R := fnW (by decide) rfl ((eq_s_l1Look CC LL a0 a1 a2 b c).trans h)
noncomputable def nf_i_varsOf (C : CallT) (L : LoopT) (a0 : Int) (a1 : Int) (a2 : List CVal) : Option Ret :=
  br (decide (a0 = (3 : Int)))
    ((L f_i_varsOf (0 : Nat) lc_i_varsOf_0 [] k_i_varsOf_0
          ((IntKind.i64.wrap (a1 + (1 : Int)), a2, (↑a2.length : Int), (0 : Int), PUnit.unit), PUnit.unit)).bind
      fun r => loK r (fun r => some r) fun j p => br (j == (0 : Nat)) (some (CVal.int IntKind.i64 p.fst.1, [])) none)
    ((L f_i_varsOf (0 : Nat) lc_i_varsOf_0 [] k_i_varsOf_0
          (((0 : Int), a2, (↑a2.length : Int), (0 : Int), PUnit.unit), PUnit.unit)).bind
      fun r => loK r (fun r => some r) fun j p => br (j == (0 : Nat)) (some (CVal.int IntKind.i64 p.fst.1, [])) none)
theorem eq_i_varsOf (C : CallT) (L : LoopT) (a0 : Int) (a1 : Int) (a2 : List CVal) : evF E N C L f_i_varsOf [AVal.v (CVal.agg [CVal.int IntKind.i64 a0, CVal.int IntKind.i64 a1, CVal.sl a2])] [] = nf_i_varsOf C L a0 a1 a2 := by kernel_rfl
theorem go_i_varsOf (a0 : Int) (a1 : Int) (a2 : List CVal) (R : Ret) (h : nf_i_varsOf CC LL a0 a1 a2 = some R) : CC f_i_varsOf [AVal.v (CVal.agg [CVal.int IntKind.i64 a0, CVal.int IntKind.i64 a1, CVal.sl a2])] [] = some R := fnW (by decide) rfl ((eq_i_varsOf CC LL a0 a1 a2).trans h)
noncomputable def nf_i_tyParts (C : CallT) (L : LoopT) (a : Int) : Option Ret :=
  br (decide (a = (1 : Int))) (some (CVal.int IntKind.i64 (0 : Int), []))
    (br (decide (a = (2 : Int))) (some (CVal.int IntKind.i64 (0 : Int), []))
      (br (decide (a = (3 : Int))) (some (CVal.int IntKind.i64 (0 : Int), []))
        (br (decide (a = (6 : Int))) (some (CVal.int IntKind.i64 (1 : Int), []))
          (br (decide (a = (4 : Int))) (some (CVal.int IntKind.i64 (2 : Int), []))
            (br (decide (a = (5 : Int))) (some (CVal.int IntKind.i64 (2 : Int), []))
              (some (CVal.int IntKind.i64 (-1 : Int), [])))))))
theorem eq_i_tyParts (C : CallT) (L : LoopT) (a : Int) : evF E N C L f_i_tyParts [AVal.v (CVal.int IntKind.i64 a)] [] = nf_i_tyParts C L a := by kernel_rfl
theorem go_i_tyParts (a : Int) (R : Ret) (h : nf_i_tyParts CC LL a = some R) : CC f_i_tyParts [AVal.v (CVal.int IntKind.i64 a)] [] = some R := fnW (by decide) rfl ((eq_i_tyParts CC LL a).trans h)
noncomputable def nl_l_eqTyS_0 (C : CallT) (L : LoopT) (x00 : List CVal) (x01 : List CVal) (x02 : Int) : Option (LO k_l_eqTyS_0.T) :=
  br (decide (x02 < (↑x00.length : Int)))
    (br (decide ((0 : Int) ≤ x02) && true)
      (x00[x02.toNat]?.bind fun y =>
        br (CVal.fits true (3 : Nat) y)
          ((y.sub (0 : Nat) (3 : Nat)).bind fun y =>
            br (decide ((0 : Int) ≤ x02) && true)
              (x01[x02.toNat]?.bind fun y_1 =>
                br (CVal.fits true (3 : Nat) y_1)
                  ((y_1.sub (0 : Nat) (3 : Nat)).bind fun y_2 =>
                    (C f_l_eqTy [AVal.v y, AVal.v y_2] []).bind fun r =>
                      r.1.asBool.bind fun b =>
                        br (!b) (some (LO.ret (CVal.bool false, [])))
                          (L f_l_eqTyS (0 : Nat) lc_l_eqTyS_0 [] k_l_eqTyS_0
                            ((x00, x01, IntKind.i64.wrap (x02 + (1 : Int)), PUnit.unit), PUnit.unit)))
                  none)
              none)
          none)
      none)
    (some (LO.out (0 : Nat) ((x00, x01, x02, PUnit.unit), PUnit.unit)))
theorem el_l_eqTyS_0 (C : CallT) (L : LoopT) (x00 : List CVal) (x01 : List CVal) (x02 : Int) : evL E N C L f_l_eqTyS 0 lc_l_eqTyS_0 [] k_l_eqTyS_0 ((x00, x01, x02, ()), ()) = nl_l_eqTyS_0 C L x00 x01 x02 := by kernel_rfl
theorem gl_l_eqTyS_0 (x00 : List CVal) (x01 : List CVal) (x02 : Int) (R : LO k_l_eqTyS_0.T) (h : nl_l_eqTyS_0 CC LL x00 x01 x02 = some R) : LL f_l_eqTyS 0 lc_l_eqTyS_0 [] k_l_eqTyS_0 ((x00, x01, x02, ()), ()) = some R := loopW ((el_l_eqTyS_0 CC LL x00 x01 x02).trans h)
noncomputable def nl_i_subst_0 (C : CallT) (L : LoopT) (x00 : List CVal) (x03 : List CVal) (x04 : Int) (x05 : Int) (x10 : Int) (x11 : Int) (x2 : List CVal) (x30 : Int) (x31 : Int) (x4 : List CVal) : Option (LO k_i_subst_0.T) :=
  br (decide (x05 < x04))
    (br (decide ((0 : Int) ≤ x05) && true)
      (x03[x05.toNat]?.bind fun y =>
        br (CVal.fits true (3 : Nat) y)
          ((y.sub (0 : Nat) (3 : Nat)).bind fun y =>
            br (CVal.isAggN (3 : Nat) y)
              ((y.cell (0 : Nat)).bind fun c =>
                (y.cell (1 : Nat)).bind fun c_1 =>
                  (y.cell (2 : Nat)).bind fun c_2 =>
                    (C f_i_subst [AVal.v (CVal.agg [c, c_1, c_2]), AVal.v (CVal.sl x00)] []).bind fun r =>
                      br (CVal.isAggN (3 : Nat) r.1)
                        ((r.1.cell (0 : Nat)).bind fun c =>
                          (r.1.cell (1 : Nat)).bind fun c_3 =>
                            (r.1.cell (2 : Nat)).bind fun c_4 =>
                              c_4.asSl.bind fun xs =>
                                (CVal.asInt IntKind.i64 c).bind fun n =>
                                  (CVal.asInt IntKind.i64 c_3).bind fun n_1 =>
                                    br (decide (x4.length + (1 : Nat) ≤ (4294967296 : Nat)) && true && true)
                                      (L f_i_subst (0 : Nat) lc_i_subst_0 [] k_i_subst_0
                                        ((x00, PUnit.unit, PUnit.unit, x03, x04, IntKind.i64.wrap (x05 + (1 : Int)),
                                            PUnit.unit),
                                          (x10, x11, PUnit.unit, PUnit.unit), x2, (x30, x31, PUnit.unit, PUnit.unit),
                                          x4 ++ [CVal.agg [CVal.int IntKind.i64 n, CVal.int IntKind.i64 n_1, CVal.sl xs]],
                                          PUnit.unit))
                                      none)
                        none)
              none)
          none)
      none)
    (some
      (LO.out (0 : Nat)
        ((x00, PUnit.unit, PUnit.unit, x03, x04, x05, PUnit.unit), (x10, x11, PUnit.unit, PUnit.unit), x2,
          (x30, x31, PUnit.unit, PUnit.unit), x4, PUnit.unit)))
theorem el_i_subst_0 (C : CallT) (L : LoopT) (x00 : List CVal) (x03 : List CVal) (x04 : Int) (x05 : Int) (x10 : Int) (x11 : Int) (x2 : List CVal) (x30 : Int) (x31 : Int) (x4 : List CVal) : evL E N C L f_i_subst 0 lc_i_subst_0 [] k_i_subst_0 ((x00, (), (), x03, x04, x05, ()), (x10, x11, (), ()), x2, (x30, x31, (), ()), x4, ()) = nl_i_subst_0 C L x00 x03 x04 x05 x10 x11 x2 x30 x31 x4 := by kernel_rfl
theorem gl_i_subst_0 (x00 : List CVal) (x03 : List CVal) (x04 : Int) (x05 : Int) (x10 : Int) (x11 : Int) (x2 : List CVal) (x30 : Int) (x31 : Int) (x4 : List CVal) (R : LO k_i_subst_0.T) (h : nl_i_subst_0 CC LL x00 x03 x04 x05 x10 x11 x2 x30 x31 x4 = some R) : LL f_i_subst 0 lc_i_subst_0 [] k_i_subst_0 ((x00, (), (), x03, x04, x05, ()), (x10, x11, (), ()), x2, (x30, x31, (), ()), x4, ()) = some R := loopW ((el_i_subst_0 CC LL x00 x03 x04 x05 x10 x11 x2 x30 x31 x4).trans h)
noncomputable def nl_i_measure_0 (C : CallT) (L : LoopT) (x00 : Int) (x01 : Int) (x02 : List CVal) (x03 : Int) (x04 : Int) : Option (LO k_i_measure_0.T) :=
  br (decide (x04 < x03))
    (br (decide ((0 : Int) ≤ x04) && true)
      (x02[x04.toNat]?.bind fun y =>
        br (CVal.fits true (3 : Nat) y)
          ((y.sub (0 : Nat) (3 : Nat)).bind fun y =>
            br (CVal.isAggN (3 : Nat) y)
              ((y.cell (0 : Nat)).bind fun c =>
                (y.cell (1 : Nat)).bind fun c_1 =>
                  (y.cell (2 : Nat)).bind fun c_2 =>
                    (C f_i_measure [AVal.v (CVal.agg [c, c_1, c_2])] []).bind fun r =>
                      r.1.asTup.bind fun y =>
                        y[(0 : Nat)]?.bind fun y =>
                          r.1.asTup.bind fun y_1 =>
                            y_1[(1 : Nat)]?.bind fun y_2 =>
                              r.1.asTup.bind fun y_3 =>
                                y_3[(2 : Nat)]?.bind fun y_4 =>
                                  y_4.asBool.bind fun b =>
                                    br (!b)
                                      (some
                                        (LO.ret
                                          (CVal.tup
                                              [CVal.int IntKind.i64 (0 : Int), CVal.int IntKind.i64 (0 : Int),
                                                CVal.bool false],
                                            [])))
                                      ((CVal.asInt IntKind.i64 y).bind fun n =>
                                        (CVal.asInt IntKind.i64 y_2).bind fun n_1 =>
                                          L f_i_measure (0 : Nat) lc_i_measure_0 [] k_i_measure_0
                                            ((bif decide (x00 < n) then n else x00, IntKind.i64.wrap (x01 + n_1), x02,
                                                x03, IntKind.i64.wrap (x04 + (1 : Int)), PUnit.unit),
                                              PUnit.unit)))
              none)
          none)
      none)
    (some (LO.out (0 : Nat) ((x00, x01, x02, x03, x04, PUnit.unit), PUnit.unit)))
theorem el_i_measure_0 (C : CallT) (L : LoopT) (x00 : Int) (x01 : Int) (x02 : List CVal) (x03 : Int) (x04 : Int) : evL E N C L f_i_measure 0 lc_i_measure_0 [] k_i_measure_0 ((x00, x01, x02, x03, x04, ()), ()) = nl_i_measure_0 C L x00 x01 x02 x03 x04 := by kernel_rfl
theorem gl_i_measure_0 (x00 : Int) (x01 : Int) (x02 : List CVal) (x03 : Int) (x04 : Int) (R : LO k_i_measure_0.T) (h : nl_i_measure_0 CC LL x00 x01 x02 x03 x04 = some R) : LL f_i_measure 0 lc_i_measure_0 [] k_i_measure_0 ((x00, x01, x02, x03, x04, ()), ()) = some R := loopW ((el_i_measure_0 CC LL x00 x01 x02 x03 x04).trans h)
end Go.Proofs.Ytjndiaahgjhaeaa.Abs
