/- What the functions come to in the abstract machine. -/
import Derived.Test.YtjndiaahgjhaeaaS1Ann
import Derived.KernelRfl
set_option linter.unusedVariables false
set_option maxRecDepth 100000
namespace Go.Proofs.Ytjndiaahgjhaeaa.Abs
open Go Go.Proofs
noncomputable def nf_l_szTyS (C : CallT) (L : LoopT) (a : List CVal) (b : Int) : Option Ret :=
  br (decide (IntKind.i64.wrap (b - (↑a.length : Int)) < (0 : Int))) (some (CVal.int IntKind.i64 (-1 : Int), []))
    ((L f_l_szTyS (0 : Nat) lc_l_szTyS_0 [] k_l_szTyS_0
          ((a, IntKind.i64.wrap (b - (↑a.length : Int)), (0 : Int), PUnit.unit), PUnit.unit)).bind
      fun r => loK r (fun r => some r) fun j p => br (j == (0 : Nat)) (some (CVal.int IntKind.i64 p.fst.snd.1, [])) none)
theorem eq_l_szTyS (C : CallT) (L : LoopT) (a : List CVal) (b : Int) : evF E N C L f_l_szTyS [AVal.v (CVal.sl a), AVal.v (CVal.int IntKind.i64 b)] [] = nf_l_szTyS C L a b := by kernel_rfl
theorem go_l_szTyS (a : List CVal) (b : Int) (R : Ret) (h : nf_l_szTyS CC LL a b = some R) : CC f_l_szTyS [AVal.v (CVal.sl a), AVal.v (CVal.int IntKind.i64 b)] [] = some R := fnW (by decide) rfl ((eq_l_szTyS CC LL a b).trans h)
noncomputable def nf_i_SubstTy (C : CallT) (L : LoopT) (a0 : Int) (a1 : Int) (a2 : List CVal) (b : List CVal) : Option Ret :=
  ((C f_i_TyOk [AVal.v (CVal.agg [CVal.int IntKind.i64 a0, CVal.int IntKind.i64 a1, CVal.sl a2])] []).bind fun r =>
        r.1.asBool.bind fun b_1 =>
          br (!b_1) (some (true, PUnit.unit))
            ((C f_slices_ContainsFunc_Ty [AVal.v (CVal.sl b), AVal.v (CVal.func f_i_SubstTy_1 [])] []).bind fun r =>
              (bif false then CVal.bool true else r.1).asBool.bind fun b_2 =>
                br b_2 (some (true, PUnit.unit))
                  ((C f_i_VarsOf [AVal.v (CVal.agg [CVal.int IntKind.i64 a0, CVal.int IntKind.i64 a1, CVal.sl a2])]
                        []).bind
                    fun r =>
                    (CVal.asInt IntKind.i64 r.1).bind fun n => some (decide ((↑b.length : Int) < n), PUnit.unit)))).bind
    fun y =>
    br y.1
      (some
        (CVal.tup
            [CVal.agg [CVal.int IntKind.i64 (0 : Int), CVal.int IntKind.i64 (0 : Int), CVal.sl []], CVal.bool false],
          []))
      ((C f_i_subst [AVal.v (CVal.agg [CVal.int IntKind.i64 a0, CVal.int IntKind.i64 a1, CVal.sl a2]), AVal.v (CVal.sl b)]
            []).bind
        fun r =>
        br (CVal.isAggN (3 : Nat) r.1)
          ((r.1.cell (0 : Nat)).bind fun c =>
            (r.1.cell (1 : Nat)).bind fun c_1 =>
              (r.1.cell (2 : Nat)).bind fun c_2 =>
                c_2.asSl.bind fun xs =>
                  (C f_i_TyOk [AVal.v (CVal.agg [c, c_1, CVal.sl xs])] []).bind fun r =>
                    br (!scalar r.1) none
                      (r.1.asBool.bind fun b =>
                        br (!b)
                          (some
                            (CVal.tup
                                [CVal.agg [CVal.int IntKind.i64 (0 : Int), CVal.int IntKind.i64 (0 : Int), CVal.sl []],
                                  CVal.bool false],
                              []))
                          ((CVal.asInt IntKind.i64 c).bind fun n =>
                            (CVal.asInt IntKind.i64 c_1).bind fun n_1 =>
                              some
                                (CVal.tup
                                    [CVal.agg [CVal.int IntKind.i64 n, CVal.int IntKind.i64 n_1, CVal.sl xs],
                                      CVal.bool true],
                                  []))))
          none)
theorem eq_i_SubstTy (C : CallT) (L : LoopT) (a0 : Int) (a1 : Int) (a2 : List CVal) (b : List CVal) : evF E N C L f_i_SubstTy [AVal.v (CVal.agg [CVal.int IntKind.i64 a0, CVal.int IntKind.i64 a1, CVal.sl a2]), AVal.v (CVal.sl b)] [] = nf_i_SubstTy C L a0 a1 a2 b := by kernel_rfl
theorem go_i_SubstTy (a0 : Int) (a1 : Int) (a2 : List CVal) (b : List CVal) (R : Ret) (h : nf_i_SubstTy CC LL a0 a1 a2 b = some R) : CC f_i_SubstTy [AVal.v (CVal.agg [CVal.int IntKind.i64 a0, CVal.int IntKind.i64 a1, CVal.sl a2]), AVal.v (CVal.sl b)] [] = some R := fnW (by decide) rfl ((eq_i_SubstTy CC LL a0 a1 a2 b).trans h)
noncomputable def nf_l_markTyS (C : CallT) (L : LoopT) (a : List CVal) (b : Int) : Option Ret :=
  (L f_l_markTyS (0 : Nat) lc_l_markTyS_0 [PSh.arr (Md.mk true true (0 : Nat)) false (3 : Nat)] k_l_markTyS_0
        ((PUnit.unit, b, (0 : Int), PUnit.unit), a, PUnit.unit)).bind
    fun r =>
    loK r (fun r => some r) fun j p => br (j == (0 : Nat)) (some (CVal.int IntKind.i64 p.fst.snd.1, [p.snd.1])) none
theorem eq_l_markTyS (C : CallT) (L : LoopT) (a : List CVal) (b : Int) : evF E N C L f_l_markTyS [AVal.lref (0 : Nat) (0 : Nat), AVal.v (CVal.int IntKind.i64 b)] [PB.arr (Md.mk true true (0 : Nat)) false (3 : Nat) a] = nf_l_markTyS C L a b := by kernel_rfl
theorem go_l_markTyS (a : List CVal) (b : Int) (R : Ret) (h : nf_l_markTyS CC LL a b = some R) : CC f_l_markTyS [AVal.lref (0 : Nat) (0 : Nat), AVal.v (CVal.int IntKind.i64 b)] [PB.arr (Md.mk true true (0 : Nat)) false (3 : Nat) a] = some R := fnW (by decide) rfl ((eq_l_markTyS CC LL a b).trans h)
noncomputable def nf_s_l1Put (C : CallT) (L : LoopT) (a0 : Int) (a1 : Int) (a2 : List CVal) (b : List CVal) : Option Ret :=
  (br (decide (a0 = (3 : Int))) (some (decide (a1 < (↑b.length : Int)), PUnit.unit)) (some (false, PUnit.unit))).bind
    fun y =>
    br y.1
      (br (decide ((0 : Int) ≤ a1) && true)
        (b[a1.toNat]?.bind fun y =>
          br (CVal.fits true (3 : Nat) y)
            ((y.sub (0 : Nat) (3 : Nat)).bind fun y =>
              (C f_s_l1Copy [AVal.v y] []).bind fun r =>
                br (CVal.isAggN (3 : Nat) r.1)
                  ((r.1.cell (0 : Nat)).bind fun c =>
                    (r.1.cell (1 : Nat)).bind fun c_1 =>
                      (r.1.cell (2 : Nat)).bind fun c_2 =>
                        c_2.asSl.bind fun xs =>
                          (CVal.asInt IntKind.i64 c).bind fun n =>
                            (CVal.asInt IntKind.i64 c_1).bind fun n_1 =>
                              some (CVal.agg [CVal.int IntKind.i64 n, CVal.int IntKind.i64 n_1, CVal.sl xs], []))
                  none)
            none)
        none)
      ((L f_s_l1Put (0 : Nat) lc_s_l1Put_0 [] k_s_l1Put_0
            ((b, PUnit.unit, PUnit.unit, PUnit.unit, (0 : Int), PUnit.unit), (a0, a1, a2, PUnit.unit),
              ((0 : Int), (0 : Int), PUnit.unit, PUnit.unit), [], (a0, a1, PUnit.unit, PUnit.unit), [], PUnit.unit)).bind
        fun r =>
        loK r (fun r => some r) fun j p =>
          br (j == (0 : Nat))
            (some
              (CVal.agg
                  [CVal.int IntKind.i64 p.snd.snd.snd.snd.fst.1, CVal.int IntKind.i64 p.snd.snd.snd.snd.fst.snd.1,
                    CVal.sl p.snd.snd.snd.snd.snd.1],
                []))
            none)
theorem eq_s_l1Put (C : CallT) (L : LoopT) (a0 : Int) (a1 : Int) (a2 : List CVal) (b : List CVal) : evF E N C L f_s_l1Put [AVal.v (CVal.agg [CVal.int IntKind.i64 a0, CVal.int IntKind.i64 a1, CVal.sl a2]), AVal.v (CVal.sl b)] [] = nf_s_l1Put C L a0 a1 a2 b := by kernel_rfl
theorem go_s_l1Put (a0 : Int) (a1 : Int) (a2 : List CVal) (b : List CVal) (R : Ret) (h : nf_s_l1Put CC LL a0 a1 a2 b = some R) : CC f_s_l1Put [AVal.v (CVal.agg [CVal.int IntKind.i64 a0, CVal.int IntKind.i64 a1, CVal.sl a2]), AVal.v (CVal.sl b)] [] = some R := fnW (by decide) rfl ((eq_s_l1Put CC LL a0 a1 a2 b).trans h)
noncomputable def nf_i_subst (C : CallT) (L : LoopT) (a0 : Int) (a1 : Int) (a2 : List CVal) (b : List CVal) : Option Ret :=
  br (decide (a0 = (3 : Int)))
    (br (decide ((0 : Int) ≤ a1) && true)
      (b[a1.toNat]?.bind fun y =>
        br (CVal.fits true (3 : Nat) y)
          ((y.sub (0 : Nat) (3 : Nat)).bind fun y =>
            (C f_i_cloneTy [AVal.v y] []).bind fun r =>
              br (CVal.isAggN (3 : Nat) r.1)
                ((r.1.cell (0 : Nat)).bind fun c =>
                  (r.1.cell (1 : Nat)).bind fun c_1 =>
                    (r.1.cell (2 : Nat)).bind fun c_2 =>
                      c_2.asSl.bind fun xs =>
                        (CVal.asInt IntKind.i64 c).bind fun n =>
                          (CVal.asInt IntKind.i64 c_1).bind fun n_1 =>
                            some (CVal.agg [CVal.int IntKind.i64 n, CVal.int IntKind.i64 n_1, CVal.sl xs], []))
                none)
          none)
      none)
    ((L f_i_subst (0 : Nat) lc_i_subst_0 [] k_i_subst_0
          ((b, PUnit.unit, PUnit.unit, a2, (↑a2.length : Int), (0 : Int), PUnit.unit),
            ((0 : Int), (0 : Int), PUnit.unit, PUnit.unit), [], (a0, a1, PUnit.unit, PUnit.unit), [], PUnit.unit)).bind
      fun r =>
      loK r (fun r => some r) fun j p =>
        br (j == (0 : Nat))
          (some
            (CVal.agg
                [CVal.int IntKind.i64 p.snd.snd.snd.fst.1, CVal.int IntKind.i64 p.snd.snd.snd.fst.snd.1,
                  CVal.sl p.snd.snd.snd.snd.1],
              []))
          none)
theorem eq_i_subst (C : CallT) (L : LoopT) (a0 : Int) (a1 : Int) (a2 : List CVal) (b : List CVal) : evF E N C L f_i_subst [AVal.v (CVal.agg [CVal.int IntKind.i64 a0, CVal.int IntKind.i64 a1, CVal.sl a2]), AVal.v (CVal.sl b)] [] = nf_i_subst C L a0 a1 a2 b := by kernel_rfl
theorem go_i_subst (a0 : Int) (a1 : Int) (a2 : List CVal) (b : List CVal) (R : Ret) (h : nf_i_subst CC LL a0 a1 a2 b = some R) : CC f_i_subst [AVal.v (CVal.agg [CVal.int IntKind.i64 a0, CVal.int IntKind.i64 a1, CVal.sl a2]), AVal.v (CVal.sl b)] [] = some R := fnW (by decide) rfl ((eq_i_subst CC LL a0 a1 a2 b).trans h)
noncomputable def nf_s_l1Copy (C : CallT) (L : LoopT) (a0 : Int) (a1 : Int) (a2 : List CVal) : Option Ret :=
  (L f_s_l1Copy (0 : Nat) lc_s_l1Copy_0 [] k_s_l1Copy_0
        ((PUnit.unit, PUnit.unit, PUnit.unit, (0 : Int), PUnit.unit), (a0, a1, a2, PUnit.unit),
          ((0 : Int), (0 : Int), PUnit.unit, PUnit.unit), [], (a0, a1, PUnit.unit, PUnit.unit), [], PUnit.unit)).bind
    fun r =>
    loK r (fun r => some r) fun j p =>
      br (j == (0 : Nat))
        (some
          (CVal.agg
              [CVal.int IntKind.i64 p.snd.snd.snd.snd.fst.1, CVal.int IntKind.i64 p.snd.snd.snd.snd.fst.snd.1,
                CVal.sl p.snd.snd.snd.snd.snd.1],
            []))
        none
theorem eq_s_l1Copy (C : CallT) (L : LoopT) (a0 : Int) (a1 : Int) (a2 : List CVal) : evF E N C L f_s_l1Copy [AVal.v (CVal.agg [CVal.int IntKind.i64 a0, CVal.int IntKind.i64 a1, CVal.sl a2])] [] = nf_s_l1Copy C L a0 a1 a2 := by kernel_rfl
theorem go_s_l1Copy (a0 : Int) (a1 : Int) (a2 : List CVal) (R : Ret) (h : nf_s_l1Copy CC LL a0 a1 a2 = some R) : CC f_s_l1Copy [AVal.v (CVal.agg [CVal.int IntKind.i64 a0, CVal.int IntKind.i64 a1, CVal.sl a2])] [] = some R := fnW (by decide) rfl ((eq_s_l1Copy CC LL a0 a1 a2).trans h)
noncomputable def nf_i_cloneTy (C : CallT) (L : LoopT) (a0 : Int) (a1 : Int) (a2 : List CVal) : Option Ret :=
  (L f_i_cloneTy (0 : Nat) lc_i_cloneTy_0 [] k_i_cloneTy_0
        ((PUnit.unit, PUnit.unit, a2, (↑a2.length : Int), (0 : Int), PUnit.unit),
          ((0 : Int), (0 : Int), PUnit.unit, PUnit.unit), [], (a0, a1, PUnit.unit, PUnit.unit), [], PUnit.unit)).bind
    fun r =>
    loK r (fun r => some r) fun j p =>
      br (j == (0 : Nat))
        (some
          (CVal.agg
              [CVal.int IntKind.i64 p.snd.snd.snd.fst.1, CVal.int IntKind.i64 p.snd.snd.snd.fst.snd.1,
                CVal.sl p.snd.snd.snd.snd.1],
            []))
        none
theorem eq_i_cloneTy (C : CallT) (L : LoopT) (a0 : Int) (a1 : Int) (a2 : List CVal) : evF E N C L f_i_cloneTy [AVal.v (CVal.agg [CVal.int IntKind.i64 a0, CVal.int IntKind.i64 a1, CVal.sl a2])] [] = nf_i_cloneTy C L a0 a1 a2 := by kernel_rfl
theorem go_i_cloneTy (a0 : Int) (a1 : Int) (a2 : List CVal) (R : Ret) (h : nf_i_cloneTy CC LL a0 a1 a2 = some R) : CC f_i_cloneTy [AVal.v (CVal.agg [CVal.int IntKind.i64 a0, CVal.int IntKind.i64 a1, CVal.sl a2])] [] = some R := fnW (by decide) rfl ((eq_i_cloneTy CC LL a0 a1 a2).trans h)
noncomputable def nl_l_szTyS_0 (C : CallT) (L : LoopT) (x00 : List CVal) (x01 : Int) (x02 : Int) : Option (LO k_l_szTyS_0.T) :=
  br (decide (x02 < (↑x00.length : Int)))
    (br (decide ((0 : Int) ≤ x02) && true)
      (x00[x02.toNat]?.bind fun y =>
        br (CVal.fits true (3 : Nat) y)
          ((y.sub (0 : Nat) (3 : Nat)).bind fun y =>
            (C f_l_szTy [AVal.v y, AVal.v (CVal.int IntKind.i64 x01)] []).bind fun r =>
              (CVal.asInt IntKind.i64 r.1).bind fun n =>
                br (decide (n < (0 : Int))) (some (LO.ret (CVal.int IntKind.i64 (-1 : Int), [])))
                  ((CVal.asInt IntKind.i64 r.1).bind fun n =>
                    L f_l_szTyS (0 : Nat) lc_l_szTyS_0 [] k_l_szTyS_0
                      ((x00, n, IntKind.i64.wrap (x02 + (1 : Int)), PUnit.unit), PUnit.unit)))
          none)
      none)
    (some (LO.out (0 : Nat) ((x00, x01, x02, PUnit.unit), PUnit.unit)))
theorem el_l_szTyS_0 (C : CallT) (L : LoopT) (x00 : List CVal) (x01 : Int) (x02 : Int) : evL E N C L f_l_szTyS 0 lc_l_szTyS_0 [] k_l_szTyS_0 ((x00, x01, x02, ()), ()) = nl_l_szTyS_0 C L x00 x01 x02 := by kernel_rfl
theorem gl_l_szTyS_0 (x00 : List CVal) (x01 : Int) (x02 : Int) (R : LO k_l_szTyS_0.T) (h : nl_l_szTyS_0 CC LL x00 x01 x02 = some R) : LL f_l_szTyS 0 lc_l_szTyS_0 [] k_l_szTyS_0 ((x00, x01, x02, ()), ()) = some R := loopW ((el_l_szTyS_0 CC LL x00 x01 x02).trans h)
noncomputable def nl_l_markTyS_0 (C : CallT) (L : LoopT) (x01 : Int) (x02 : Int) (x1 : List CVal) : Option (LO k_l_markTyS_0.T) :=
  br (decide (x02 < (↑x1.length : Int)))
    (br (decide ((0 : Int) ≤ x02) && true)
      (br (decide (x02.toNat < x1.length) && true)
        (x1[x02.toNat]?.bind fun y =>
          br (CVal.fits false (1 : Nat) y)
            (br (decide ((0 : Int) ≤ x02) && true)
              (br (decide (x02.toNat < (x1.set x02.toNat (CVal.int IntKind.i64 x01)).length) && true)
                ((x1.set x02.toNat (CVal.int IntKind.i64 x01))[x02.toNat]?.bind fun y =>
                  br (y.isAgg && decide ((2 : Nat) ≤ y.cells.length))
                    (br (decide ((0 : Int) ≤ x02) && true)
                      (br
                        (decide
                            (x02.toNat <
                              ((x1.set x02.toNat (CVal.int IntKind.i64 x01)).set x02.toNat
                                  (CVal.agg
                                    (splice y.cells (1 : Nat)
                                      [CVal.int IntKind.i64 (IntKind.i64.wrap (x01 + (1 : Int)))]))).length) &&
                          true)
                        (((x1.set x02.toNat (CVal.int IntKind.i64 x01)).set x02.toNat
                                (CVal.agg
                                  (splice y.cells (1 : Nat)
                                    [CVal.int IntKind.i64 (IntKind.i64.wrap (x01 + (1 : Int)))])))[x02.toNat]?.bind
                          fun y_1 =>
                          (y_1.cell (2 : Nat)).bind fun c =>
                            c.asSl.bind fun xs =>
                              ((x1.set x02.toNat (CVal.int IntKind.i64 x01)).set x02.toNat
                                      (CVal.agg
                                        (splice y.cells (1 : Nat)
                                          [CVal.int IntKind.i64 (IntKind.i64.wrap (x01 + (1 : Int)))])))[x02.toNat]?.bind
                                fun y_2 =>
                                (y_2.cell (2 : Nat)).bind fun c =>
                                  c.asSl.bind fun xs =>
                                    br (xs.all (CVal.fits true (3 : Nat)))
                                      ((C f_l_markTyS
                                            [AVal.lref (0 : Nat) (0 : Nat),
                                              AVal.v
                                                (CVal.int IntKind.i64
                                                  (IntKind.i64.wrap (IntKind.i64.wrap (x01 + (1 : Int)) + (1 : Int))))]
                                            [PB.arr (Md.mk true true (0 : Nat)) false (3 : Nat) xs]).bind
                                        fun r =>
                                        r.2[(0 : Nat)]?.bind fun y_3 =>
                                          (CVal.asInt IntKind.i64 r.1).bind fun n =>
                                            L f_l_markTyS (0 : Nat) lc_l_markTyS_0
                                              [PSh.arr (Md.mk true true (0 : Nat)) false (3 : Nat)] k_l_markTyS_0
                                              ((PUnit.unit, n, IntKind.i64.wrap (x02 + (1 : Int)), PUnit.unit),
                                                ((x1.set x02.toNat (CVal.int IntKind.i64 x01)).set x02.toNat
                                                      (CVal.agg
                                                        (splice y.cells (1 : Nat)
                                                          [CVal.int IntKind.i64
                                                              (IntKind.i64.wrap (x01 + (1 : Int)))]))).set
                                                  x02.toNat (y_2.putCell (2 : Nat) (CVal.sl y_3)),
                                                PUnit.unit))
                                      none)
                        none)
                      none)
                    none)
                none)
              none)
            (br (y.isAgg && decide ((1 : Nat) ≤ y.cells.length))
              (br (decide ((0 : Int) ≤ x02) && true)
                (br
                  (decide
                      (x02.toNat <
                        (x1.set x02.toNat (CVal.agg (CVal.int IntKind.i64 x01 :: List.drop (1 : Nat) y.cells))).length) &&
                    true)
                  ((x1.set x02.toNat
                          (CVal.agg (CVal.int IntKind.i64 x01 :: List.drop (1 : Nat) y.cells)))[x02.toNat]?.bind
                    fun y_1 =>
                    br (y_1.isAgg && decide ((2 : Nat) ≤ y_1.cells.length))
                      (br (decide ((0 : Int) ≤ x02) && true)
                        (br
                          (decide
                              (x02.toNat <
                                ((x1.set x02.toNat
                                        (CVal.agg (CVal.int IntKind.i64 x01 :: List.drop (1 : Nat) y.cells))).set
                                    x02.toNat
                                    (CVal.agg
                                      (splice y_1.cells (1 : Nat)
                                        [CVal.int IntKind.i64 (IntKind.i64.wrap (x01 + (1 : Int)))]))).length) &&
                            true)
                          (((x1.set x02.toNat (CVal.agg (CVal.int IntKind.i64 x01 :: List.drop (1 : Nat) y.cells))).set
                                  x02.toNat
                                  (CVal.agg
                                    (splice y_1.cells (1 : Nat)
                                      [CVal.int IntKind.i64 (IntKind.i64.wrap (x01 + (1 : Int)))])))[x02.toNat]?.bind
                            fun y_2 =>
                            (y_2.cell (2 : Nat)).bind fun c =>
                              c.asSl.bind fun xs =>
                                ((x1.set x02.toNat
                                            (CVal.agg (CVal.int IntKind.i64 x01 :: List.drop (1 : Nat) y.cells))).set
                                        x02.toNat
                                        (CVal.agg
                                          (splice y_1.cells (1 : Nat)
                                            [CVal.int IntKind.i64
                                                (IntKind.i64.wrap (x01 + (1 : Int)))])))[x02.toNat]?.bind
                                  fun y_3 =>
                                  (y_3.cell (2 : Nat)).bind fun c =>
                                    c.asSl.bind fun xs =>
                                      br (xs.all (CVal.fits true (3 : Nat)))
                                        ((C f_l_markTyS
                                              [AVal.lref (0 : Nat) (0 : Nat),
                                                AVal.v
                                                  (CVal.int IntKind.i64
                                                    (IntKind.i64.wrap (IntKind.i64.wrap (x01 + (1 : Int)) + (1 : Int))))]
                                              [PB.arr (Md.mk true true (0 : Nat)) false (3 : Nat) xs]).bind
                                          fun r =>
                                          r.2[(0 : Nat)]?.bind fun y_4 =>
                                            (CVal.asInt IntKind.i64 r.1).bind fun n =>
                                              L f_l_markTyS (0 : Nat) lc_l_markTyS_0
                                                [PSh.arr (Md.mk true true (0 : Nat)) false (3 : Nat)] k_l_markTyS_0
                                                ((PUnit.unit, n, IntKind.i64.wrap (x02 + (1 : Int)), PUnit.unit),
                                                  ((x1.set x02.toNat
                                                            (CVal.agg
                                                              (CVal.int IntKind.i64 x01 ::
                                                                List.drop (1 : Nat) y.cells))).set
                                                        x02.toNat
                                                        (CVal.agg
                                                          (splice y_1.cells (1 : Nat)
                                                            [CVal.int IntKind.i64
                                                                (IntKind.i64.wrap (x01 + (1 : Int)))]))).set
                                                    x02.toNat (y_3.putCell (2 : Nat) (CVal.sl y_4)),
                                                  PUnit.unit))
                                        none)
                          none)
                        none)
                      none)
                  none)
                none)
              none))
        none)
      none)
    (some (LO.out (0 : Nat) ((PUnit.unit, x01, x02, PUnit.unit), x1, PUnit.unit)))
theorem el_l_markTyS_0 (C : CallT) (L : LoopT) (x01 : Int) (x02 : Int) (x1 : List CVal) : evL E N C L f_l_markTyS 0 lc_l_markTyS_0 [PSh.arr (Md.mk true true (0 : Nat)) false (3 : Nat)] k_l_markTyS_0 (((), x01, x02, ()), x1, ()) = nl_l_markTyS_0 C L x01 x02 x1 := by kernel_rfl
theorem gl_l_markTyS_0 (x01 : Int) (x02 : Int) (x1 : List CVal) (R : LO k_l_markTyS_0.T) (h : nl_l_markTyS_0 CC LL x01 x02 x1 = some R) : LL f_l_markTyS 0 lc_l_markTyS_0 [PSh.arr (Md.mk true true (0 : Nat)) false (3 : Nat)] k_l_markTyS_0 (((), x01, x02, ()), x1, ()) = some R := loopW ((el_l_markTyS_0 CC LL x01 x02 x1).trans h)
noncomputable def nl_l_heldTyS_0 (C : CallT) (L : LoopT) (x00 : List CVal) (x01 : Int) (x02 : Int) : Option (LO k_l_heldTyS_0.T) :=
  br (decide (x02 < (↑x00.length : Int)))
    (br (decide ((0 : Int) ≤ x02) && true)
      (x00[x02.toNat]?.bind fun y =>
        br (CVal.fits true (3 : Nat) y)
          ((y.cell (0 : Nat)).bind fun c =>
            (CVal.asInt IntKind.i64 c).bind fun n =>
              br (!decide (n = x01)) (some (LO.ret (CVal.int IntKind.i64 (-1 : Int), [])))
                (br (decide ((0 : Int) ≤ x02) && true)
                  (x00[x02.toNat]?.bind fun y =>
                    br (CVal.fits true (3 : Nat) y)
                      ((y.cell (1 : Nat)).bind fun c =>
                        (CVal.asInt IntKind.i64 c).bind fun n =>
                          br (!decide (n = IntKind.i64.wrap (x01 + (1 : Int))))
                            (some (LO.ret (CVal.int IntKind.i64 (-1 : Int), [])))
                            (br (decide ((0 : Int) ≤ x02) && true)
                              (x00[x02.toNat]?.bind fun y =>
                                br (CVal.fits true (3 : Nat) y)
                                  ((y.cell (2 : Nat)).bind fun c =>
                                    (C f_l_heldTyS
                                          [AVal.v c,
                                            AVal.v
                                              (CVal.int IntKind.i64
                                                (IntKind.i64.wrap (IntKind.i64.wrap (x01 + (1 : Int)) + (1 : Int))))]
                                          []).bind
                                      fun r =>
                                      (CVal.asInt IntKind.i64 r.1).bind fun n =>
                                        br (decide (n < (0 : Int))) (some (LO.ret (CVal.int IntKind.i64 (-1 : Int), [])))
                                          ((CVal.asInt IntKind.i64 r.1).bind fun n =>
                                            L f_l_heldTyS (0 : Nat) lc_l_heldTyS_0 [] k_l_heldTyS_0
                                              ((x00, n, IntKind.i64.wrap (x02 + (1 : Int)), PUnit.unit), PUnit.unit)))
                                  none)
                              none))
                      none)
                  none))
          none)
      none)
    (some (LO.out (0 : Nat) ((x00, x01, x02, PUnit.unit), PUnit.unit)))
theorem el_l_heldTyS_0 (C : CallT) (L : LoopT) (x00 : List CVal) (x01 : Int) (x02 : Int) : evL E N C L f_l_heldTyS 0 lc_l_heldTyS_0 [] k_l_heldTyS_0 ((x00, x01, x02, ()), ()) = nl_l_heldTyS_0 C L x00 x01 x02 := by kernel_rfl
theorem gl_l_heldTyS_0 (x00 : List CVal) (x01 : Int) (x02 : Int) (R : LO k_l_heldTyS_0.T) (h : nl_l_heldTyS_0 CC LL x00 x01 x02 = some R) : LL f_l_heldTyS 0 lc_l_heldTyS_0 [] k_l_heldTyS_0 ((x00, x01, x02, ()), ()) = some R := loopW ((el_l_heldTyS_0 CC LL x00 x01 x02).trans h)
noncomputable def nl_slices_IndexFunc_Ty_0 (C : CallT) (L : LoopT) (x00 : List CVal) (x01 : CVal) (x02 : Int) (x03 : Int) : Option (LO k_slices_IndexFunc_Ty_0.T) :=
  br (decide (x03 < x02))
    (br (decide ((0 : Int) ≤ x03) && true)
      (x00[x03.toNat]?.bind fun y =>
        br (CVal.fits true (3 : Nat) y)
          ((y.sub (0 : Nat) (3 : Nat)).bind fun y =>
            (C apId [AVal.v x01, AVal.v y] []).bind fun r =>
              r.1.asBool.bind fun b =>
                br b (some (LO.ret (CVal.int IntKind.i64 x03, [])))
                  (L f_slices_IndexFunc_Ty (0 : Nat) lc_slices_IndexFunc_Ty_0 [] k_slices_IndexFunc_Ty_0
                    ((x00, x01, x02, IntKind.i64.wrap (x03 + (1 : Int)), PUnit.unit), PUnit.unit)))
          none)
      none)
    (some (LO.out (0 : Nat) ((x00, x01, x02, x03, PUnit.unit), PUnit.unit)))
theorem el_slices_IndexFunc_Ty_0 (C : CallT) (L : LoopT) (x00 : List CVal) (x01 : CVal) (x02 : Int) (x03 : Int) : evL E N C L f_slices_IndexFunc_Ty 0 lc_slices_IndexFunc_Ty_0 [] k_slices_IndexFunc_Ty_0 ((x00, x01, x02, x03, ()), ()) = nl_slices_IndexFunc_Ty_0 C L x00 x01 x02 x03 := by kernel_rfl
theorem gl_slices_IndexFunc_Ty_0 (x00 : List CVal) (x01 : CVal) (x02 : Int) (x03 : Int) (R : LO k_slices_IndexFunc_Ty_0.T) (h : nl_slices_IndexFunc_Ty_0 CC LL x00 x01 x02 x03 = some R) : LL f_slices_IndexFunc_Ty 0 lc_slices_IndexFunc_Ty_0 [] k_slices_IndexFunc_Ty_0 ((x00, x01, x02, x03, ()), ()) = some R := loopW ((el_slices_IndexFunc_Ty_0 CC LL x00 x01 x02 x03).trans h)
end Go.Proofs.Ytjndiaahgjhaeaa.Abs
