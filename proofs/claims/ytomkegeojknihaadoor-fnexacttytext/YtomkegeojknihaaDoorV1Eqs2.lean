/- What the functions come to in the abstract machine. -/
import Derived.Test.YtomkegeojknihaaDoorV1Ann
import Derived.KernelRfl
set_option linter.unusedVariables false
set_option maxRecDepth 100000
namespace Go.Proofs.YtomkegeojknihaaDoor.Abs
open Go Go.Proofs
noncomputable def nf_l_szIns (C : CallT) (L : LoopT) (a0 : Int) (a1 : Int) (a2 : Int) (a3 : Int) (a4 : Int) (a5 : List CVal) (a6 : Int) (b : Int) : Option Ret :=
  (C f_l_szIntS [AVal.v (CVal.sl a5), AVal.v (CVal.int IntKind.i64 b)] []).bind fun r =>
    (CVal.asInt IntKind.i64 r.1).bind fun n =>
      br (decide (n < (0 : Int))) (some (CVal.int IntKind.i64 (-1 : Int), [])) (some (r.1, []))
theorem eq_l_szIns (C : CallT) (L : LoopT) (a0 : Int) (a1 : Int) (a2 : Int) (a3 : Int) (a4 : Int) (a5 : List CVal) (a6 : Int) (b : Int) : evF E N C L f_l_szIns [AVal.v
    (CVal.agg
      [CVal.int IntKind.i64 a0, CVal.int IntKind.i64 a1, CVal.int IntKind.i64 a2, CVal.int IntKind.i64 a3,
        CVal.int IntKind.i64 a4, CVal.sl a5, CVal.int IntKind.i64 a6]),
  AVal.v (CVal.int IntKind.i64 b)] [] = nf_l_szIns C L a0 a1 a2 a3 a4 a5 a6 b := by kernel_rfl
theorem go_l_szIns (a0 : Int) (a1 : Int) (a2 : Int) (a3 : Int) (a4 : Int) (a5 : List CVal) (a6 : Int) (b : Int) (R : Ret) (h : nf_l_szIns CC LL a0 a1 a2 a3 a4 a5 a6 b = some R) : CC f_l_szIns [AVal.v
    (CVal.agg
      [CVal.int IntKind.i64 a0, CVal.int IntKind.i64 a1, CVal.int IntKind.i64 a2, CVal.int IntKind.i64 a3,
        CVal.int IntKind.i64 a4, CVal.sl a5, CVal.int IntKind.i64 a6]),
  AVal.v (CVal.int IntKind.i64 b)] [] = some R := fnW (by decide) rfl ((eq_l_szIns CC LL a0 a1 a2 a3 a4 a5 a6 b).trans h)
noncomputable def nf_l_eqIns (C : CallT) (L : LoopT) (a0 : Int) (a1 : Int) (a2 : Int) (a3 : Int) (a4 : Int) (a5 : List CVal) (a6 : Int) (b0 : Int) (b1 : Int) (b2 : Int) (b3 : Int) (b4 : Int) (b5 : List CVal) (b6 : Int) : Option Ret :=
  br (!decide (a0 = b0)) (some (CVal.bool false, []))
    (br (!decide (a1 = b1)) (some (CVal.bool false, []))
      (br (!decide (a2 = b2)) (some (CVal.bool false, []))
        (br (!decide (a3 = b3)) (some (CVal.bool false, []))
          (br (!decide (a4 = b4)) (some (CVal.bool false, []))
            ((C f_l_eqIntS [AVal.v (CVal.sl a5), AVal.v (CVal.sl b5)] []).bind fun r =>
              r.1.asBool.bind fun b =>
                br (!b) (some (CVal.bool false, []))
                  (br (!decide (a6 = b6)) (some (CVal.bool false, [])) (some (CVal.bool true, []))))))))
theorem eq_l_eqIns (C : CallT) (L : LoopT) (a0 : Int) (a1 : Int) (a2 : Int) (a3 : Int) (a4 : Int) (a5 : List CVal) (a6 : Int) (b0 : Int) (b1 : Int) (b2 : Int) (b3 : Int) (b4 : Int) (b5 : List CVal) (b6 : Int) : evF E N C L f_l_eqIns [AVal.v
    (CVal.agg
      [CVal.int IntKind.i64 a0, CVal.int IntKind.i64 a1, CVal.int IntKind.i64 a2, CVal.int IntKind.i64 a3,
        CVal.int IntKind.i64 a4, CVal.sl a5, CVal.int IntKind.i64 a6]),
  AVal.v
    (CVal.agg
      [CVal.int IntKind.i64 b0, CVal.int IntKind.i64 b1, CVal.int IntKind.i64 b2, CVal.int IntKind.i64 b3,
        CVal.int IntKind.i64 b4, CVal.sl b5, CVal.int IntKind.i64 b6])] [] = nf_l_eqIns C L a0 a1 a2 a3 a4 a5 a6 b0 b1 b2 b3 b4 b5 b6 := by kernel_rfl
theorem go_l_eqIns (a0 : Int) (a1 : Int) (a2 : Int) (a3 : Int) (a4 : Int) (a5 : List CVal) (a6 : Int) (b0 : Int) (b1 : Int) (b2 : Int) (b3 : Int) (b4 : Int) (b5 : List CVal) (b6 : Int) (R : Ret) (h : nf_l_eqIns CC LL a0 a1 a2 a3 a4 a5 a6 b0 b1 b2 b3 b4 b5 b6 = some R) : CC f_l_eqIns [AVal.v
    (CVal.agg
      [CVal.int IntKind.i64 a0, CVal.int IntKind.i64 a1, CVal.int IntKind.i64 a2, CVal.int IntKind.i64 a3,
        CVal.int IntKind.i64 a4, CVal.sl a5, CVal.int IntKind.i64 a6]),
  AVal.v
    (CVal.agg
      [CVal.int IntKind.i64 b0, CVal.int IntKind.i64 b1, CVal.int IntKind.i64 b2, CVal.int IntKind.i64 b3,
        CVal.int IntKind.i64 b4, CVal.sl b5, CVal.int IntKind.i64 b6])] [] = some R := fnW (by decide) rfl ((eq_l_eqIns CC LL a0 a1 a2 a3 a4 a5 a6 b0 b1 b2 b3 b4 b5 b6).trans h)
noncomputable def nf_i_TyText (C : CallT) (L : LoopT) (a0 : Int) (a1 : Int) (a2 : List CVal) : Option Ret :=
  (C f_i_TyOk [AVal.v (CVal.agg [CVal.int IntKind.i64 a0, CVal.int IntKind.i64 a1, CVal.sl a2])] []).bind fun r =>
    r.1.asBool.bind fun b =>
      br (!b) (some (CVal.str [], []))
        ((C f_i_tyTokens
              [AVal.lref (0 : Nat) (0 : Nat),
                AVal.v (CVal.agg [CVal.int IntKind.i64 a0, CVal.int IntKind.i64 a1, CVal.sl a2])]
              [PB.mk true (1 : Nat) []]).bind
          fun r =>
          r.2[(0 : Nat)]?.bind fun y =>
            (C f_strings_Join [AVal.v (CVal.sl y), AVal.v (CVal.str [(32 : UInt8)])] []).bind fun r => some (r.1, []))
theorem eq_i_TyText (C : CallT) (L : LoopT) (a0 : Int) (a1 : Int) (a2 : List CVal) : evF E N C L f_i_TyText [AVal.v (CVal.agg [CVal.int IntKind.i64 a0, CVal.int IntKind.i64 a1, CVal.sl a2])] [] = nf_i_TyText C L a0 a1 a2 := by kernel_rfl
theorem go_i_TyText (a0 : Int) (a1 : Int) (a2 : List CVal) (R : Ret) (h : nf_i_TyText CC LL a0 a1 a2 = some R) : CC f_i_TyText [AVal.v (CVal.agg [CVal.int IntKind.i64 a0, CVal.int IntKind.i64 a1, CVal.sl a2])] [] = some R := fnW (by decide) rfl ((eq_i_TyText CC LL a0 a1 a2).trans h)
noncomputable def nf_s_l9Int (C : CallT) (L : LoopT) (a : Int) : Option Ret :=
  br (decide ((-10 : Int) < a)) ((C f_s_l2Int [AVal.v (CVal.int IntKind.i64 a)] []).bind fun r => some (r.1, []))
    ((C f_s_l9Int [AVal.v (CVal.int IntKind.i64 (IntKind.i64.wrap (a.tdiv (10 : Int))))] []).bind fun r =>
      (C f_s_l2Int [AVal.v (CVal.int IntKind.i64 (IntKind.i64.wrap ((0 : Int) - a.tmod (10 : Int))))] []).bind fun r_1 =>
        r.1.asStr.bind fun s =>
          r_1.1.asStr.bind fun s_1 =>
            br (decide (s.length + s_1.length ≤ (1152921504606846976 : Nat))) (some (CVal.str (s ++ s_1), [])) none)
theorem eq_s_l9Int (C : CallT) (L : LoopT) (a : Int) : evF E N C L f_s_l9Int [AVal.v (CVal.int IntKind.i64 a)] [] = nf_s_l9Int C L a := by kernel_rfl
theorem go_s_l9Int (a : Int) (R : Ret) (h : nf_s_l9Int CC LL a = some R) : CC f_s_l9Int [AVal.v (CVal.int IntKind.i64 a)] [] = some R := fnW (by decide) rfl ((eq_s_l9Int CC LL a).trans h)
noncomputable def nf_s_TyOk (C : CallT) (L : LoopT) (a0 : Int) (a1 : Int) (a2 : List CVal) : Option Ret :=
  (C f_s_l1Look
        [AVal.v (CVal.agg [CVal.int IntKind.i64 a0, CVal.int IntKind.i64 a1, CVal.sl a2]),
          AVal.v (CVal.int IntKind.i64 (6 : Int)), AVal.lptr (0 : Nat) (0 : Nat)]
        [PB.mk false (0 : Nat) [CVal.int IntKind.i64 (0 : Int)]]).bind
    fun r => r.2[(0 : Nat)]?.bind fun y => br (y.length == (1 : Nat)) (y[(0 : Nat)]?.bind fun y => some (r.1, [])) none
theorem eq_s_TyOk (C : CallT) (L : LoopT) (a0 : Int) (a1 : Int) (a2 : List CVal) : evF E N C L f_s_TyOk [AVal.v (CVal.agg [CVal.int IntKind.i64 a0, CVal.int IntKind.i64 a1, CVal.sl a2])] [] = nf_s_TyOk C L a0 a1 a2 := by kernel_rfl
theorem go_s_TyOk (a0 : Int) (a1 : Int) (a2 : List CVal) (R : Ret) (h : nf_s_TyOk CC LL a0 a1 a2 = some R) : CC f_s_TyOk [AVal.v (CVal.agg [CVal.int IntKind.i64 a0, CVal.int IntKind.i64 a1, CVal.sl a2])] [] = some R := fnW (by decide) rfl ((eq_s_TyOk CC LL a0 a1 a2).trans h)
noncomputable def nf_l_eqTyS (C : CallT) (L : LoopT) (a : List CVal) (b : List CVal) : Option Ret :=
  br (!decide ((↑a.length : Int) = (↑b.length : Int))) (some (CVal.bool false, []))
    ((L f_l_eqTyS (0 : Nat) lc_l_eqTyS_0 [] k_l_eqTyS_0 ((a, b, (0 : Int), PUnit.unit), PUnit.unit)).bind fun r =>
      loK r (fun r => some r) fun j p => br (j == (0 : Nat)) (some (CVal.bool true, [])) none)
theorem eq_l_eqTyS (C : CallT) (L : LoopT) (a : List CVal) (b : List CVal) : evF E N C L f_l_eqTyS [AVal.v (CVal.sl a), AVal.v (CVal.sl b)] [] = nf_l_eqTyS C L a b := by kernel_rfl
theorem go_l_eqTyS (a : List CVal) (b : List CVal) (R : Ret) (h : nf_l_eqTyS CC LL a b = some R) : CC f_l_eqTyS [AVal.v (CVal.sl a), AVal.v (CVal.sl b)] [] = some R := fnW (by decide) rfl ((eq_l_eqTyS CC LL a b).trans h)
noncomputable def nf_s_l1Args (C : CallT) (L : LoopT) (a : Int) : Option Ret :=
  br (decide (a = (1 : Int))) (some (CVal.int IntKind.i64 (0 : Int), []))
    (br (decide (a = (2 : Int))) (some (CVal.int IntKind.i64 (0 : Int), []))
      (br (decide (a = (3 : Int))) (some (CVal.int IntKind.i64 (0 : Int), []))
        (br (decide (a = (6 : Int))) (some (CVal.int IntKind.i64 (1 : Int), []))
          (br (decide (a = (4 : Int))) (some (CVal.int IntKind.i64 (2 : Int), []))
            (br (decide (a = (5 : Int))) (some (CVal.int IntKind.i64 (2 : Int), []))
              (some (CVal.int IntKind.i64 (-1 : Int), [])))))))
theorem eq_s_l1Args (C : CallT) (L : LoopT) (a : Int) : evF E N C L f_s_l1Args [AVal.v (CVal.int IntKind.i64 a)] [] = nf_s_l1Args C L a := by kernel_rfl
theorem go_s_l1Args (a : Int) (R : Ret) (h : nf_s_l1Args CC LL a = some R) : CC f_s_l1Args [AVal.v (CVal.int IntKind.i64 a)] [] = some R := fnW (by decide) rfl ((eq_s_l1Args CC LL a).trans h)
noncomputable def nl_i_InsText_0 (C : CallT) (L : LoopT) (x00 : List UInt8) (x02 : Int) (x03 : Int) (x1 : List CVal) : Option (LO k_i_InsText_0.T) :=
  br (decide (x03 < x02))
    (br (decide ((0 : Int) ≤ x03) && true)
      (br (decide (x03.toNat < x1.length) && true)
        (x1[x03.toNat]?.bind fun y =>
          (y.cell (0 : Nat)).bind fun c =>
            br (decide ((0 : Int) < x03))
              (br (decide (x00.length + (1 : Nat) ≤ (1152921504606846976 : Nat)))
                ((C f_strconv_Itoa [AVal.v c] []).bind fun r =>
                  r.1.asStr.bind fun s =>
                    br (decide ((x00 ++ [(32 : UInt8)]).length + s.length ≤ (1152921504606846976 : Nat)))
                      (L f_i_InsText (0 : Nat) lc_i_InsText_0 [] k_i_InsText_0
                        ((x00 ++ [(32 : UInt8)] ++ s, PUnit.unit, x02, IntKind.i64.wrap (x03 + (1 : Int)), PUnit.unit),
                          x1, PUnit.unit))
                      none)
                none)
              ((C f_strconv_Itoa [AVal.v c] []).bind fun r =>
                r.1.asStr.bind fun s =>
                  br (decide (x00.length + s.length ≤ (1152921504606846976 : Nat)))
                    (L f_i_InsText (0 : Nat) lc_i_InsText_0 [] k_i_InsText_0
                      ((x00 ++ s, PUnit.unit, x02, IntKind.i64.wrap (x03 + (1 : Int)), PUnit.unit), x1, PUnit.unit))
                    none))
        none)
      none)
    (some (LO.out (0 : Nat) ((x00, PUnit.unit, x02, x03, PUnit.unit), x1, PUnit.unit)))
theorem el_i_InsText_0 (C : CallT) (L : LoopT) (x00 : List UInt8) (x02 : Int) (x03 : Int) (x1 : List CVal) : evL E N C L f_i_InsText 0 lc_i_InsText_0 [] k_i_InsText_0 ((x00, (), x02, x03, ()), x1, ()) = nl_i_InsText_0 C L x00 x02 x03 x1 := by kernel_rfl
theorem gl_i_InsText_0 (x00 : List UInt8) (x02 : Int) (x03 : Int) (x1 : List CVal) (R : LO k_i_InsText_0.T) (h : nl_i_InsText_0 CC LL x00 x02 x03 x1 = some R) : LL f_i_InsText 0 lc_i_InsText_0 [] k_i_InsText_0 ((x00, (), x02, x03, ()), x1, ()) = some R := loopW ((el_i_InsText_0 CC LL x00 x02 x03 x1).trans h)
noncomputable def nl_l_toTyS_0 (C : CallT) (L : LoopT) (x00 : List CVal) (x02 : Int) (x1 : List CVal) : Option (LO k_l_toTyS_0.T) :=
  br (decide (x02 < (↑x00.length : Int)))
    (br (decide ((0 : Int) ≤ x02) && true)
      (x00[x02.toNat]?.bind fun y =>
        br (CVal.fits true (3 : Nat) y)
          ((y.sub (0 : Nat) (3 : Nat)).bind fun y =>
            (C f_l_toTy [AVal.v y] []).bind fun r =>
              br (decide ((0 : Int) ≤ x02) && true)
                (br (decide (x02.toNat < x1.length) && true)
                  (x1[x02.toNat]?.bind fun y =>
                    br (CVal.fits true (3 : Nat) r.1)
                      (br (CVal.fits true (3 : Nat) y)
                        (L f_l_toTyS (0 : Nat) lc_l_toTyS_0 [] k_l_toTyS_0
                          ((x00, PUnit.unit, IntKind.i64.wrap (x02 + (1 : Int)), PUnit.unit), x1.set x02.toNat r.1,
                            PUnit.unit))
                        (br (y.isAgg && decide ((0 : Nat) + r.1.cells.length ≤ y.cells.length))
                          (L f_l_toTyS (0 : Nat) lc_l_toTyS_0 [] k_l_toTyS_0
                            ((x00, PUnit.unit, IntKind.i64.wrap (x02 + (1 : Int)), PUnit.unit),
                              x1.set x02.toNat (CVal.agg (splice y.cells (0 : Nat) r.1.cells)), PUnit.unit))
                          none))
                      none)
                  none)
                none)
          none)
      none)
    (some (LO.out (0 : Nat) ((x00, PUnit.unit, x02, PUnit.unit), x1, PUnit.unit)))
theorem el_l_toTyS_0 (C : CallT) (L : LoopT) (x00 : List CVal) (x02 : Int) (x1 : List CVal) : evL E N C L f_l_toTyS 0 lc_l_toTyS_0 [] k_l_toTyS_0 ((x00, (), x02, ()), x1, ()) = nl_l_toTyS_0 C L x00 x02 x1 := by kernel_rfl
theorem gl_l_toTyS_0 (x00 : List CVal) (x02 : Int) (x1 : List CVal) (R : LO k_l_toTyS_0.T) (h : nl_l_toTyS_0 CC LL x00 x02 x1 = some R) : LL f_l_toTyS 0 lc_l_toTyS_0 [] k_l_toTyS_0 ((x00, (), x02, ()), x1, ()) = some R := loopW ((el_l_toTyS_0 CC LL x00 x02 x1).trans h)
noncomputable def nl_s_l1Look_0 (C : CallT) (L : LoopT) (x00 : Int) (x03 : Int) (x10 : Int) (x20 : Int) (x21 : Int) (x22 : List CVal) : Option (LO k_s_l1Look_0.T) :=
  br (decide (x03 < (↑x22.length : Int)))
    (br (decide ((0 : Int) ≤ x03) && true)
      (x22[x03.toNat]?.bind fun y =>
        br (CVal.fits true (3 : Nat) y)
          ((y.sub (0 : Nat) (3 : Nat)).bind fun y =>
            (C f_s_l1Look
                  [AVal.v y, AVal.v (CVal.int IntKind.i64 (IntKind.i64.wrap (x00 - (1 : Int)))),
                    AVal.lptr (0 : Nat) (0 : Nat)]
                  [PB.mk false (0 : Nat) [CVal.int IntKind.i64 x10]]).bind
              fun r =>
              r.2[(0 : Nat)]?.bind fun y =>
                br (y.length == (1 : Nat))
                  (y[(0 : Nat)]?.bind fun y =>
                    r.1.asBool.bind fun b =>
                      br (!b) (some (LO.ret (CVal.bool false, [[y]])))
                        ((CVal.asInt IntKind.i64 y).bind fun n =>
                          L f_s_l1Look (0 : Nat) lc_s_l1Look_0 [none] k_s_l1Look_0
                            ((x00, PUnit.unit, PUnit.unit, IntKind.i64.wrap (x03 + (1 : Int)), PUnit.unit),
                              (n, PUnit.unit), (x20, x21, x22, PUnit.unit), PUnit.unit)))
                  none)
          none)
      none)
    (some
      (LO.out (0 : Nat)
        ((x00, PUnit.unit, PUnit.unit, x03, PUnit.unit), (x10, PUnit.unit), (x20, x21, x22, PUnit.unit), PUnit.unit)))
theorem el_s_l1Look_0 (C : CallT) (L : LoopT) (x00 : Int) (x03 : Int) (x10 : Int) (x20 : Int) (x21 : Int) (x22 : List CVal) : evL E N C L f_s_l1Look 0 lc_s_l1Look_0 [none] k_s_l1Look_0 ((x00, (), (), x03, ()), (x10, ()), (x20, x21, x22, ()), ()) = nl_s_l1Look_0 C L x00 x03 x10 x20 x21 x22 := by kernel_rfl
theorem gl_s_l1Look_0 (x00 : Int) (x03 : Int) (x10 : Int) (x20 : Int) (x21 : Int) (x22 : List CVal) (R : LO k_s_l1Look_0.T) (h : nl_s_l1Look_0 CC LL x00 x03 x10 x20 x21 x22 = some R) : LL f_s_l1Look 0 lc_s_l1Look_0 [none] k_s_l1Look_0 ((x00, (), (), x03, ()), (x10, ()), (x20, x21, x22, ()), ()) = some R := loopW ((el_s_l1Look_0 CC LL x00 x03 x10 x20 x21 x22).trans h)
end Go.Proofs.YtomkegeojknihaaDoor.Abs
