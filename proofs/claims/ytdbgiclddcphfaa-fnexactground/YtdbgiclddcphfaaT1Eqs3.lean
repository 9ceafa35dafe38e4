/- What the functions come to in the abstract machine. -/
import Derived.Test.YtdbgiclddcphfaaT1Ann
import Derived.KernelRfl
set_option linter.unusedVariables false
set_option maxRecDepth 100000
namespace Go.Proofs.Ytdbgiclddcphfaa.Abs
open Go Go.Proofs
noncomputable def nf_l_toTy (C : CallT) (L : LoopT) (a0 : Int) (a1 : Int) (a2 : List CVal) : Option Ret :=
  (C f_l_toTyS [AVal.v (CVal.sl a2)] []).bind fun r =>
    br (r.1.isFlat && true) (some (CVal.agg [CVal.int IntKind.i64 a0, CVal.int IntKind.i64 a1, r.1], [])) none
theorem eq_l_toTy (C : CallT) (L : LoopT) (a0 : Int) (a1 : Int) (a2 : List CVal) : evF E N C L f_l_toTy [AVal.v (CVal.agg [CVal.int IntKind.i64 a0, CVal.int IntKind.i64 a1, CVal.sl a2])] [] = nf_l_toTy C L a0 a1 a2 := by kernel_rfl
theorem go_l_toTy (a0 : Int) (a1 : Int) (a2 : List CVal) (R : Ret) (h : nf_l_toTy CC LL a0 a1 a2 = some R) : CC f_l_toTy [AVal.v (CVal.agg [CVal.int IntKind.i64 a0, CVal.int IntKind.i64 a1, CVal.sl a2])] [] = some R := fnW (by decide) ((eq_l_toTy CC LL a0 a1 a2).trans h)
noncomputable def nf_s_VarsOf (C : CallT) (L : LoopT) (a0 : Int) (a1 : Int) (a2 : List CVal) : Option Ret :=
  (C f_s_TyOk [AVal.v (CVal.agg [CVal.int IntKind.i64 a0, CVal.int IntKind.i64 a1, CVal.sl a2])] []).bind fun r =>
    r.1.asBool.bind fun b =>
      br (!b) (some (CVal.int IntKind.i64 (0 : Int), []))
        ((C f_s_l1Vars [AVal.v (CVal.agg [CVal.int IntKind.i64 a0, CVal.int IntKind.i64 a1, CVal.sl a2])] []).bind
          fun r => some (r.1, []))
theorem eq_s_VarsOf (C : CallT) (L : LoopT) (a0 : Int) (a1 : Int) (a2 : List CVal) : evF E N C L f_s_VarsOf [AVal.v (CVal.agg [CVal.int IntKind.i64 a0, CVal.int IntKind.i64 a1, CVal.sl a2])] [] = nf_s_VarsOf C L a0 a1 a2 := by kernel_rfl
theorem go_s_VarsOf (a0 : Int) (a1 : Int) (a2 : List CVal) (R : Ret) (h : nf_s_VarsOf CC LL a0 a1 a2 = some R) : CC f_s_VarsOf [AVal.v (CVal.agg [CVal.int IntKind.i64 a0, CVal.int IntKind.i64 a1, CVal.sl a2])] [] = some R := fnW (by decide) ((eq_s_VarsOf CC LL a0 a1 a2).trans h)
noncomputable def nf_s_TyOk (C : CallT) (L : LoopT) (a0 : Int) (a1 : Int) (a2 : List CVal) : Option Ret :=
  (C f_s_l1Look
        [AVal.v (CVal.agg [CVal.int IntKind.i64 a0, CVal.int IntKind.i64 a1, CVal.sl a2]),
          AVal.v (CVal.int IntKind.i64 (6 : Int)), AVal.lptr (0 : Nat) (0 : Nat)]
        [{ arr := false, sz := (0 : Nat), xs := [CVal.int IntKind.i64 (0 : Int)] }]).bind
    fun r => r.2[(0 : Nat)]?.bind fun y => br (y.length == (1 : Nat)) (y[(0 : Nat)]?.bind fun y => some (r.1, [])) none
theorem eq_s_TyOk (C : CallT) (L : LoopT) (a0 : Int) (a1 : Int) (a2 : List CVal) : evF E N C L f_s_TyOk [AVal.v (CVal.agg [CVal.int IntKind.i64 a0, CVal.int IntKind.i64 a1, CVal.sl a2])] [] = nf_s_TyOk C L a0 a1 a2 := by kernel_rfl
theorem go_s_TyOk (a0 : Int) (a1 : Int) (a2 : List CVal) (R : Ret) (h : nf_s_TyOk CC LL a0 a1 a2 = some R) : CC f_s_TyOk [AVal.v (CVal.agg [CVal.int IntKind.i64 a0, CVal.int IntKind.i64 a1, CVal.sl a2])] [] = some R := fnW (by decide) ((eq_s_TyOk CC LL a0 a1 a2).trans h)
noncomputable def nf_i_Ground_1 (C : CallT) (L : LoopT) (a0 : Int) (a1 : Int) (a2 : List CVal) : Option Ret :=
  some (CVal.bool (decide (a0 = (3 : Int))), [])
theorem eq_i_Ground_1 (C : CallT) (L : LoopT) (a0 : Int) (a1 : Int) (a2 : List CVal) : evF E N C L f_i_Ground_1 [AVal.v (CVal.agg [CVal.int IntKind.i64 a0, CVal.int IntKind.i64 a1, CVal.sl a2])] [] = nf_i_Ground_1 C L a0 a1 a2 := by kernel_rfl
theorem go_i_Ground_1 (a0 : Int) (a1 : Int) (a2 : List CVal) (R : Ret) (h : nf_i_Ground_1 CC LL a0 a1 a2 = some R) : CC f_i_Ground_1 [AVal.v (CVal.agg [CVal.int IntKind.i64 a0, CVal.int IntKind.i64 a1, CVal.sl a2])] [] = some R := fnW (by decide) ((eq_i_Ground_1 CC LL a0 a1 a2).trans h)
noncomputable def nf_i_measure (C : CallT) (L : LoopT) (a0 : Int) (a1 : Int) (a2 : List CVal) : Option Ret :=
  ((C f_i_tyParts [AVal.v (CVal.int IntKind.i64 a0)] []).bind fun r =>
        (CVal.asInt IntKind.i64 r.1).bind fun n =>
          br (!decide ((↑a2.length : Int) = n)) (some (true, PUnit.unit))
            (br (!decide (a1 = (0 : Int)))
              (br (!decide (a0 = (3 : Int))) (some (true, PUnit.unit)) (some (!decide (a1 = (1 : Int)), PUnit.unit)))
              (some (false, PUnit.unit)))).bind
    fun y =>
    br y.1 (some (CVal.tup [CVal.int IntKind.i64 (0 : Int), CVal.int IntKind.i64 (0 : Int), CVal.bool false], []))
      ((L f_i_measure (0 : Nat) lc_i_measure_0 [] k_i_measure_0
            (((0 : Int), (1 : Int), a2, (↑a2.length : Int), (0 : Int), PUnit.unit), PUnit.unit)).bind
        fun r =>
        loK r (fun r => some r) fun j p =>
          br (j == (0 : Nat))
            (some
              (CVal.tup
                  [CVal.int IntKind.i64 (IntKind.i64.wrap (p.fst.1 + (1 : Int))), CVal.int IntKind.i64 p.fst.snd.1,
                    CVal.bool true],
                []))
            none)
theorem eq_i_measure (C : CallT) (L : LoopT) (a0 : Int) (a1 : Int) (a2 : List CVal) : evF E N C L f_i_measure [AVal.v (CVal.agg [CVal.int IntKind.i64 a0, CVal.int IntKind.i64 a1, CVal.sl a2])] [] = nf_i_measure C L a0 a1 a2 := by kernel_rfl
theorem go_i_measure (a0 : Int) (a1 : Int) (a2 : List CVal) (R : Ret) (h : nf_i_measure CC LL a0 a1 a2 = some R) : CC f_i_measure [AVal.v (CVal.agg [CVal.int IntKind.i64 a0, CVal.int IntKind.i64 a1, CVal.sl a2])] [] = some R := fnW (by decide) ((eq_i_measure CC LL a0 a1 a2).trans h)
noncomputable def nf_s_l1In (C : CallT) (L : LoopT) (a : Int) (b : Int) (c : Int) : Option Ret :=
  (br (decide (b ≤ a)) (some (decide (a ≤ c), PUnit.unit)) (some (false, PUnit.unit))).bind fun y =>
    some (CVal.bool y.1, [])
theorem eq_s_l1In (C : CallT) (L : LoopT) (a : Int) (b : Int) (c : Int) : evF E N C L f_s_l1In [AVal.v (CVal.int IntKind.i64 a), AVal.v (CVal.int IntKind.i64 b), AVal.v (CVal.int IntKind.i64 c)] [] = nf_s_l1In C L a b c := by kernel_rfl
theorem go_s_l1In (a : Int) (b : Int) (c : Int) (R : Ret) (h : nf_s_l1In CC LL a b c = some R) : CC f_s_l1In [AVal.v (CVal.int IntKind.i64 a), AVal.v (CVal.int IntKind.i64 b), AVal.v (CVal.int IntKind.i64 c)] [] = some R := fnW (by decide) ((eq_s_l1In CC LL a b c).trans h)
noncomputable def nl_l_toTyS_0 (C : CallT) (L : LoopT) (x00 : List CVal) (x02 : Int) (x1 : List CVal) : Option (LO k_l_toTyS_0.T) :=
  br (decide (x02 < (↑x00.length : Int)))
    (br (decide ((0 : Int) ≤ x02) && true)
      (x00[x02.toNat]?.bind fun y =>
        br (CVal.fits true (3 : Nat) y)
          ((y.sub (0 : Nat) (3 : Nat)).bind fun y =>
            (C f_l_toTy [AVal.v y] []).bind fun r =>
              br (decide ((0 : Int) ≤ x02) && true)
                (br (decide (x02.toNat < x1.length) && true)
                  (x1[x02.toNat]?.bind fun y =>
                    br (CVal.fits true (3 : Nat) r.1)
                      (br (CVal.fits true (3 : Nat) y)
                        (L f_l_toTyS (0 : Nat) lc_l_toTyS_0 [] k_l_toTyS_0
                          ((x00, PUnit.unit, IntKind.i64.wrap (x02 + (1 : Int)), PUnit.unit), x1.set x02.toNat r.1,
                            PUnit.unit))
                        (br (y.isAgg && decide ((0 : Nat) + r.1.cells.length ≤ y.cells.length))
                          (L f_l_toTyS (0 : Nat) lc_l_toTyS_0 [] k_l_toTyS_0
                            ((x00, PUnit.unit, IntKind.i64.wrap (x02 + (1 : Int)), PUnit.unit),
                              x1.set x02.toNat (CVal.agg (splice y.cells (0 : Nat) r.1.cells)), PUnit.unit))
                          none))
                      none)
                  none)
                none)
          none)
      none)
    (some (LO.out (0 : Nat) ((x00, PUnit.unit, x02, PUnit.unit), x1, PUnit.unit)))
theorem el_l_toTyS_0 (C : CallT) (L : LoopT) (x00 : List CVal) (x02 : Int) (x1 : List CVal) : evL E N C L f_l_toTyS 0 lc_l_toTyS_0 [] k_l_toTyS_0 ((x00, (), x02, ()), x1, ()) = nl_l_toTyS_0 C L x00 x02 x1 := by kernel_rfl
theorem gl_l_toTyS_0 (x00 : List CVal) (x02 : Int) (x1 : List CVal) (R : LO k_l_toTyS_0.T) (h : nl_l_toTyS_0 CC LL x00 x02 x1 = some R) : LL f_l_toTyS 0 lc_l_toTyS_0 [] k_l_toTyS_0 ((x00, (), x02, ()), x1, ()) = some R := loopW ((el_l_toTyS_0 CC LL x00 x02 x1).trans h)
noncomputable def nl_s_l1Look_0 (C : CallT) (L : LoopT) (x00 : Int) (x03 : Int) (x10 : Int) (x20 : Int) (x21 : Int) (x22 : List CVal) : Option (LO k_s_l1Look_0.T) :=
  br (decide (x03 < (↑x22.length : Int)))
    (br (decide ((0 : Int) ≤ x03) && true)
      (x22[x03.toNat]?.bind fun y =>
        br (CVal.fits true (3 : Nat) y)
          ((y.sub (0 : Nat) (3 : Nat)).bind fun y =>
            (C f_s_l1Look
                  [AVal.v y, AVal.v (CVal.int IntKind.i64 (IntKind.i64.wrap (x00 - (1 : Int)))),
                    AVal.lptr (0 : Nat) (0 : Nat)]
                  [{ arr := false, sz := (0 : Nat), xs := [CVal.int IntKind.i64 x10] }]).bind
              fun r =>
              r.2[(0 : Nat)]?.bind fun y =>
                br (y.length == (1 : Nat))
                  (y[(0 : Nat)]?.bind fun y =>
                    r.1.asBool.bind fun b =>
                      br (!b) (some (LO.ret (CVal.bool false, [[y]])))
                        ((CVal.asInt IntKind.i64 y).bind fun n =>
                          L f_s_l1Look (0 : Nat) lc_s_l1Look_0 [none] k_s_l1Look_0
                            ((x00, PUnit.unit, PUnit.unit, IntKind.i64.wrap (x03 + (1 : Int)), PUnit.unit),
                              (n, PUnit.unit), (x20, x21, x22, PUnit.unit), PUnit.unit)))
                  none)
          none)
      none)
    (some
      (LO.out (0 : Nat)
        ((x00, PUnit.unit, PUnit.unit, x03, PUnit.unit), (x10, PUnit.unit), (x20, x21, x22, PUnit.unit), PUnit.unit)))
theorem el_s_l1Look_0 (C : CallT) (L : LoopT) (x00 : Int) (x03 : Int) (x10 : Int) (x20 : Int) (x21 : Int) (x22 : List CVal) : evL E N C L f_s_l1Look 0 lc_s_l1Look_0 [none] k_s_l1Look_0 ((x00, (), (), x03, ()), (x10, ()), (x20, x21, x22, ()), ()) = nl_s_l1Look_0 C L x00 x03 x10 x20 x21 x22 := by kernel_rfl
theorem gl_s_l1Look_0 (x00 : Int) (x03 : Int) (x10 : Int) (x20 : Int) (x21 : Int) (x22 : List CVal) (R : LO k_s_l1Look_0.T) (h : nl_s_l1Look_0 CC LL x00 x03 x10 x20 x21 x22 = some R) : LL f_s_l1Look 0 lc_s_l1Look_0 [none] k_s_l1Look_0 ((x00, (), (), x03, ()), (x10, ()), (x20, x21, x22, ()), ()) = some R := loopW ((el_s_l1Look_0 CC LL x00 x03 x10 x20 x21 x22).trans h)
end Go.Proofs.Ytdbgiclddcphfaa.Abs
