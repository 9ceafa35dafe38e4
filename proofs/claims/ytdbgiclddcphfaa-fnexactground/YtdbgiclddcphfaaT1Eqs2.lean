/- What the functions come to in the abstract machine. -/
import Derived.Test.YtdbgiclddcphfaaT1Ann
import Derived.KernelRfl
set_option linter.unusedVariables false
set_option maxRecDepth 100000
namespace Go.Proofs.Ytdbgiclddcphfaa.Abs
open Go Go.Proofs
noncomputable def nf_l_szTy (C : CallT) (L : LoopT) (a0 : Int) (a1 : Int) (a2 : List CVal) (b : Int) : Option Ret :=
  (C f_l_szTyS [AVal.v (CVal.sl a2), AVal.v (CVal.int IntKind.i64 b)] []).bind fun r =>
    (CVal.asInt IntKind.i64 r.1).bind fun n =>
      br (decide (n < (0 : Int))) (some (CVal.int IntKind.i64 (-1 : Int), [])) (some (r.1, []))
theorem eq_l_szTy (C : CallT) (L : LoopT) (a0 : Int) (a1 : Int) (a2 : List CVal) (b : Int) : evF E N C L f_l_szTy [AVal.v (CVal.agg [CVal.int IntKind.i64 a0, CVal.int IntKind.i64 a1, CVal.sl a2]), AVal.v (CVal.int IntKind.i64 b)] [] = nf_l_szTy C L a0 a1 a2 b := by kernel_rfl
theorem go_l_szTy (a0 : Int) (a1 : Int) (a2 : List CVal) (b : Int) (R : Ret) (h : nf_l_szTy CC LL a0 a1 a2 b = some R) : CC f_l_szTy [AVal.v (CVal.agg [CVal.int IntKind.i64 a0, CVal.int IntKind.i64 a1, CVal.sl a2]), AVal.v (CVal.int IntKind.i64 b)] [] = some R := fnW (by decide) ((eq_l_szTy CC LL a0 a1 a2 b).trans h)
noncomputable def nf_l_eqTy (C : CallT) (L : LoopT) (a0 : Int) (a1 : Int) (a2 : List CVal) (b0 : Int) (b1 : Int) (b2 : List CVal) : Option Ret :=
  br (!decide (a0 = b0)) (some (CVal.bool false, []))
    (br (!decide (a1 = b1)) (some (CVal.bool false, []))
      ((C f_l_eqTyS [AVal.v (CVal.sl a2), AVal.v (CVal.sl b2)] []).bind fun r =>
        r.1.asBool.bind fun b => br (!b) (some (CVal.bool false, [])) (some (CVal.bool true, []))))
theorem eq_l_eqTy (C : CallT) (L : LoopT) (a0 : Int) (a1 : Int) (a2 : List CVal) (b0 : Int) (b1 : Int) (b2 : List CVal) : evF E N C L f_l_eqTy [AVal.v (CVal.agg [CVal.int IntKind.i64 a0, CVal.int IntKind.i64 a1, CVal.sl a2]),
  AVal.v (CVal.agg [CVal.int IntKind.i64 b0, CVal.int IntKind.i64 b1, CVal.sl b2])] [] = nf_l_eqTy C L a0 a1 a2 b0 b1 b2 := by kernel_rfl
theorem go_l_eqTy (a0 : Int) (a1 : Int) (a2 : List CVal) (b0 : Int) (b1 : Int) (b2 : List CVal) (R : Ret) (h : nf_l_eqTy CC LL a0 a1 a2 b0 b1 b2 = some R) : CC f_l_eqTy [AVal.v (CVal.agg [CVal.int IntKind.i64 a0, CVal.int IntKind.i64 a1, CVal.sl a2]),
  AVal.v (CVal.agg [CVal.int IntKind.i64 b0, CVal.int IntKind.i64 b1, CVal.sl b2])] [] = some R := fnW (by decide) ((eq_l_eqTy CC LL a0 a1 a2 b0 b1 b2).trans h)
noncomputable def nf_l_toTyS (C : CallT) (L : LoopT) (a : List CVal) : Option Ret :=
  br (decide ((↑a.length : Int) = (↑a.length : Int)) && decide ((↑a.length : Int) ≤ (1048576 : Int)))
    ((L f_l_toTyS (0 : Nat) lc_l_toTyS_0 [] k_l_toTyS_0
          ((a, PUnit.unit, (0 : Int), PUnit.unit),
            List.replicate (↑a.length : Int).toNat
              (CVal.agg [CVal.int IntKind.i64 (0 : Int), CVal.int IntKind.i64 (0 : Int), CVal.sl []]),
            PUnit.unit)).bind
      fun r => loK r (fun r => some r) fun j p => br (j == (0 : Nat)) (some (CVal.sl p.snd.1, [])) none)
    none
theorem eq_l_toTyS (C : CallT) (L : LoopT) (a : List CVal) : evF E N C L f_l_toTyS [AVal.v (CVal.sl a)] [] = nf_l_toTyS C L a := by kernel_rfl
theorem go_l_toTyS (a : List CVal) (R : Ret) (h : nf_l_toTyS CC LL a = some R) : CC f_l_toTyS [AVal.v (CVal.sl a)] [] = some R := fnW (by decide) ((eq_l_toTyS CC LL a).trans h)
noncomputable def nf_i_anyTy (C : CallT) (L : LoopT) (a0 : Int) (a1 : Int) (a2 : List CVal) (b : CVal) : Option Ret :=
  br (b.isFlat && true)
    (((b.cell (0 : Nat)).bind fun c =>
          (C apId [AVal.v c, AVal.v (CVal.agg [CVal.int IntKind.i64 a0, CVal.int IntKind.i64 a1, CVal.sl a2])] []).bind
            fun r =>
            r.1.asBool.bind fun b_1 =>
              br b_1 (some (true, PUnit.unit))
                ((C f_slices_ContainsFunc_Ty [AVal.v (CVal.sl a2), AVal.v (CVal.func f_i_anyTy_1 [b.fp (0 : Nat)])]
                      []).bind
                  fun r => (bif false then CVal.bool true else r.1).asBool.bind fun b => some (b, PUnit.unit))).bind
      fun y => some (CVal.bool y.1, []))
    none
theorem eq_i_anyTy (C : CallT) (L : LoopT) (a0 : Int) (a1 : Int) (a2 : List CVal) (b : CVal) : evF E N C L f_i_anyTy [AVal.v (CVal.agg [CVal.int IntKind.i64 a0, CVal.int IntKind.i64 a1, CVal.sl a2]), AVal.v b] [] = nf_i_anyTy C L a0 a1 a2 b := by kernel_rfl
theorem go_i_anyTy (a0 : Int) (a1 : Int) (a2 : List CVal) (b : CVal) (R : Ret) (h : nf_i_anyTy CC LL a0 a1 a2 b = some R) : CC f_i_anyTy [AVal.v (CVal.agg [CVal.int IntKind.i64 a0, CVal.int IntKind.i64 a1, CVal.sl a2]), AVal.v b] [] = some R := fnW (by decide) ((eq_i_anyTy CC LL a0 a1 a2 b).trans h)
noncomputable def nf_s_l1Look (C : CallT) (L : LoopT) (a0 : Int) (a1 : Int) (a2 : List CVal) (b : Int) (c : Int) : Option Ret :=
  (br (decide (b = (0 : Int))) (some (true, PUnit.unit))
        (br (decide ((60 : Int) < IntKind.i64.wrap (c + (1 : Int)))) (some (true, PUnit.unit))
          ((C f_s_l1Args [AVal.v (CVal.int IntKind.i64 a0)] []).bind fun r =>
            (CVal.asInt IntKind.i64 r.1).bind fun n =>
              br (!decide ((↑a2.length : Int) = n)) (some (true, PUnit.unit))
                (br (decide (a0 = (3 : Int)))
                  ((C f_s_l1In
                        [AVal.v (CVal.int IntKind.i64 a1), AVal.v (CVal.int IntKind.i64 (0 : Int)),
                          AVal.v (CVal.int IntKind.i64 (1 : Int))]
                        []).bind
                    fun r =>
                    r.1.asBool.bind fun b =>
                      br (!b) (some (true, PUnit.unit))
                        (br (!decide (a0 = (3 : Int))) (some (!decide (a1 = (0 : Int)), PUnit.unit))
                          (some (false, PUnit.unit))))
                  (br (!decide (a0 = (3 : Int))) (some (!decide (a1 = (0 : Int)), PUnit.unit))
                    (some (false, PUnit.unit))))))).bind
    fun y =>
    br y.1 (some (CVal.bool false, [[CVal.int IntKind.i64 (IntKind.i64.wrap (c + (1 : Int)))]]))
      ((L f_s_l1Look (0 : Nat) lc_s_l1Look_0 [none] k_s_l1Look_0
            ((b, PUnit.unit, PUnit.unit, (0 : Int), PUnit.unit), (IntKind.i64.wrap (c + (1 : Int)), PUnit.unit),
              (a0, a1, a2, PUnit.unit), PUnit.unit)).bind
        fun r =>
        loK r (fun r => some r) fun j p =>
          br (j == (0 : Nat)) (some (CVal.bool true, [[CVal.int IntKind.i64 p.snd.fst.1]])) none)
theorem eq_s_l1Look (C : CallT) (L : LoopT) (a0 : Int) (a1 : Int) (a2 : List CVal) (b : Int) (c : Int) : evF E N C L f_s_l1Look [AVal.v (CVal.agg [CVal.int IntKind.i64 a0, CVal.int IntKind.i64 a1, CVal.sl a2]), AVal.v (CVal.int IntKind.i64 b),
  AVal.lptr (0 : Nat) (0 : Nat)] [{ arr := false, sz := (0 : Nat), xs := [CVal.int IntKind.i64 c] }] = nf_s_l1Look C L a0 a1 a2 b c := by kernel_rfl
theorem go_s_l1Look (a0 : Int) (a1 : Int) (a2 : List CVal) (b : Int) (c : Int) (R : Ret) (h : nf_s_l1Look CC LL a0 a1 a2 b c = some R) : CC f_s_l1Look [AVal.v (CVal.agg [CVal.int IntKind.i64 a0, CVal.int IntKind.i64 a1, CVal.sl a2]), AVal.v (CVal.int IntKind.i64 b),
  AVal.lptr (0 : Nat) (0 : Nat)] [{ arr := false, sz := (0 : Nat), xs := [CVal.int IntKind.i64 c] }] = some R := fnW (by decide) ((eq_s_l1Look CC LL a0 a1 a2 b c).trans h)
noncomputable def nf_s_l1Args (C : CallT) (L : LoopT) (a : Int) : Option Ret :=
  br (decide (a = (1 : Int))) (some (CVal.int IntKind.i64 (0 : Int), []))
    (br (decide (a = (2 : Int))) (some (CVal.int IntKind.i64 (0 : Int), []))
      (br (decide (a = (3 : Int))) (some (CVal.int IntKind.i64 (0 : Int), []))
        (br (decide (a = (6 : Int))) (some (CVal.int IntKind.i64 (1 : Int), []))
          (br (decide (a = (4 : Int))) (some (CVal.int IntKind.i64 (2 : Int), []))
            (br (decide (a = (5 : Int))) (some (CVal.int IntKind.i64 (2 : Int), []))
              (some (CVal.int IntKind.i64 (-1 : Int), [])))))))
theorem eq_s_l1Args (C : CallT) (L : LoopT) (a : Int) : evF E N C L f_s_l1Args [AVal.v (CVal.int IntKind.i64 a)] [] = nf_s_l1Args C L a := by kernel_rfl
theorem go_s_l1Args (a : Int) (R : Ret) (h : nf_s_l1Args CC LL a = some R) : CC f_s_l1Args [AVal.v (CVal.int IntKind.i64 a)] [] = some R := fnW (by decide) ((eq_s_l1Args CC LL a).trans h)
noncomputable def nl_l_szTyS_0 (C : CallT) (L : LoopT) (x00 : List CVal) (x01 : Int) (x02 : Int) : Option (LO k_l_szTyS_0.T) :=
  br (decide (x02 < (↑x00.length : Int)))
    (br (decide ((0 : Int) ≤ x02) && true)
      (x00[x02.toNat]?.bind fun y =>
        br (CVal.fits true (3 : Nat) y)
          ((y.sub (0 : Nat) (3 : Nat)).bind fun y =>
            (C f_l_szTy [AVal.v y, AVal.v (CVal.int IntKind.i64 x01)] []).bind fun r =>
              (CVal.asInt IntKind.i64 r.1).bind fun n =>
                br (decide (n < (0 : Int))) (some (LO.ret (CVal.int IntKind.i64 (-1 : Int), [])))
                  ((CVal.asInt IntKind.i64 r.1).bind fun n =>
                    L f_l_szTyS (0 : Nat) lc_l_szTyS_0 [] k_l_szTyS_0
                      ((x00, n, IntKind.i64.wrap (x02 + (1 : Int)), PUnit.unit), PUnit.unit)))
          none)
      none)
    (some (LO.out (0 : Nat) ((x00, x01, x02, PUnit.unit), PUnit.unit)))
theorem el_l_szTyS_0 (C : CallT) (L : LoopT) (x00 : List CVal) (x01 : Int) (x02 : Int) : evL E N C L f_l_szTyS 0 lc_l_szTyS_0 [] k_l_szTyS_0 ((x00, x01, x02, ()), ()) = nl_l_szTyS_0 C L x00 x01 x02 := by kernel_rfl
theorem gl_l_szTyS_0 (x00 : List CVal) (x01 : Int) (x02 : Int) (R : LO k_l_szTyS_0.T) (h : nl_l_szTyS_0 CC LL x00 x01 x02 = some R) : LL f_l_szTyS 0 lc_l_szTyS_0 [] k_l_szTyS_0 ((x00, x01, x02, ()), ()) = some R := loopW ((el_l_szTyS_0 CC LL x00 x01 x02).trans h)
noncomputable def nl_i_varsOf_0 (C : CallT) (L : LoopT) (x00 : Int) (x01 : List CVal) (x02 : Int) (x03 : Int) : Option (LO k_i_varsOf_0.T) :=
  br (decide (x03 < x02))
    (br (decide ((0 : Int) ≤ x03) && true)
      (x01[x03.toNat]?.bind fun y =>
        br (CVal.fits true (3 : Nat) y)
          ((y.sub (0 : Nat) (3 : Nat)).bind fun y =>
            br (CVal.isAggN (3 : Nat) y)
              ((y.cell (0 : Nat)).bind fun c =>
                (y.cell (1 : Nat)).bind fun c_1 =>
                  (y.cell (2 : Nat)).bind fun c_2 =>
                    (C f_i_varsOf [AVal.v (CVal.agg [c, c_1, c_2])] []).bind fun r =>
                      (CVal.asInt IntKind.i64 r.1).bind fun n =>
                        L f_i_varsOf (0 : Nat) lc_i_varsOf_0 [] k_i_varsOf_0
                          ((bif decide (x00 < n) then n else x00, x01, x02, IntKind.i64.wrap (x03 + (1 : Int)),
                              PUnit.unit),
                            PUnit.unit))
              none)
          none)
      none)
    (some (LO.out (0 : Nat) ((x00, x01, x02, x03, PUnit.unit), PUnit.unit)))
theorem el_i_varsOf_0 (C : CallT) (L : LoopT) (x00 : Int) (x01 : List CVal) (x02 : Int) (x03 : Int) : evL E N C L f_i_varsOf 0 lc_i_varsOf_0 [] k_i_varsOf_0 ((x00, x01, x02, x03, ()), ()) = nl_i_varsOf_0 C L x00 x01 x02 x03 := by kernel_rfl
theorem gl_i_varsOf_0 (x00 : Int) (x01 : List CVal) (x02 : Int) (x03 : Int) (R : LO k_i_varsOf_0.T) (h : nl_i_varsOf_0 CC LL x00 x01 x02 x03 = some R) : LL f_i_varsOf 0 lc_i_varsOf_0 [] k_i_varsOf_0 ((x00, x01, x02, x03, ()), ()) = some R := loopW ((el_i_varsOf_0 CC LL x00 x01 x02 x03).trans h)
end Go.Proofs.Ytdbgiclddcphfaa.Abs
