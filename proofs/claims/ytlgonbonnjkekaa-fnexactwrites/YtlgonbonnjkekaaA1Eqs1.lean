/- What the functions come to in the abstract machine. -/
import Derived.Test.YtlgonbonnjkekaaA1Ann
import Derived.KernelRfl
set_option linter.unusedVariables false
set_option maxRecDepth 100000
namespace Go.Proofs.Ytlgonbonnjkekaa.Abs
open Go Go.Proofs
noncomputable def nf_l_FnExactTyOk (C : CallT) (L : LoopT) (a0 : Int) (a1 : Int) (a2 : List CVal) : Option Ret :=
  (C f_l_szTy
        [AVal.v (CVal.agg [CVal.int IntKind.i64 a0, CVal.int IntKind.i64 a1, CVal.sl a2]),
          AVal.v (CVal.int IntKind.i64 (1048576 : Int))]
        []).bind
    fun r =>
    (CVal.asInt IntKind.i64 r.1).bind fun n =>
      br (decide (n < (0 : Int))) (some (CVal.bool true, []))
        ((C f_l_toTy [AVal.v (CVal.agg [CVal.int IntKind.i64 a0, CVal.int IntKind.i64 a1, CVal.sl a2])] []).bind fun r =>
          (C f_s_TyOk [AVal.v r.1] []).bind fun r =>
            (C f_l_toTy [AVal.v (CVal.agg [CVal.int IntKind.i64 a0, CVal.int IntKind.i64 a1, CVal.sl a2])] []).bind
              fun r_1 =>
              br (CVal.isAggN (3 : Nat) r_1.1)
                ((r_1.1.cell (0 : Nat)).bind fun c =>
                  (r_1.1.cell (1 : Nat)).bind fun c_1 =>
                    (r_1.1.cell (2 : Nat)).bind fun c_2 =>
                      (C f_i_TyOk [AVal.v (CVal.agg [c, c_1, c_2])] []).bind fun r_2 =>
                        r_2.1.asBool.bind fun b =>
                          r.1.asBool.bind fun b_1 =>
                            br (!b == b_1) (some (CVal.bool false, []))
                              ((C f_l_toTy
                                    [AVal.v (CVal.agg [CVal.int IntKind.i64 a0, CVal.int IntKind.i64 a1, CVal.sl a2])]
                                    []).bind
                                fun r =>
                                (C f_l_eqTy [AVal.v (CVal.agg [c, c_1, c_2]), AVal.v r.1] []).bind fun r =>
                                  r.1.asBool.bind fun b =>
                                    br (!b) (some (CVal.bool false, [])) (some (CVal.bool true, []))))
                none)
theorem eq_l_FnExactTyOk (C : CallT) (L : LoopT) (a0 : Int) (a1 : Int) (a2 : List CVal) : evF E N C L f_l_FnExactTyOk [AVal.v (CVal.agg [CVal.int IntKind.i64 a0, CVal.int IntKind.i64 a1, CVal.sl a2])] [] = nf_l_FnExactTyOk C L a0 a1 a2 := by kernel_rfl
theorem go_l_FnExactTyOk (a0 : Int) (a1 : Int) (a2 : List CVal) (R : Ret) (h : nf_l_FnExactTyOk CC LL a0 a1 a2 = some R) : CC f_l_FnExactTyOk [AVal.v (CVal.agg [CVal.int IntKind.i64 a0, CVal.int IntKind.i64 a1, CVal.sl a2])] [] = some R := fnW (by decide) ((eq_l_FnExactTyOk CC LL a0 a1 a2).trans h)
noncomputable def nf_l_szOutcome (C : CallT) (L : LoopT) (a0 : Int) (a1 : Int) (a2 : List UInt8) (b : Int) : Option Ret :=
  br (decide (IntKind.i64.wrap (b - (↑a2.length : Int)) < (0 : Int))) (some (CVal.int IntKind.i64 (-1 : Int), []))
    (some (CVal.int IntKind.i64 (IntKind.i64.wrap (b - (↑a2.length : Int))), []))
theorem eq_l_szOutcome (C : CallT) (L : LoopT) (a0 : Int) (a1 : Int) (a2 : List UInt8) (b : Int) : evF E N C L f_l_szOutcome [AVal.v (CVal.agg [CVal.int IntKind.i64 a0, CVal.int IntKind.i64 a1, CVal.str a2]), AVal.v (CVal.int IntKind.i64 b)] [] = nf_l_szOutcome C L a0 a1 a2 b := by kernel_rfl
theorem go_l_szOutcome (a0 : Int) (a1 : Int) (a2 : List UInt8) (b : Int) (R : Ret) (h : nf_l_szOutcome CC LL a0 a1 a2 b = some R) : CC f_l_szOutcome [AVal.v (CVal.agg [CVal.int IntKind.i64 a0, CVal.int IntKind.i64 a1, CVal.str a2]), AVal.v (CVal.int IntKind.i64 b)] [] = some R := fnW (by decide) ((eq_l_szOutcome CC LL a0 a1 a2 b).trans h)
noncomputable def nf_i_SameEnd (C : CallT) (L : LoopT) (a0 : Int) (a1 : Int) (a2 : List UInt8) (b0 : Int) (b1 : Int) (b2 : List UInt8) : Option Ret :=
  (br (decide (a0 = b0) && (decide (a1 = b1) && (decide (a2 = b2) && true))) (some (true, PUnit.unit))
        (br (decide (a0 = (3 : Int))) (some (true, PUnit.unit)) (some (decide (b0 = (3 : Int)), PUnit.unit)))).bind
    fun y => some (CVal.bool y.1, [])
theorem eq_i_SameEnd (C : CallT) (L : LoopT) (a0 : Int) (a1 : Int) (a2 : List UInt8) (b0 : Int) (b1 : Int) (b2 : List UInt8) : evF E N C L f_i_SameEnd [AVal.v (CVal.agg [CVal.int IntKind.i64 a0, CVal.int IntKind.i64 a1, CVal.str a2]),
  AVal.v (CVal.agg [CVal.int IntKind.i64 b0, CVal.int IntKind.i64 b1, CVal.str b2])] [] = nf_i_SameEnd C L a0 a1 a2 b0 b1 b2 := by kernel_rfl
theorem go_i_SameEnd (a0 : Int) (a1 : Int) (a2 : List UInt8) (b0 : Int) (b1 : Int) (b2 : List UInt8) (R : Ret) (h : nf_i_SameEnd CC LL a0 a1 a2 b0 b1 b2 = some R) : CC f_i_SameEnd [AVal.v (CVal.agg [CVal.int IntKind.i64 a0, CVal.int IntKind.i64 a1, CVal.str a2]),
  AVal.v (CVal.agg [CVal.int IntKind.i64 b0, CVal.int IntKind.i64 b1, CVal.str b2])] [] = some R := fnW (by decide) ((eq_i_SameEnd CC LL a0 a1 a2 b0 b1 b2).trans h)
noncomputable def nf_s_TyOk (C : CallT) (L : LoopT) (a0 : Int) (a1 : Int) (a2 : List CVal) : Option Ret :=
  (C f_s_l1Look
        [AVal.v (CVal.agg [CVal.int IntKind.i64 a0, CVal.int IntKind.i64 a1, CVal.sl a2]),
          AVal.v (CVal.int IntKind.i64 (6 : Int)), AVal.lptr (0 : Nat) (0 : Nat)]
        [PB.mk false (0 : Nat) [CVal.int IntKind.i64 (0 : Int)]]).bind
    fun r => r.2[(0 : Nat)]?.bind fun y => br (y.length == (1 : Nat)) (y[(0 : Nat)]?.bind fun y => some (r.1, [])) none
theorem eq_s_TyOk (C : CallT) (L : LoopT) (a0 : Int) (a1 : Int) (a2 : List CVal) : evF E N C L f_s_TyOk [AVal.v (CVal.agg [CVal.int IntKind.i64 a0, CVal.int IntKind.i64 a1, CVal.sl a2])] [] = nf_s_TyOk C L a0 a1 a2 := by kernel_rfl
theorem go_s_TyOk (a0 : Int) (a1 : Int) (a2 : List CVal) (R : Ret) (h : nf_s_TyOk CC LL a0 a1 a2 = some R) : CC f_s_TyOk [AVal.v (CVal.agg [CVal.int IntKind.i64 a0, CVal.int IntKind.i64 a1, CVal.sl a2])] [] = some R := fnW (by decide) ((eq_s_TyOk CC LL a0 a1 a2).trans h)
noncomputable def nf_s_TyNodes (C : CallT) (L : LoopT) (a0 : Int) (a1 : Int) (a2 : List CVal) : Option Ret :=
  (C f_s_l1Look
        [AVal.v (CVal.agg [CVal.int IntKind.i64 a0, CVal.int IntKind.i64 a1, CVal.sl a2]),
          AVal.v (CVal.int IntKind.i64 (6 : Int)), AVal.lptr (0 : Nat) (0 : Nat)]
        [PB.mk false (0 : Nat) [CVal.int IntKind.i64 (0 : Int)]]).bind
    fun r =>
    r.2[(0 : Nat)]?.bind fun y =>
      br (y.length == (1 : Nat))
        (y[(0 : Nat)]?.bind fun y =>
          r.1.asBool.bind fun b => br (!b) (some (CVal.int IntKind.i64 (0 : Int), [])) (some (y, [])))
        none
theorem eq_s_TyNodes (C : CallT) (L : LoopT) (a0 : Int) (a1 : Int) (a2 : List CVal) : evF E N C L f_s_TyNodes [AVal.v (CVal.agg [CVal.int IntKind.i64 a0, CVal.int IntKind.i64 a1, CVal.sl a2])] [] = nf_s_TyNodes C L a0 a1 a2 := by kernel_rfl
theorem go_s_TyNodes (a0 : Int) (a1 : Int) (a2 : List CVal) (R : Ret) (h : nf_s_TyNodes CC LL a0 a1 a2 = some R) : CC f_s_TyNodes [AVal.v (CVal.agg [CVal.int IntKind.i64 a0, CVal.int IntKind.i64 a1, CVal.sl a2])] [] = some R := fnW (by decide) ((eq_s_TyNodes CC LL a0 a1 a2).trans h)
noncomputable def nf_l_toIns (C : CallT) (L : LoopT) (a0 : Int) (a1 : Int) (a2 : Int) (a3 : Int) (a4 : Int) (a5 : List CVal) (a6 : Int) : Option Ret :=
  (C f_l_toIntS [AVal.v (CVal.sl a5)] []).bind fun r =>
    br (r.1.isFlat && true)
      (some
        (CVal.agg
            [CVal.int IntKind.i64 a0, CVal.int IntKind.i64 a1, CVal.int IntKind.i64 a2, CVal.int IntKind.i64 a3,
              CVal.int IntKind.i64 a4, r.1, CVal.int IntKind.i64 a6],
          []))
      none
theorem eq_l_toIns (C : CallT) (L : LoopT) (a0 : Int) (a1 : Int) (a2 : Int) (a3 : Int) (a4 : Int) (a5 : List CVal) (a6 : Int) : evF E N C L f_l_toIns [AVal.v
    (CVal.agg
      [CVal.int IntKind.i64 a0, CVal.int IntKind.i64 a1, CVal.int IntKind.i64 a2, CVal.int IntKind.i64 a3,
        CVal.int IntKind.i64 a4, CVal.sl a5, CVal.int IntKind.i64 a6])] [] = nf_l_toIns C L a0 a1 a2 a3 a4 a5 a6 := by kernel_rfl
theorem go_l_toIns (a0 : Int) (a1 : Int) (a2 : Int) (a3 : Int) (a4 : Int) (a5 : List CVal) (a6 : Int) (R : Ret) (h : nf_l_toIns CC LL a0 a1 a2 a3 a4 a5 a6 = some R) : CC f_l_toIns [AVal.v
    (CVal.agg
      [CVal.int IntKind.i64 a0, CVal.int IntKind.i64 a1, CVal.int IntKind.i64 a2, CVal.int IntKind.i64 a3,
        CVal.int IntKind.i64 a4, CVal.sl a5, CVal.int IntKind.i64 a6])] [] = some R := fnW (by decide) ((eq_l_toIns CC LL a0 a1 a2 a3 a4 a5 a6).trans h)
noncomputable def nf_l_eqIns (C : CallT) (L : LoopT) (a0 : Int) (a1 : Int) (a2 : Int) (a3 : Int) (a4 : Int) (a5 : List CVal) (a6 : Int) (b0 : Int) (b1 : Int) (b2 : Int) (b3 : Int) (b4 : Int) (b5 : List CVal) (b6 : Int) : Option Ret :=
  br (!decide (a0 = b0)) (some (CVal.bool false, []))
    (br (!decide (a1 = b1)) (some (CVal.bool false, []))
      (br (!decide (a2 = b2)) (some (CVal.bool false, []))
        (br (!decide (a3 = b3)) (some (CVal.bool false, []))
          (br (!decide (a4 = b4)) (some (CVal.bool false, []))
            ((C f_l_eqIntS [AVal.v (CVal.sl a5), AVal.v (CVal.sl b5)] []).bind fun r =>
              r.1.asBool.bind fun b =>
                br (!b) (some (CVal.bool false, []))
                  (br (!decide (a6 = b6)) (some (CVal.bool false, [])) (some (CVal.bool true, []))))))))
theorem eq_l_eqIns (C : CallT) (L : LoopT) (a0 : Int) (a1 : Int) (a2 : Int) (a3 : Int) (a4 : Int) (a5 : List CVal) (a6 : Int) (b0 : Int) (b1 : Int) (b2 : Int) (b3 : Int) (b4 : Int) (b5 : List CVal) (b6 : Int) : evF E N C L f_l_eqIns [AVal.v
    (CVal.agg
      [CVal.int IntKind.i64 a0, CVal.int IntKind.i64 a1, CVal.int IntKind.i64 a2, CVal.int IntKind.i64 a3,
        CVal.int IntKind.i64 a4, CVal.sl a5, CVal.int IntKind.i64 a6]),
  AVal.v
    (CVal.agg
      [CVal.int IntKind.i64 b0, CVal.int IntKind.i64 b1, CVal.int IntKind.i64 b2, CVal.int IntKind.i64 b3,
        CVal.int IntKind.i64 b4, CVal.sl b5, CVal.int IntKind.i64 b6])] [] = nf_l_eqIns C L a0 a1 a2 a3 a4 a5 a6 b0 b1 b2 b3 b4 b5 b6 := by kernel_rfl
theorem go_l_eqIns (a0 : Int) (a1 : Int) (a2 : Int) (a3 : Int) (a4 : Int) (a5 : List CVal) (a6 : Int) (b0 : Int) (b1 : Int) (b2 : Int) (b3 : Int) (b4 : Int) (b5 : List CVal) (b6 : Int) (R : Ret) (h : nf_l_eqIns CC LL a0 a1 a2 a3 a4 a5 a6 b0 b1 b2 b3 b4 b5 b6 = some R) : CC f_l_eqIns [AVal.v
    (CVal.agg
      [CVal.int IntKind.i64 a0, CVal.int IntKind.i64 a1, CVal.int IntKind.i64 a2, CVal.int IntKind.i64 a3,
        CVal.int IntKind.i64 a4, CVal.sl a5, CVal.int IntKind.i64 a6]),
  AVal.v
    (CVal.agg
      [CVal.int IntKind.i64 b0, CVal.int IntKind.i64 b1, CVal.int IntKind.i64 b2, CVal.int IntKind.i64 b3,
        CVal.int IntKind.i64 b4, CVal.sl b5, CVal.int IntKind.i64 b6])] [] = some R := fnW (by decide) ((eq_l_eqIns CC LL a0 a1 a2 a3 a4 a5 a6 b0 b1 b2 b3 b4 b5 b6).trans h)
noncomputable def nf_s_l1Look (C : CallT) (L : LoopT) (a0 : Int) (a1 : Int) (a2 : List CVal) (b : Int) (c : Int) : Option Ret :=
  (br (decide (b = (0 : Int))) (some (true, PUnit.unit))
        (br (decide ((60 : Int) < IntKind.i64.wrap (c + (1 : Int)))) (some (true, PUnit.unit))
          ((C f_s_l1Args [AVal.v (CVal.int IntKind.i64 a0)] []).bind fun r =>
            (CVal.asInt IntKind.i64 r.1).bind fun n =>
              br (!decide ((↑a2.length : Int) = n)) (some (true, PUnit.unit))
                (br (decide (a0 = (3 : Int)))
                  ((C f_s_l1In
                        [AVal.v (CVal.int IntKind.i64 a1), AVal.v (CVal.int IntKind.i64 (0 : Int)),
                          AVal.v (CVal.int IntKind.i64 (1 : Int))]
                        []).bind
                    fun r =>
                    r.1.asBool.bind fun b =>
                      br (!b) (some (true, PUnit.unit))
                        (br (!decide (a0 = (3 : Int))) (some (!decide (a1 = (0 : Int)), PUnit.unit))
                          (some (false, PUnit.unit))))
                  (br (!decide (a0 = (3 : Int))) (some (!decide (a1 = (0 : Int)), PUnit.unit))
                    (some (false, PUnit.unit))))))).bind
    fun y =>
    br y.1 (some (CVal.bool false, [[CVal.int IntKind.i64 (IntKind.i64.wrap (c + (1 : Int)))]]))
      ((L f_s_l1Look (0 : Nat) lc_s_l1Look_0 [none] k_s_l1Look_0
            ((b, PUnit.unit, PUnit.unit, (0 : Int), PUnit.unit), (IntKind.i64.wrap (c + (1 : Int)), PUnit.unit),
              (a0, a1, a2, PUnit.unit), PUnit.unit)).bind
        fun r =>
        loK r (fun r => some r) fun j p =>
          br (j == (0 : Nat)) (some (CVal.bool true, [[CVal.int IntKind.i64 p.snd.fst.1]])) none)
theorem eq_s_l1Look (C : CallT) (L : LoopT) (a0 : Int) (a1 : Int) (a2 : List CVal) (b : Int) (c : Int) : evF E N C L f_s_l1Look [AVal.v (CVal.agg [CVal.int IntKind.i64 a0, CVal.int IntKind.i64 a1, CVal.sl a2]), AVal.v (CVal.int IntKind.i64 b),
  AVal.lptr (0 : Nat) (0 : Nat)] [PB.mk false (0 : Nat) [CVal.int IntKind.i64 c]] = nf_s_l1Look C L a0 a1 a2 b c := by kernel_rfl
theorem go_s_l1Look (a0 : Int) (a1 : Int) (a2 : List CVal) (b : Int) (c : Int) (R : Ret) (h : nf_s_l1Look CC LL a0 a1 a2 b c = some R) : CC f_s_l1Look [AVal.v (CVal.agg [CVal.int IntKind.i64 a0, CVal.int IntKind.i64 a1, CVal.sl a2]), AVal.v (CVal.int IntKind.i64 b),
  AVal.lptr (0 : Nat) (0 : Nat)] [PB.mk false (0 : Nat) [CVal.int IntKind.i64 c]] = some R := fnW (by decide) ((eq_s_l1Look CC LL a0 a1 a2 b c).trans h)
noncomputable def nf_l_szIntS (C : CallT) (L : LoopT) (a : List CVal) (b : Int) : Option Ret :=
  br (decide (IntKind.i64.wrap (b - (↑a.length : Int)) < (0 : Int))) (some (CVal.int IntKind.i64 (-1 : Int), []))
    (some (CVal.int IntKind.i64 (IntKind.i64.wrap (b - (↑a.length : Int))), []))
theorem eq_l_szIntS (C : CallT) (L : LoopT) (a : List CVal) (b : Int) : evF E N C L f_l_szIntS [AVal.v (CVal.sl a), AVal.v (CVal.int IntKind.i64 b)] [] = nf_l_szIntS C L a b := by kernel_rfl
theorem go_l_szIntS (a : List CVal) (b : Int) (R : Ret) (h : nf_l_szIntS CC LL a b = some R) : CC f_l_szIntS [AVal.v (CVal.sl a), AVal.v (CVal.int IntKind.i64 b)] [] = some R := fnW (by decide) ((eq_l_szIntS CC LL a b).trans h)
noncomputable def nf_i_hasPart (C : CallT) (L : LoopT) (a : Int) (b : Int) : Option Ret :=
  (C f_i_insForm [AVal.v (CVal.int IntKind.i64 a)] []).bind fun r =>
    r.1.asTup.bind fun y =>
      y[(0 : Nat)]?.bind fun y =>
        r.1.asTup.bind fun y_1 =>
          y_1[(1 : Nat)]?.bind fun y_2 =>
            y.asStr.bind fun s =>
              br (decide (s.length ≤ (4294967296 : Nat)))
                ((C f_slices_Contains_byte [AVal.v (CVal.sl (bytesC s)), AVal.v (CVal.int IntKind.u8 b)] []).bind fun r =>
                  some (r.1, []))
                none
theorem eq_i_hasPart (C : CallT) (L : LoopT) (a : Int) (b : Int) : evF E N C L f_i_hasPart [AVal.v (CVal.int IntKind.i64 a), AVal.v (CVal.int IntKind.u8 b)] [] = nf_i_hasPart C L a b := by kernel_rfl
theorem go_i_hasPart (a : Int) (b : Int) (R : Ret) (h : nf_i_hasPart CC LL a b = some R) : CC f_i_hasPart [AVal.v (CVal.int IntKind.i64 a), AVal.v (CVal.int IntKind.u8 b)] [] = some R := fnW (by decide) ((eq_i_hasPart CC LL a b).trans h)
noncomputable def nf_s_l1In (C : CallT) (L : LoopT) (a : Int) (b : Int) (c : Int) : Option Ret :=
  (br (decide (b ≤ a)) (some (decide (a ≤ c), PUnit.unit)) (some (false, PUnit.unit))).bind fun y =>
    some (CVal.bool y.1, [])
theorem eq_s_l1In (C : CallT) (L : LoopT) (a : Int) (b : Int) (c : Int) : evF E N C L f_s_l1In [AVal.v (CVal.int IntKind.i64 a), AVal.v (CVal.int IntKind.i64 b), AVal.v (CVal.int IntKind.i64 c)] [] = nf_s_l1In C L a b c := by kernel_rfl
theorem go_s_l1In (a : Int) (b : Int) (c : Int) (R : Ret) (h : nf_s_l1In CC LL a b c = some R) : CC f_s_l1In [AVal.v (CVal.int IntKind.i64 a), AVal.v (CVal.int IntKind.i64 b), AVal.v (CVal.int IntKind.i64 c)] [] = some R := fnW (by decide) ((eq_s_l1In CC LL a b c).trans h)
noncomputable def nf_slices_Contains_byte (C : CallT) (L : LoopT) (a : List CVal) (b : Int) : Option Ret :=
  (C f_slices_Index_byte [AVal.v (CVal.sl a), AVal.v (CVal.int IntKind.u8 b)] []).bind fun r =>
    (CVal.asInt IntKind.i64 r.1).bind fun n => some (CVal.bool (decide ((0 : Int) ≤ n)), [])
theorem eq_slices_Contains_byte (C : CallT) (L : LoopT) (a : List CVal) (b : Int) : evF E N C L f_slices_Contains_byte [AVal.v (CVal.sl a), AVal.v (CVal.int IntKind.u8 b)] [] = nf_slices_Contains_byte C L a b := by kernel_rfl
theorem go_slices_Contains_byte (a : List CVal) (b : Int) (R : Ret) (h : nf_slices_Contains_byte CC LL a b = some R) : CC f_slices_Contains_byte [AVal.v (CVal.sl a), AVal.v (CVal.int IntKind.u8 b)] [] = some R := fnW (by decide) ((eq_slices_Contains_byte CC LL a b).trans h)
noncomputable def nl_l_toTyS_0 (C : CallT) (L : LoopT) (x00 : List CVal) (x02 : Int) (x1 : List CVal) : Option (LO k_l_toTyS_0.T) :=
  br (decide (x02 < (↑x00.length : Int)))
    (br (decide ((0 : Int) ≤ x02) && true)
      (x00[x02.toNat]?.bind fun y =>
        br (CVal.fits true (3 : Nat) y)
          ((y.sub (0 : Nat) (3 : Nat)).bind fun y =>
            (C f_l_toTy [AVal.v y] []).bind fun r =>
              br (decide ((0 : Int) ≤ x02) && true)
                (br (decide (x02.toNat < x1.length) && true)
                  (x1[x02.toNat]?.bind fun y =>
                    br (CVal.fits true (3 : Nat) r.1)
                      (br (CVal.fits true (3 : Nat) y)
                        (L f_l_toTyS (0 : Nat) lc_l_toTyS_0 [] k_l_toTyS_0
                          ((x00, PUnit.unit, IntKind.i64.wrap (x02 + (1 : Int)), PUnit.unit), x1.set x02.toNat r.1,
                            PUnit.unit))
                        (br (y.isAgg && decide ((0 : Nat) + r.1.cells.length ≤ y.cells.length))
                          (L f_l_toTyS (0 : Nat) lc_l_toTyS_0 [] k_l_toTyS_0
                            ((x00, PUnit.unit, IntKind.i64.wrap (x02 + (1 : Int)), PUnit.unit),
                              x1.set x02.toNat (CVal.agg (splice y.cells (0 : Nat) r.1.cells)), PUnit.unit))
                          none))
                      none)
                  none)
                none)
          none)
      none)
    (some (LO.out (0 : Nat) ((x00, PUnit.unit, x02, PUnit.unit), x1, PUnit.unit)))
theorem el_l_toTyS_0 (C : CallT) (L : LoopT) (x00 : List CVal) (x02 : Int) (x1 : List CVal) : evL E N C L f_l_toTyS 0 lc_l_toTyS_0 [] k_l_toTyS_0 ((x00, (), x02, ()), x1, ()) = nl_l_toTyS_0 C L x00 x02 x1 := by kernel_rfl
theorem gl_l_toTyS_0 (x00 : List CVal) (x02 : Int) (x1 : List CVal) (R : LO k_l_toTyS_0.T) (h : nl_l_toTyS_0 CC LL x00 x02 x1 = some R) : LL f_l_toTyS 0 lc_l_toTyS_0 [] k_l_toTyS_0 ((x00, (), x02, ()), x1, ()) = some R := loopW ((el_l_toTyS_0 CC LL x00 x02 x1).trans h)
noncomputable def nl_l_eqTyS_0 (C : CallT) (L : LoopT) (x00 : List CVal) (x01 : List CVal) (x02 : Int) : Option (LO k_l_eqTyS_0.T) :=
  br (decide (x02 < (↑x00.length : Int)))
    (br (decide ((0 : Int) ≤ x02) && true)
      (x00[x02.toNat]?.bind fun y =>
        br (CVal.fits true (3 : Nat) y)
          ((y.sub (0 : Nat) (3 : Nat)).bind fun y =>
            br (decide ((0 : Int) ≤ x02) && true)
              (x01[x02.toNat]?.bind fun y_1 =>
                br (CVal.fits true (3 : Nat) y_1)
                  ((y_1.sub (0 : Nat) (3 : Nat)).bind fun y_2 =>
                    (C f_l_eqTy [AVal.v y, AVal.v y_2] []).bind fun r =>
                      r.1.asBool.bind fun b =>
                        br (!b) (some (LO.ret (CVal.bool false, [])))
                          (L f_l_eqTyS (0 : Nat) lc_l_eqTyS_0 [] k_l_eqTyS_0
                            ((x00, x01, IntKind.i64.wrap (x02 + (1 : Int)), PUnit.unit), PUnit.unit)))
                  none)
              none)
          none)
      none)
    (some (LO.out (0 : Nat) ((x00, x01, x02, PUnit.unit), PUnit.unit)))
theorem el_l_eqTyS_0 (C : CallT) (L : LoopT) (x00 : List CVal) (x01 : List CVal) (x02 : Int) : evL E N C L f_l_eqTyS 0 lc_l_eqTyS_0 [] k_l_eqTyS_0 ((x00, x01, x02, ()), ()) = nl_l_eqTyS_0 C L x00 x01 x02 := by kernel_rfl
theorem gl_l_eqTyS_0 (x00 : List CVal) (x01 : List CVal) (x02 : Int) (R : LO k_l_eqTyS_0.T) (h : nl_l_eqTyS_0 CC LL x00 x01 x02 = some R) : LL f_l_eqTyS 0 lc_l_eqTyS_0 [] k_l_eqTyS_0 ((x00, x01, x02, ()), ()) = some R := loopW ((el_l_eqTyS_0 CC LL x00 x01 x02).trans h)
noncomputable def nl_slices_Index_byte_0 (C : CallT) (L : LoopT) (x00 : List CVal) (x01 : Int) (x02 : Int) (x03 : Int) : Option (LO k_slices_Index_byte_0.T) :=
  br (decide (x03 < x02))
    (br (decide ((0 : Int) ≤ x03) && true)
      (x00[x03.toNat]?.bind fun y =>
        br (CVal.fits false (1 : Nat) y)
          ((y.cell (0 : Nat)).bind fun c =>
            (CVal.asInt IntKind.u8 c).bind fun n =>
              br (decide (x01 = n)) (some (LO.ret (CVal.int IntKind.i64 x03, [])))
                (L f_slices_Index_byte (0 : Nat) lc_slices_Index_byte_0 [] k_slices_Index_byte_0
                  ((x00, x01, x02, IntKind.i64.wrap (x03 + (1 : Int)), PUnit.unit), PUnit.unit)))
          none)
      none)
    (some (LO.out (0 : Nat) ((x00, x01, x02, x03, PUnit.unit), PUnit.unit)))
theorem el_slices_Index_byte_0 (C : CallT) (L : LoopT) (x00 : List CVal) (x01 : Int) (x02 : Int) (x03 : Int) : evL E N C L f_slices_Index_byte 0 lc_slices_Index_byte_0 [] k_slices_Index_byte_0 ((x00, x01, x02, x03, ()), ()) = nl_slices_Index_byte_0 C L x00 x01 x02 x03 := by kernel_rfl
theorem gl_slices_Index_byte_0 (x00 : List CVal) (x01 : Int) (x02 : Int) (x03 : Int) (R : LO k_slices_Index_byte_0.T) (h : nl_slices_Index_byte_0 CC LL x00 x01 x02 x03 = some R) : LL f_slices_Index_byte 0 lc_slices_Index_byte_0 [] k_slices_Index_byte_0 ((x00, x01, x02, x03, ()), ()) = some R := loopW ((el_slices_Index_byte_0 CC LL x00 x01 x02 x03).trans h)
end Go.Proofs.Ytlgonbonnjkekaa.Abs
