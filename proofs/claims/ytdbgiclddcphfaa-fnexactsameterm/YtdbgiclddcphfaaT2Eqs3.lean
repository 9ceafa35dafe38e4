/- What the functions come to in the abstract machine. -/
import Derived.Test.YtdbgiclddcphfaaT2Ann
import Derived.KernelRfl
set_option linter.unusedVariables false
set_option maxRecDepth 100000
namespace Go.Proofs.Ytdbgiclddcphfaa.Abs
open Go Go.Proofs
noncomputable def nf_l_FnExactGuard (C : CallT) (L : LoopT) (a0 : Int) (a1 : Int) (a2 : Int) (a3 : List CVal) (b : Int) : Option Ret :=
  (C f_l_szPiece
        [AVal.v (CVal.agg [CVal.int IntKind.i64 a0, CVal.int IntKind.i64 a1, CVal.int IntKind.i64 a2, CVal.sl a3]),
          AVal.v (CVal.int IntKind.i64 (1048576 : Int))]
        []).bind
    fun r =>
    (CVal.asInt IntKind.i64 r.1).bind fun n =>
      br (decide (n < (0 : Int))) (some (CVal.bool true, []))
        ((C f_l_toPiece
              [AVal.v (CVal.agg [CVal.int IntKind.i64 a0, CVal.int IntKind.i64 a1, CVal.int IntKind.i64 a2, CVal.sl a3])]
              []).bind
          fun r =>
          (C f_s_Guard [AVal.v r.1, AVal.v (CVal.int IntKind.i64 b)] []).bind fun r =>
            (C f_l_toPiece
                  [AVal.v
                      (CVal.agg [CVal.int IntKind.i64 a0, CVal.int IntKind.i64 a1, CVal.int IntKind.i64 a2, CVal.sl a3])]
                  []).bind
              fun r_1 =>
              br (CVal.isAggN (4 : Nat) r_1.1)
                ((r_1.1.cell (0 : Nat)).bind fun c =>
                  (r_1.1.cell (1 : Nat)).bind fun c_1 =>
                    (r_1.1.cell (2 : Nat)).bind fun c_2 =>
                      (r_1.1.cell (3 : Nat)).bind fun c_3 =>
                        (C f_i_Guard [AVal.v (CVal.agg [c, c_1, c_2, c_3]), AVal.v (CVal.int IntKind.i64 b)] []).bind
                          fun r_2 =>
                          (CVal.asInt IntKind.i64 r_2.1).bind fun n =>
                            (CVal.asInt IntKind.i64 r.1).bind fun n_1 =>
                              br (!decide (n = n_1)) (some (CVal.bool false, []))
                                ((C f_l_toPiece
                                      [AVal.v
                                          (CVal.agg
                                            [CVal.int IntKind.i64 a0, CVal.int IntKind.i64 a1, CVal.int IntKind.i64 a2,
                                              CVal.sl a3])]
                                      []).bind
                                  fun r =>
                                  (C f_l_eqPiece [AVal.v (CVal.agg [c, c_1, c_2, c_3]), AVal.v r.1] []).bind fun r =>
                                    r.1.asBool.bind fun b =>
                                      br (!b) (some (CVal.bool false, [])) (some (CVal.bool true, []))))
                none)
theorem eq_l_FnExactGuard (C : CallT) (L : LoopT) (a0 : Int) (a1 : Int) (a2 : Int) (a3 : List CVal) (b : Int) : evF E N C L f_l_FnExactGuard [AVal.v (CVal.agg [CVal.int IntKind.i64 a0, CVal.int IntKind.i64 a1, CVal.int IntKind.i64 a2, CVal.sl a3]),
  AVal.v (CVal.int IntKind.i64 b)] [] = nf_l_FnExactGuard C L a0 a1 a2 a3 b := by kernel_rfl
theorem go_l_FnExactGuard (a0 : Int) (a1 : Int) (a2 : Int) (a3 : List CVal) (b : Int) (R : Ret) (h : nf_l_FnExactGuard CC LL a0 a1 a2 a3 b = some R) : CC f_l_FnExactGuard [AVal.v (CVal.agg [CVal.int IntKind.i64 a0, CVal.int IntKind.i64 a1, CVal.int IntKind.i64 a2, CVal.sl a3]),
  AVal.v (CVal.int IntKind.i64 b)] [] = some R := fnW (by decide) ((eq_l_FnExactGuard CC LL a0 a1 a2 a3 b).trans h)
noncomputable def nf_l_toTy (C : CallT) (L : LoopT) (a0 : Int) (a1 : Int) (a2 : List CVal) : Option Ret :=
  (C f_l_toTyS [AVal.v (CVal.sl a2)] []).bind fun r =>
    br (r.1.isFlat && true) (some (CVal.agg [CVal.int IntKind.i64 a0, CVal.int IntKind.i64 a1, r.1], [])) none
theorem eq_l_toTy (C : CallT) (L : LoopT) (a0 : Int) (a1 : Int) (a2 : List CVal) : evF E N C L f_l_toTy [AVal.v (CVal.agg [CVal.int IntKind.i64 a0, CVal.int IntKind.i64 a1, CVal.sl a2])] [] = nf_l_toTy C L a0 a1 a2 := by kernel_rfl
theorem go_l_toTy (a0 : Int) (a1 : Int) (a2 : List CVal) (R : Ret) (h : nf_l_toTy CC LL a0 a1 a2 = some R) : CC f_l_toTy [AVal.v (CVal.agg [CVal.int IntKind.i64 a0, CVal.int IntKind.i64 a1, CVal.sl a2])] [] = some R := fnW (by decide) ((eq_l_toTy CC LL a0 a1 a2).trans h)
noncomputable def nf_s_IsValue (C : CallT) (L : LoopT) (a0 : Int) (a1 : Int) (a2 : List UInt8) (a3 : List UInt8) (a40 : Int) (a41 : Int) (a42 : List CVal) (a5 : List CVal) (a6 : List CVal) : Option Ret :=
  (br (decide (a0 = (1 : Int))) (some (true, PUnit.unit))
        (br (decide (a0 = (2 : Int))) (some (true, PUnit.unit))
          (br (decide (a0 = (3 : Int))) (some (true, PUnit.unit))
            (br (decide (a0 = (4 : Int))) (some (true, PUnit.unit)) (some (decide (a0 = (12 : Int)), PUnit.unit)))))).bind
    fun y => some (CVal.bool y.1, [])
theorem eq_s_IsValue (C : CallT) (L : LoopT) (a0 : Int) (a1 : Int) (a2 : List UInt8) (a3 : List UInt8) (a40 : Int) (a41 : Int) (a42 : List CVal) (a5 : List CVal) (a6 : List CVal) : evF E N C L f_s_IsValue [AVal.v
    (CVal.agg
      [CVal.int IntKind.i64 a0, CVal.int IntKind.i64 a1, CVal.str a2, CVal.str a3, CVal.int IntKind.i64 a40,
        CVal.int IntKind.i64 a41, CVal.sl a42, CVal.sl a5, CVal.sl a6])] [] = nf_s_IsValue C L a0 a1 a2 a3 a40 a41 a42 a5 a6 := by kernel_rfl
theorem go_s_IsValue (a0 : Int) (a1 : Int) (a2 : List UInt8) (a3 : List UInt8) (a40 : Int) (a41 : Int) (a42 : List CVal) (a5 : List CVal) (a6 : List CVal) (R : Ret) (h : nf_s_IsValue CC LL a0 a1 a2 a3 a40 a41 a42 a5 a6 = some R) : CC f_s_IsValue [AVal.v
    (CVal.agg
      [CVal.int IntKind.i64 a0, CVal.int IntKind.i64 a1, CVal.str a2, CVal.str a3, CVal.int IntKind.i64 a40,
        CVal.int IntKind.i64 a41, CVal.sl a42, CVal.sl a5, CVal.sl a6])] [] = some R := fnW (by decide) ((eq_s_IsValue CC LL a0 a1 a2 a3 a40 a41 a42 a5 a6).trans h)
noncomputable def nf_s_SameTerm (C : CallT) (L : LoopT) (a0 : Int) (a1 : Int) (a2 : List UInt8) (a3 : List UInt8) (a40 : Int) (a41 : Int) (a42 : List CVal) (a5 : List CVal) (a6 : List CVal) (b0 : Int) (b1 : Int) (b2 : List UInt8) (b3 : List UInt8) (b40 : Int) (b41 : Int) (b42 : List CVal) (b5 : List CVal) (b6 : List CVal) : Option Ret :=
  (br (!decide (a0 = b0)) (some (true, PUnit.unit))
        (br (!decide (a1 = b1)) (some (true, PUnit.unit))
          (br (!decide (a2 = b2)) (some (true, PUnit.unit))
            (br (!decide (a3 = b3)) (some (true, PUnit.unit))
              ((C f_s_SameTy
                    [AVal.v (CVal.agg [CVal.int IntKind.i64 a40, CVal.int IntKind.i64 a41, CVal.sl a42]),
                      AVal.v (CVal.agg [CVal.int IntKind.i64 b40, CVal.int IntKind.i64 b41, CVal.sl b42])]
                    []).bind
                fun r =>
                r.1.asBool.bind fun b =>
                  br (!b) (some (true, PUnit.unit))
                    (br (!decide ((↑a5.length : Int) = (↑b5.length : Int))) (some (true, PUnit.unit))
                      (some (!decide ((↑a6.length : Int) = (↑b6.length : Int)), PUnit.unit)))))))).bind
    fun y =>
    br y.1 (some (CVal.bool false, []))
      ((L f_s_SameTerm (0 : Nat) lc_s_SameTerm_0 [] k_s_SameTerm_0
            ((PUnit.unit, PUnit.unit, (0 : Int), PUnit.unit), (a0, a1, a2, a3, a40, a41, a42, a5, a6, PUnit.unit),
              (b0, b1, b2, b3, b40, b41, b42, b5, b6, PUnit.unit), PUnit.unit)).bind
        fun r =>
        loK r (fun r => some r) fun j p =>
          br (j == (0 : Nat))
            ((L f_s_SameTerm (2 : Nat) lc_s_SameTerm_2 [] k_s_SameTerm_2
                  ((PUnit.unit, PUnit.unit, (0 : Int), PUnit.unit),
                    (p.snd.fst.1, p.snd.fst.snd.1, p.snd.fst.snd.snd.1, p.snd.fst.snd.snd.snd.1,
                      p.snd.fst.snd.snd.snd.snd.1, p.snd.fst.snd.snd.snd.snd.snd.1, p.snd.fst.snd.snd.snd.snd.snd.snd.1,
                      p.snd.fst.snd.snd.snd.snd.snd.snd.snd.1, p.snd.fst.snd.snd.snd.snd.snd.snd.snd.snd.1, PUnit.unit),
                    (p.snd.snd.fst.1, p.snd.snd.fst.snd.1, p.snd.snd.fst.snd.snd.1, p.snd.snd.fst.snd.snd.snd.1,
                      p.snd.snd.fst.snd.snd.snd.snd.1, p.snd.snd.fst.snd.snd.snd.snd.snd.1,
                      p.snd.snd.fst.snd.snd.snd.snd.snd.snd.1, p.snd.snd.fst.snd.snd.snd.snd.snd.snd.snd.1,
                      p.snd.snd.fst.snd.snd.snd.snd.snd.snd.snd.snd.1, PUnit.unit),
                    PUnit.unit)).bind
              fun r => loK r (fun r => some r) fun j p => br (j == (2 : Nat)) (some (CVal.bool true, [])) none)
            none)
theorem eq_s_SameTerm (C : CallT) (L : LoopT) (a0 : Int) (a1 : Int) (a2 : List UInt8) (a3 : List UInt8) (a40 : Int) (a41 : Int) (a42 : List CVal) (a5 : List CVal) (a6 : List CVal) (b0 : Int) (b1 : Int) (b2 : List UInt8) (b3 : List UInt8) (b40 : Int) (b41 : Int) (b42 : List CVal) (b5 : List CVal) (b6 : List CVal) : evF E N C L f_s_SameTerm [AVal.v
    (CVal.agg
      [CVal.int IntKind.i64 a0, CVal.int IntKind.i64 a1, CVal.str a2, CVal.str a3, CVal.int IntKind.i64 a40,
        CVal.int IntKind.i64 a41, CVal.sl a42, CVal.sl a5, CVal.sl a6]),
  AVal.v
    (CVal.agg
      [CVal.int IntKind.i64 b0, CVal.int IntKind.i64 b1, CVal.str b2, CVal.str b3, CVal.int IntKind.i64 b40,
        CVal.int IntKind.i64 b41, CVal.sl b42, CVal.sl b5, CVal.sl b6])] [] = nf_s_SameTerm C L a0 a1 a2 a3 a40 a41 a42 a5 a6 b0 b1 b2 b3 b40 b41 b42 b5 b6 := by kernel_rfl
theorem go_s_SameTerm (a0 : Int) (a1 : Int) (a2 : List UInt8) (a3 : List UInt8) (a40 : Int) (a41 : Int) (a42 : List CVal) (a5 : List CVal) (a6 : List CVal) (b0 : Int) (b1 : Int) (b2 : List UInt8) (b3 : List UInt8) (b40 : Int) (b41 : Int) (b42 : List CVal) (b5 : List CVal) (b6 : List CVal) (R : Ret) (h : nf_s_SameTerm CC LL a0 a1 a2 a3 a40 a41 a42 a5 a6 b0 b1 b2 b3 b40 b41 b42 b5 b6 = some R) : CC f_s_SameTerm [AVal.v
    (CVal.agg
      [CVal.int IntKind.i64 a0, CVal.int IntKind.i64 a1, CVal.str a2, CVal.str a3, CVal.int IntKind.i64 a40,
        CVal.int IntKind.i64 a41, CVal.sl a42, CVal.sl a5, CVal.sl a6]),
  AVal.v
    (CVal.agg
      [CVal.int IntKind.i64 b0, CVal.int IntKind.i64 b1, CVal.str b2, CVal.str b3, CVal.int IntKind.i64 b40,
        CVal.int IntKind.i64 b41, CVal.sl b42, CVal.sl b5, CVal.sl b6])] [] = some R := fnW (by decide) ((eq_s_SameTerm CC LL a0 a1 a2 a3 a40 a41 a42 a5 a6 b0 b1 b2 b3 b40 b41 b42 b5 b6).trans h)
noncomputable def nf_s_TermOk (C : CallT) (L : LoopT) (a0 : Int) (a1 : Int) (a2 : List UInt8) (a3 : List UInt8) (a40 : Int) (a41 : Int) (a42 : List CVal) (a5 : List CVal) (a6 : List CVal) : Option Ret :=
  (C f_s_l2Look
        [AVal.v
            (CVal.agg
              [CVal.int IntKind.i64 a0, CVal.int IntKind.i64 a1, CVal.str a2, CVal.str a3, CVal.int IntKind.i64 a40,
                CVal.int IntKind.i64 a41, CVal.sl a42, CVal.sl a5, CVal.sl a6]),
          AVal.v (CVal.int IntKind.i64 (24 : Int)), AVal.lptr (0 : Nat) (0 : Nat)]
        [PB.mk false (0 : Nat) [CVal.int IntKind.i64 (0 : Int)]]).bind
    fun r => r.2[(0 : Nat)]?.bind fun y => br (y.length == (1 : Nat)) (y[(0 : Nat)]?.bind fun y => some (r.1, [])) none
theorem eq_s_TermOk (C : CallT) (L : LoopT) (a0 : Int) (a1 : Int) (a2 : List UInt8) (a3 : List UInt8) (a40 : Int) (a41 : Int) (a42 : List CVal) (a5 : List CVal) (a6 : List CVal) : evF E N C L f_s_TermOk [AVal.v
    (CVal.agg
      [CVal.int IntKind.i64 a0, CVal.int IntKind.i64 a1, CVal.str a2, CVal.str a3, CVal.int IntKind.i64 a40,
        CVal.int IntKind.i64 a41, CVal.sl a42, CVal.sl a5, CVal.sl a6])] [] = nf_s_TermOk C L a0 a1 a2 a3 a40 a41 a42 a5 a6 := by kernel_rfl
theorem go_s_TermOk (a0 : Int) (a1 : Int) (a2 : List UInt8) (a3 : List UInt8) (a40 : Int) (a41 : Int) (a42 : List CVal) (a5 : List CVal) (a6 : List CVal) (R : Ret) (h : nf_s_TermOk CC LL a0 a1 a2 a3 a40 a41 a42 a5 a6 = some R) : CC f_s_TermOk [AVal.v
    (CVal.agg
      [CVal.int IntKind.i64 a0, CVal.int IntKind.i64 a1, CVal.str a2, CVal.str a3, CVal.int IntKind.i64 a40,
        CVal.int IntKind.i64 a41, CVal.sl a42, CVal.sl a5, CVal.sl a6])] [] = some R := fnW (by decide) ((eq_s_TermOk CC LL a0 a1 a2 a3 a40 a41 a42 a5 a6).trans h)
noncomputable def nf_l_szTyS (C : CallT) (L : LoopT) (a : List CVal) (b : Int) : Option Ret :=
  br (decide (IntKind.i64.wrap (b - (↑a.length : Int)) < (0 : Int))) (some (CVal.int IntKind.i64 (-1 : Int), []))
    ((L f_l_szTyS (0 : Nat) lc_l_szTyS_0 [] k_l_szTyS_0
          ((a, IntKind.i64.wrap (b - (↑a.length : Int)), (0 : Int), PUnit.unit), PUnit.unit)).bind
      fun r => loK r (fun r => some r) fun j p => br (j == (0 : Nat)) (some (CVal.int IntKind.i64 p.fst.snd.1, [])) none)
theorem eq_l_szTyS (C : CallT) (L : LoopT) (a : List CVal) (b : Int) : evF E N C L f_l_szTyS [AVal.v (CVal.sl a), AVal.v (CVal.int IntKind.i64 b)] [] = nf_l_szTyS C L a b := by kernel_rfl
theorem go_l_szTyS (a : List CVal) (b : Int) (R : Ret) (h : nf_l_szTyS CC LL a b = some R) : CC f_l_szTyS [AVal.v (CVal.sl a), AVal.v (CVal.int IntKind.i64 b)] [] = some R := fnW (by decide) ((eq_l_szTyS CC LL a b).trans h)
noncomputable def nf_l_szTermS (C : CallT) (L : LoopT) (a : List CVal) (b : Int) : Option Ret :=
  br (decide (IntKind.i64.wrap (b - (↑a.length : Int)) < (0 : Int))) (some (CVal.int IntKind.i64 (-1 : Int), []))
    ((L f_l_szTermS (0 : Nat) lc_l_szTermS_0 [] k_l_szTermS_0
          ((a, IntKind.i64.wrap (b - (↑a.length : Int)), (0 : Int), PUnit.unit), PUnit.unit)).bind
      fun r => loK r (fun r => some r) fun j p => br (j == (0 : Nat)) (some (CVal.int IntKind.i64 p.fst.snd.1, [])) none)
theorem eq_l_szTermS (C : CallT) (L : LoopT) (a : List CVal) (b : Int) : evF E N C L f_l_szTermS [AVal.v (CVal.sl a), AVal.v (CVal.int IntKind.i64 b)] [] = nf_l_szTermS C L a b := by kernel_rfl
theorem go_l_szTermS (a : List CVal) (b : Int) (R : Ret) (h : nf_l_szTermS CC LL a b = some R) : CC f_l_szTermS [AVal.v (CVal.sl a), AVal.v (CVal.int IntKind.i64 b)] [] = some R := fnW (by decide) ((eq_l_szTermS CC LL a b).trans h)
noncomputable def nf_l_eqInsS (C : CallT) (L : LoopT) (a : List CVal) (b : List CVal) : Option Ret :=
  br (!decide ((↑a.length : Int) = (↑b.length : Int))) (some (CVal.bool false, []))
    ((L f_l_eqInsS (0 : Nat) lc_l_eqInsS_0 [] k_l_eqInsS_0 ((a, b, (0 : Int), PUnit.unit), PUnit.unit)).bind fun r =>
      loK r (fun r => some r) fun j p => br (j == (0 : Nat)) (some (CVal.bool true, [])) none)
theorem eq_l_eqInsS (C : CallT) (L : LoopT) (a : List CVal) (b : List CVal) : evF E N C L f_l_eqInsS [AVal.v (CVal.sl a), AVal.v (CVal.sl b)] [] = nf_l_eqInsS C L a b := by kernel_rfl
theorem go_l_eqInsS (a : List CVal) (b : List CVal) (R : Ret) (h : nf_l_eqInsS CC LL a b = some R) : CC f_l_eqInsS [AVal.v (CVal.sl a), AVal.v (CVal.sl b)] [] = some R := fnW (by decide) ((eq_l_eqInsS CC LL a b).trans h)
noncomputable def nf_i_subst (C : CallT) (L : LoopT) (a0 : Int) (a1 : Int) (a2 : List CVal) (b : List CVal) : Option Ret :=
  br (decide (a0 = (3 : Int)))
    (br (decide ((0 : Int) ≤ a1) && true)
      (b[a1.toNat]?.bind fun y =>
        br (CVal.fits true (3 : Nat) y)
          ((y.sub (0 : Nat) (3 : Nat)).bind fun y =>
            (C f_i_cloneTy [AVal.v y] []).bind fun r =>
              br (CVal.isAggN (3 : Nat) r.1)
                ((r.1.cell (0 : Nat)).bind fun c =>
                  (r.1.cell (1 : Nat)).bind fun c_1 =>
                    (r.1.cell (2 : Nat)).bind fun c_2 => some (CVal.agg [c, c_1, c_2], []))
                none)
          none)
      none)
    ((L f_i_subst (0 : Nat) lc_i_subst_0 [] k_i_subst_0
          ((b, PUnit.unit, PUnit.unit, a2, (↑a2.length : Int), (0 : Int), PUnit.unit),
            ((0 : Int), (0 : Int), [], PUnit.unit), (a0, a1, [], PUnit.unit), PUnit.unit)).bind
      fun r =>
      loK r (fun r => some r) fun j p =>
        br (j == (0 : Nat))
          (some
            (CVal.agg
                [CVal.int IntKind.i64 p.snd.snd.fst.1, CVal.int IntKind.i64 p.snd.snd.fst.snd.1,
                  CVal.sl p.snd.snd.fst.snd.snd.1],
              []))
          none)
theorem eq_i_subst (C : CallT) (L : LoopT) (a0 : Int) (a1 : Int) (a2 : List CVal) (b : List CVal) : evF E N C L f_i_subst [AVal.v (CVal.agg [CVal.int IntKind.i64 a0, CVal.int IntKind.i64 a1, CVal.sl a2]), AVal.v (CVal.sl b)] [] = nf_i_subst C L a0 a1 a2 b := by kernel_rfl
theorem go_i_subst (a0 : Int) (a1 : Int) (a2 : List CVal) (b : List CVal) (R : Ret) (h : nf_i_subst CC LL a0 a1 a2 b = some R) : CC f_i_subst [AVal.v (CVal.agg [CVal.int IntKind.i64 a0, CVal.int IntKind.i64 a1, CVal.sl a2]), AVal.v (CVal.sl b)] [] = some R := fnW (by decide) ((eq_i_subst CC LL a0 a1 a2 b).trans h)
noncomputable def nf_i_Plain_1 (C : CallT) (L : LoopT) (a0 : Int) (a1 : Int) (a2 : List UInt8) (a3 : List UInt8) (a40 : Int) (a41 : Int) (a42 : List CVal) (a5 : List CVal) (a6 : List CVal) : Option Ret :=
  ((C f_strings_Contains [AVal.v (CVal.str a2), AVal.v (CVal.str [(46 : UInt8)])] []).bind fun r =>
        r.1.asBool.bind fun b =>
          br b (some (true, PUnit.unit))
            ((C f_strings_Contains [AVal.v (CVal.str a3), AVal.v (CVal.str [(46 : UInt8)])] []).bind fun r =>
              (bif false then CVal.bool true else r.1).asBool.bind fun b => some (b, PUnit.unit))).bind
    fun y => some (CVal.bool y.1, [])
theorem eq_i_Plain_1 (C : CallT) (L : LoopT) (a0 : Int) (a1 : Int) (a2 : List UInt8) (a3 : List UInt8) (a40 : Int) (a41 : Int) (a42 : List CVal) (a5 : List CVal) (a6 : List CVal) : evF E N C L f_i_Plain_1 [AVal.v
    (CVal.agg
      [CVal.int IntKind.i64 a0, CVal.int IntKind.i64 a1, CVal.str a2, CVal.str a3, CVal.int IntKind.i64 a40,
        CVal.int IntKind.i64 a41, CVal.sl a42, CVal.sl a5, CVal.sl a6])] [] = nf_i_Plain_1 C L a0 a1 a2 a3 a40 a41 a42 a5 a6 := by kernel_rfl
theorem go_i_Plain_1 (a0 : Int) (a1 : Int) (a2 : List UInt8) (a3 : List UInt8) (a40 : Int) (a41 : Int) (a42 : List CVal) (a5 : List CVal) (a6 : List CVal) (R : Ret) (h : nf_i_Plain_1 CC LL a0 a1 a2 a3 a40 a41 a42 a5 a6 = some R) : CC f_i_Plain_1 [AVal.v
    (CVal.agg
      [CVal.int IntKind.i64 a0, CVal.int IntKind.i64 a1, CVal.str a2, CVal.str a3, CVal.int IntKind.i64 a40,
        CVal.int IntKind.i64 a41, CVal.sl a42, CVal.sl a5, CVal.sl a6])] [] = some R := fnW (by decide) ((eq_i_Plain_1 CC LL a0 a1 a2 a3 a40 a41 a42 a5 a6).trans h)
noncomputable def nf_i_in (C : CallT) (L : LoopT) (a : Int) (b : Int) (c : Int) : Option Ret :=
  (br (decide (b ≤ a)) (some (decide (a ≤ c), PUnit.unit)) (some (false, PUnit.unit))).bind fun y =>
    some (CVal.bool y.1, [])
theorem eq_i_in (C : CallT) (L : LoopT) (a : Int) (b : Int) (c : Int) : evF E N C L f_i_in [AVal.v (CVal.int IntKind.i64 a), AVal.v (CVal.int IntKind.i64 b), AVal.v (CVal.int IntKind.i64 c)] [] = nf_i_in C L a b c := by kernel_rfl
theorem go_i_in (a : Int) (b : Int) (c : Int) (R : Ret) (h : nf_i_in CC LL a b c = some R) : CC f_i_in [AVal.v (CVal.int IntKind.i64 a), AVal.v (CVal.int IntKind.i64 b), AVal.v (CVal.int IntKind.i64 c)] [] = some R := fnW (by decide) ((eq_i_in CC LL a b c).trans h)
noncomputable def nf_s_l1Copy (C : CallT) (L : LoopT) (a0 : Int) (a1 : Int) (a2 : List CVal) : Option Ret :=
  (L f_s_l1Copy (0 : Nat) lc_s_l1Copy_0 [] k_s_l1Copy_0
        ((PUnit.unit, PUnit.unit, PUnit.unit, (0 : Int), PUnit.unit), (a0, a1, a2, PUnit.unit),
          ((0 : Int), (0 : Int), [], PUnit.unit), (a0, a1, [], PUnit.unit), PUnit.unit)).bind
    fun r =>
    loK r (fun r => some r) fun j p =>
      br (j == (0 : Nat))
        (some
          (CVal.agg
              [CVal.int IntKind.i64 p.snd.snd.snd.fst.1, CVal.int IntKind.i64 p.snd.snd.snd.fst.snd.1,
                CVal.sl p.snd.snd.snd.fst.snd.snd.1],
            []))
        none
theorem eq_s_l1Copy (C : CallT) (L : LoopT) (a0 : Int) (a1 : Int) (a2 : List CVal) : evF E N C L f_s_l1Copy [AVal.v (CVal.agg [CVal.int IntKind.i64 a0, CVal.int IntKind.i64 a1, CVal.sl a2])] [] = nf_s_l1Copy C L a0 a1 a2 := by kernel_rfl
theorem go_s_l1Copy (a0 : Int) (a1 : Int) (a2 : List CVal) (R : Ret) (h : nf_s_l1Copy CC LL a0 a1 a2 = some R) : CC f_s_l1Copy [AVal.v (CVal.agg [CVal.int IntKind.i64 a0, CVal.int IntKind.i64 a1, CVal.sl a2])] [] = some R := fnW (by decide) ((eq_s_l1Copy CC LL a0 a1 a2).trans h)
noncomputable def nf_s_l1Args (C : CallT) (L : LoopT) (a : Int) : Option Ret :=
  br (decide (a = (1 : Int))) (some (CVal.int IntKind.i64 (0 : Int), []))
    (br (decide (a = (2 : Int))) (some (CVal.int IntKind.i64 (0 : Int), []))
      (br (decide (a = (3 : Int))) (some (CVal.int IntKind.i64 (0 : Int), []))
        (br (decide (a = (6 : Int))) (some (CVal.int IntKind.i64 (1 : Int), []))
          (br (decide (a = (4 : Int))) (some (CVal.int IntKind.i64 (2 : Int), []))
            (br (decide (a = (5 : Int))) (some (CVal.int IntKind.i64 (2 : Int), []))
              (some (CVal.int IntKind.i64 (-1 : Int), [])))))))
theorem eq_s_l1Args (C : CallT) (L : LoopT) (a : Int) : evF E N C L f_s_l1Args [AVal.v (CVal.int IntKind.i64 a)] [] = nf_s_l1Args C L a := by kernel_rfl
theorem go_s_l1Args (a : Int) (R : Ret) (h : nf_s_l1Args CC LL a = some R) : CC f_s_l1Args [AVal.v (CVal.int IntKind.i64 a)] [] = some R := fnW (by decide) ((eq_s_l1Args CC LL a).trans h)
noncomputable def nf_i_numberOk (C : CallT) (L : LoopT) (a : Int) (b : Int) : Option Ret :=
  br (decide (a = (1 : Int)))
    ((C f_i_in
          [AVal.v (CVal.int IntKind.i64 b), AVal.v (CVal.int IntKind.i64 (-1000000 : Int)),
            AVal.v (CVal.int IntKind.i64 (1000000 : Int))]
          []).bind
      fun r => some (r.1, []))
    (br (decide (a = (2 : Int)))
      ((C f_i_in
            [AVal.v (CVal.int IntKind.i64 b), AVal.v (CVal.int IntKind.i64 (0 : Int)),
              AVal.v (CVal.int IntKind.i64 (1 : Int))]
            []).bind
        fun r => some (r.1, []))
      (br (decide (a = (6 : Int)))
        ((C f_i_in
              [AVal.v (CVal.int IntKind.i64 b), AVal.v (CVal.int IntKind.i64 (0 : Int)),
                AVal.v (CVal.int IntKind.i64 (2 : Int))]
              []).bind
          fun r => some (r.1, []))
        (br (decide (a = (7 : Int)))
          ((C f_i_in
                [AVal.v (CVal.int IntKind.i64 b), AVal.v (CVal.int IntKind.i64 (0 : Int)),
                  AVal.v (CVal.int IntKind.i64 (2 : Int))]
                []).bind
            fun r => some (r.1, []))
          (br (decide (a = (15 : Int)))
            ((C f_i_in
                  [AVal.v (CVal.int IntKind.i64 b), AVal.v (CVal.int IntKind.i64 (1 : Int)),
                    AVal.v (CVal.int IntKind.i64 (5 : Int))]
                  []).bind
              fun r => some (r.1, []))
            (some (CVal.bool (decide (b = (0 : Int))), []))))))
theorem eq_i_numberOk (C : CallT) (L : LoopT) (a : Int) (b : Int) : evF E N C L f_i_numberOk [AVal.v (CVal.int IntKind.i64 a), AVal.v (CVal.int IntKind.i64 b)] [] = nf_i_numberOk C L a b := by kernel_rfl
theorem go_i_numberOk (a : Int) (b : Int) (R : Ret) (h : nf_i_numberOk CC LL a b = some R) : CC f_i_numberOk [AVal.v (CVal.int IntKind.i64 a), AVal.v (CVal.int IntKind.i64 b)] [] = some R := fnW (by decide) ((eq_i_numberOk CC LL a b).trans h)
noncomputable def nl_s_SameTerm_0 (C : CallT) (L : LoopT) (x02 : Int) (x10 : Int) (x11 : Int) (x12 : List UInt8) (x13 : List UInt8) (x14 : Int) (x15 : Int) (x16 : List CVal) (x17 : List CVal) (x18 : List CVal) (x20 : Int) (x21 : Int) (x22 : List UInt8) (x23 : List UInt8) (x24 : Int) (x25 : Int) (x26 : List CVal) (x27 : List CVal) (x28 : List CVal) : Option (LO k_s_SameTerm_0.T) :=
  br (decide (x02 < (↑x17.length : Int)))
    (br (decide ((0 : Int) ≤ x02) && true)
      (x17[x02.toNat]?.bind fun y =>
        br (CVal.fits true (3 : Nat) y)
          ((y.sub (0 : Nat) (3 : Nat)).bind fun y =>
            br (decide ((0 : Int) ≤ x02) && true)
              (x27[x02.toNat]?.bind fun y_1 =>
                br (CVal.fits true (3 : Nat) y_1)
                  ((y_1.sub (0 : Nat) (3 : Nat)).bind fun y_2 =>
                    (C f_s_SameTy [AVal.v y, AVal.v y_2] []).bind fun r =>
                      r.1.asBool.bind fun b =>
                        br (!b) (some (LO.ret (CVal.bool false, [])))
                          (L f_s_SameTerm (0 : Nat) lc_s_SameTerm_0 [] k_s_SameTerm_0
                            ((PUnit.unit, PUnit.unit, IntKind.i64.wrap (x02 + (1 : Int)), PUnit.unit),
                              (x10, x11, x12, x13, x14, x15, x16, x17, x18, PUnit.unit),
                              (x20, x21, x22, x23, x24, x25, x26, x27, x28, PUnit.unit), PUnit.unit)))
                  none)
              none)
          none)
      none)
    (some
      (LO.out (0 : Nat)
        ((PUnit.unit, PUnit.unit, x02, PUnit.unit), (x10, x11, x12, x13, x14, x15, x16, x17, x18, PUnit.unit),
          (x20, x21, x22, x23, x24, x25, x26, x27, x28, PUnit.unit), PUnit.unit)))
theorem el_s_SameTerm_0 (C : CallT) (L : LoopT) (x02 : Int) (x10 : Int) (x11 : Int) (x12 : List UInt8) (x13 : List UInt8) (x14 : Int) (x15 : Int) (x16 : List CVal) (x17 : List CVal) (x18 : List CVal) (x20 : Int) (x21 : Int) (x22 : List UInt8) (x23 : List UInt8) (x24 : Int) (x25 : Int) (x26 : List CVal) (x27 : List CVal) (x28 : List CVal) : evL E N C L f_s_SameTerm 0 lc_s_SameTerm_0 [] k_s_SameTerm_0 (((), (), x02, ()), (x10, x11, x12, x13, x14, x15, x16, x17, x18, ()),
  (x20, x21, x22, x23, x24, x25, x26, x27, x28, ()), ()) = nl_s_SameTerm_0 C L x02 x10 x11 x12 x13 x14 x15 x16 x17 x18 x20 x21 x22 x23 x24 x25 x26 x27 x28 := by kernel_rfl
theorem gl_s_SameTerm_0 (x02 : Int) (x10 : Int) (x11 : Int) (x12 : List UInt8) (x13 : List UInt8) (x14 : Int) (x15 : Int) (x16 : List CVal) (x17 : List CVal) (x18 : List CVal) (x20 : Int) (x21 : Int) (x22 : List UInt8) (x23 : List UInt8) (x24 : Int) (x25 : Int) (x26 : List CVal) (x27 : List CVal) (x28 : List CVal) (R : LO k_s_SameTerm_0.T) (h : nl_s_SameTerm_0 CC LL x02 x10 x11 x12 x13 x14 x15 x16 x17 x18 x20 x21 x22 x23 x24 x25 x26 x27 x28 = some R) : LL f_s_SameTerm 0 lc_s_SameTerm_0 [] k_s_SameTerm_0 (((), (), x02, ()), (x10, x11, x12, x13, x14, x15, x16, x17, x18, ()),
  (x20, x21, x22, x23, x24, x25, x26, x27, x28, ()), ()) = some R := loopW ((el_s_SameTerm_0 CC LL x02 x10 x11 x12 x13 x14 x15 x16 x17 x18 x20 x21 x22 x23 x24 x25 x26 x27 x28).trans h)
noncomputable def nl_l_szTermS_0 (C : CallT) (L : LoopT) (x00 : List CVal) (x01 : Int) (x02 : Int) : Option (LO k_l_szTermS_0.T) :=
  br (decide (x02 < (↑x00.length : Int)))
    (br (decide ((0 : Int) ≤ x02) && true)
      (x00[x02.toNat]?.bind fun y =>
        br (CVal.fits true (9 : Nat) y)
          ((y.sub (0 : Nat) (9 : Nat)).bind fun y =>
            (C f_l_szTerm [AVal.v y, AVal.v (CVal.int IntKind.i64 x01)] []).bind fun r =>
              (CVal.asInt IntKind.i64 r.1).bind fun n =>
                br (decide (n < (0 : Int))) (some (LO.ret (CVal.int IntKind.i64 (-1 : Int), [])))
                  ((CVal.asInt IntKind.i64 r.1).bind fun n =>
                    L f_l_szTermS (0 : Nat) lc_l_szTermS_0 [] k_l_szTermS_0
                      ((x00, n, IntKind.i64.wrap (x02 + (1 : Int)), PUnit.unit), PUnit.unit)))
          none)
      none)
    (some (LO.out (0 : Nat) ((x00, x01, x02, PUnit.unit), PUnit.unit)))
theorem el_l_szTermS_0 (C : CallT) (L : LoopT) (x00 : List CVal) (x01 : Int) (x02 : Int) : evL E N C L f_l_szTermS 0 lc_l_szTermS_0 [] k_l_szTermS_0 ((x00, x01, x02, ()), ()) = nl_l_szTermS_0 C L x00 x01 x02 := by kernel_rfl
theorem gl_l_szTermS_0 (x00 : List CVal) (x01 : Int) (x02 : Int) (R : LO k_l_szTermS_0.T) (h : nl_l_szTermS_0 CC LL x00 x01 x02 = some R) : LL f_l_szTermS 0 lc_l_szTermS_0 [] k_l_szTermS_0 ((x00, x01, x02, ()), ()) = some R := loopW ((el_l_szTermS_0 CC LL x00 x01 x02).trans h)
noncomputable def nl_s_SameTy_0 (C : CallT) (L : LoopT) (x02 : Int) (x10 : Int) (x11 : Int) (x12 : List CVal) (x20 : Int) (x21 : Int) (x22 : List CVal) : Option (LO k_s_SameTy_0.T) :=
  br (decide (x02 < (↑x12.length : Int)))
    (br (decide ((0 : Int) ≤ x02) && true)
      (x12[x02.toNat]?.bind fun y =>
        br (CVal.fits true (3 : Nat) y)
          ((y.sub (0 : Nat) (3 : Nat)).bind fun y =>
            br (decide ((0 : Int) ≤ x02) && true)
              (x22[x02.toNat]?.bind fun y_1 =>
                br (CVal.fits true (3 : Nat) y_1)
                  ((y_1.sub (0 : Nat) (3 : Nat)).bind fun y_2 =>
                    (C f_s_SameTy [AVal.v y, AVal.v y_2] []).bind fun r =>
                      r.1.asBool.bind fun b =>
                        br (!b) (some (LO.ret (CVal.bool false, [])))
                          (L f_s_SameTy (0 : Nat) lc_s_SameTy_0 [] k_s_SameTy_0
                            ((PUnit.unit, PUnit.unit, IntKind.i64.wrap (x02 + (1 : Int)), PUnit.unit),
                              (x10, x11, x12, PUnit.unit), (x20, x21, x22, PUnit.unit), PUnit.unit)))
                  none)
              none)
          none)
      none)
    (some
      (LO.out (0 : Nat)
        ((PUnit.unit, PUnit.unit, x02, PUnit.unit), (x10, x11, x12, PUnit.unit), (x20, x21, x22, PUnit.unit),
          PUnit.unit)))
theorem el_s_SameTy_0 (C : CallT) (L : LoopT) (x02 : Int) (x10 : Int) (x11 : Int) (x12 : List CVal) (x20 : Int) (x21 : Int) (x22 : List CVal) : evL E N C L f_s_SameTy 0 lc_s_SameTy_0 [] k_s_SameTy_0 (((), (), x02, ()), (x10, x11, x12, ()), (x20, x21, x22, ()), ()) = nl_s_SameTy_0 C L x02 x10 x11 x12 x20 x21 x22 := by kernel_rfl
theorem gl_s_SameTy_0 (x02 : Int) (x10 : Int) (x11 : Int) (x12 : List CVal) (x20 : Int) (x21 : Int) (x22 : List CVal) (R : LO k_s_SameTy_0.T) (h : nl_s_SameTy_0 CC LL x02 x10 x11 x12 x20 x21 x22 = some R) : LL f_s_SameTy 0 lc_s_SameTy_0 [] k_s_SameTy_0 (((), (), x02, ()), (x10, x11, x12, ()), (x20, x21, x22, ()), ()) = some R := loopW ((el_s_SameTy_0 CC LL x02 x10 x11 x12 x20 x21 x22).trans h)
noncomputable def nl_i_termSize_0 (C : CallT) (L : LoopT) (x00 : Int) (x01 : Int) (x02 : List CVal) (x03 : Int) (x04 : Int) : Option (LO k_i_termSize_0.T) :=
  br (decide (x04 < x03))
    (br (decide ((0 : Int) ≤ x04) && true)
      (x02[x04.toNat]?.bind fun y =>
        br (CVal.fits true (9 : Nat) y)
          ((y.sub (0 : Nat) (9 : Nat)).bind fun y =>
            br (CVal.isAggN (9 : Nat) y)
              ((y.cell (0 : Nat)).bind fun c =>
                (y.cell (1 : Nat)).bind fun c_1 =>
                  (y.cell (2 : Nat)).bind fun c_2 =>
                    (y.cell (3 : Nat)).bind fun c_3 =>
                      (y.cell (4 : Nat)).bind fun c_4 =>
                        (y.cell (5 : Nat)).bind fun c_5 =>
                          (y.cell (6 : Nat)).bind fun c_6 =>
                            (y.cell (7 : Nat)).bind fun c_7 =>
                              (y.cell (8 : Nat)).bind fun c_8 =>
                                (C f_i_termSize [AVal.v (CVal.agg [c, c_1, c_2, c_3, c_4, c_5, c_6, c_7, c_8])] []).bind
                                  fun r =>
                                  r.1.asTup.bind fun y =>
                                    y[(0 : Nat)]?.bind fun y =>
                                      r.1.asTup.bind fun y_1 =>
                                        y_1[(1 : Nat)]?.bind fun y_2 =>
                                          r.1.asTup.bind fun y_3 =>
                                            y_3[(2 : Nat)]?.bind fun y_4 =>
                                              y_4.asBool.bind fun b =>
                                                br (!b)
                                                  (some
                                                    (LO.ret
                                                      (CVal.tup
                                                          [CVal.int IntKind.i64 (0 : Int), CVal.int IntKind.i64 (0 : Int),
                                                            CVal.bool false],
                                                        [])))
                                                  ((CVal.asInt IntKind.i64 y).bind fun n =>
                                                    (CVal.asInt IntKind.i64 y_2).bind fun n_1 =>
                                                      L f_i_termSize (0 : Nat) lc_i_termSize_0 [] k_i_termSize_0
                                                        ((bif decide (x00 < n) then n else x00,
                                                            IntKind.i64.wrap (x01 + n_1), x02, x03,
                                                            IntKind.i64.wrap (x04 + (1 : Int)), PUnit.unit),
                                                          PUnit.unit)))
              none)
          none)
      none)
    (some (LO.out (0 : Nat) ((x00, x01, x02, x03, x04, PUnit.unit), PUnit.unit)))
theorem el_i_termSize_0 (C : CallT) (L : LoopT) (x00 : Int) (x01 : Int) (x02 : List CVal) (x03 : Int) (x04 : Int) : evL E N C L f_i_termSize 0 lc_i_termSize_0 [] k_i_termSize_0 ((x00, x01, x02, x03, x04, ()), ()) = nl_i_termSize_0 C L x00 x01 x02 x03 x04 := by kernel_rfl
theorem gl_i_termSize_0 (x00 : Int) (x01 : Int) (x02 : List CVal) (x03 : Int) (x04 : Int) (R : LO k_i_termSize_0.T) (h : nl_i_termSize_0 CC LL x00 x01 x02 x03 x04 = some R) : LL f_i_termSize 0 lc_i_termSize_0 [] k_i_termSize_0 ((x00, x01, x02, x03, x04, ()), ()) = some R := loopW ((el_i_termSize_0 CC LL x00 x01 x02 x03 x04).trans h)
noncomputable def nl_s_l1Copy_0 (C : CallT) (L : LoopT) (x03 : Int) (x10 : Int) (x11 : Int) (x12 : List CVal) (x20 : Int) (x21 : Int) (x22 : List CVal) (x30 : Int) (x31 : Int) (x32 : List CVal) : Option (LO k_s_l1Copy_0.T) :=
  br (decide (x03 < (↑x12.length : Int)))
    (br (decide ((0 : Int) ≤ x03) && true)
      (x12[x03.toNat]?.bind fun y =>
        br (CVal.fits true (3 : Nat) y)
          ((y.sub (0 : Nat) (3 : Nat)).bind fun y =>
            (C f_s_l1Copy [AVal.v y] []).bind fun r =>
              br ([r.1].all (CVal.fits (aggT E.P (29 : Nat)) (E.P.cellsOf (29 : Nat)))) none none)
          none)
      none)
    (some
      (LO.out (0 : Nat)
        ((PUnit.unit, PUnit.unit, PUnit.unit, x03, PUnit.unit), (x10, x11, x12, PUnit.unit), (x20, x21, x22, PUnit.unit),
          (x30, x31, x32, PUnit.unit), PUnit.unit)))
theorem el_s_l1Copy_0 (C : CallT) (L : LoopT) (x03 : Int) (x10 : Int) (x11 : Int) (x12 : List CVal) (x20 : Int) (x21 : Int) (x22 : List CVal) (x30 : Int) (x31 : Int) (x32 : List CVal) : evL E N C L f_s_l1Copy 0 lc_s_l1Copy_0 [] k_s_l1Copy_0 (((), (), (), x03, ()), (x10, x11, x12, ()), (x20, x21, x22, ()), (x30, x31, x32, ()), ()) = nl_s_l1Copy_0 C L x03 x10 x11 x12 x20 x21 x22 x30 x31 x32 := by kernel_rfl
theorem gl_s_l1Copy_0 (x03 : Int) (x10 : Int) (x11 : Int) (x12 : List CVal) (x20 : Int) (x21 : Int) (x22 : List CVal) (x30 : Int) (x31 : Int) (x32 : List CVal) (R : LO k_s_l1Copy_0.T) (h : nl_s_l1Copy_0 CC LL x03 x10 x11 x12 x20 x21 x22 x30 x31 x32 = some R) : LL f_s_l1Copy 0 lc_s_l1Copy_0 [] k_s_l1Copy_0 (((), (), (), x03, ()), (x10, x11, x12, ()), (x20, x21, x22, ()), (x30, x31, x32, ()), ()) = some R := loopW ((el_s_l1Copy_0 CC LL x03 x10 x11 x12 x20 x21 x22 x30 x31 x32).trans h)
end Go.Proofs.Ytdbgiclddcphfaa.Abs
