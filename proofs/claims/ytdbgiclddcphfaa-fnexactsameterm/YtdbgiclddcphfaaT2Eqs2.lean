/- What the functions come to in the abstract machine. -/
import Derived.Test.YtdbgiclddcphfaaT2Ann
import Derived.KernelRfl
set_option linter.unusedVariables false
set_option maxRecDepth 100000
namespace Go.Proofs.Ytdbgiclddcphfaa.Abs
open Go Go.Proofs
noncomputable def nf_l_FnExactIsValue (C : CallT) (L : LoopT) (a0 : Int) (a1 : Int) (a2 : List UInt8) (a3 : List UInt8) (a40 : Int) (a41 : Int) (a42 : List CVal) (a5 : List CVal) (a6 : List CVal) : Option Ret :=
  (C f_l_szTerm
        [AVal.v
            (CVal.agg
              [CVal.int IntKind.i64 a0, CVal.int IntKind.i64 a1, CVal.str a2, CVal.str a3, CVal.int IntKind.i64 a40,
                CVal.int IntKind.i64 a41, CVal.sl a42, CVal.sl a5, CVal.sl a6]),
          AVal.v (CVal.int IntKind.i64 (1048576 : Int))]
        []).bind
    fun r =>
    (CVal.asInt IntKind.i64 r.1).bind fun n =>
      br (decide (n < (0 : Int))) (some (CVal.bool true, []))
        ((C f_l_toTerm
              [AVal.v
                  (CVal.agg
                    [CVal.int IntKind.i64 a0, CVal.int IntKind.i64 a1, CVal.str a2, CVal.str a3, CVal.int IntKind.i64 a40,
                      CVal.int IntKind.i64 a41, CVal.sl a42, CVal.sl a5, CVal.sl a6])]
              []).bind
          fun r =>
          (C f_s_IsValue [AVal.v r.1] []).bind fun r =>
            (C f_l_toTerm
                  [AVal.v
                      (CVal.agg
                        [CVal.int IntKind.i64 a0, CVal.int IntKind.i64 a1, CVal.str a2, CVal.str a3,
                          CVal.int IntKind.i64 a40, CVal.int IntKind.i64 a41, CVal.sl a42, CVal.sl a5, CVal.sl a6])]
                  []).bind
              fun r_1 =>
              br (CVal.isAggN (9 : Nat) r_1.1)
                ((r_1.1.cell (0 : Nat)).bind fun c =>
                  (r_1.1.cell (1 : Nat)).bind fun c_1 =>
                    (r_1.1.cell (2 : Nat)).bind fun c_2 =>
                      (r_1.1.cell (3 : Nat)).bind fun c_3 =>
                        (r_1.1.cell (4 : Nat)).bind fun c_4 =>
                          (r_1.1.cell (5 : Nat)).bind fun c_5 =>
                            (r_1.1.cell (6 : Nat)).bind fun c_6 =>
                              (r_1.1.cell (7 : Nat)).bind fun c_7 =>
                                (r_1.1.cell (8 : Nat)).bind fun c_8 =>
                                  (C f_i_IsValue [AVal.v (CVal.agg [c, c_1, c_2, c_3, c_4, c_5, c_6, c_7, c_8])] []).bind
                                    fun r_2 =>
                                    r_2.1.asBool.bind fun b =>
                                      r.1.asBool.bind fun b_1 =>
                                        br (!b == b_1) (some (CVal.bool false, []))
                                          ((C f_l_toTerm
                                                [AVal.v
                                                    (CVal.agg
                                                      [CVal.int IntKind.i64 a0, CVal.int IntKind.i64 a1, CVal.str a2,
                                                        CVal.str a3, CVal.int IntKind.i64 a40, CVal.int IntKind.i64 a41,
                                                        CVal.sl a42, CVal.sl a5, CVal.sl a6])]
                                                []).bind
                                            fun r =>
                                            (C f_l_eqTerm
                                                  [AVal.v (CVal.agg [c, c_1, c_2, c_3, c_4, c_5, c_6, c_7, c_8]),
                                                    AVal.v r.1]
                                                  []).bind
                                              fun r =>
                                              r.1.asBool.bind fun b =>
                                                br (!b) (some (CVal.bool false, [])) (some (CVal.bool true, []))))
                none)
theorem eq_l_FnExactIsValue (C : CallT) (L : LoopT) (a0 : Int) (a1 : Int) (a2 : List UInt8) (a3 : List UInt8) (a40 : Int) (a41 : Int) (a42 : List CVal) (a5 : List CVal) (a6 : List CVal) : evF E N C L f_l_FnExactIsValue [AVal.v
    (CVal.agg
      [CVal.int IntKind.i64 a0, CVal.int IntKind.i64 a1, CVal.str a2, CVal.str a3, CVal.int IntKind.i64 a40,
        CVal.int IntKind.i64 a41, CVal.sl a42, CVal.sl a5, CVal.sl a6])] [] = nf_l_FnExactIsValue C L a0 a1 a2 a3 a40 a41 a42 a5 a6 := by kernel_rfl
theorem go_l_FnExactIsValue (a0 : Int) (a1 : Int) (a2 : List UInt8) (a3 : List UInt8) (a40 : Int) (a41 : Int) (a42 : List CVal) (a5 : List CVal) (a6 : List CVal) (R : Ret) (h : nf_l_FnExactIsValue CC LL a0 a1 a2 a3 a40 a41 a42 a5 a6 = some R) : CC f_l_FnExactIsValue [AVal.v
    (CVal.agg
      [CVal.int IntKind.i64 a0, CVal.int IntKind.i64 a1, CVal.str a2, CVal.str a3, CVal.int IntKind.i64 a40,
        CVal.int IntKind.i64 a41, CVal.sl a42, CVal.sl a5, CVal.sl a6])] [] = some R := fnW (by decide) ((eq_l_FnExactIsValue CC LL a0 a1 a2 a3 a40 a41 a42 a5 a6).trans h)
noncomputable def nf_l_szTy (C : CallT) (L : LoopT) (a0 : Int) (a1 : Int) (a2 : List CVal) (b : Int) : Option Ret :=
  (C f_l_szTyS [AVal.v (CVal.sl a2), AVal.v (CVal.int IntKind.i64 b)] []).bind fun r =>
    (CVal.asInt IntKind.i64 r.1).bind fun n =>
      br (decide (n < (0 : Int))) (some (CVal.int IntKind.i64 (-1 : Int), [])) (some (r.1, []))
theorem eq_l_szTy (C : CallT) (L : LoopT) (a0 : Int) (a1 : Int) (a2 : List CVal) (b : Int) : evF E N C L f_l_szTy [AVal.v (CVal.agg [CVal.int IntKind.i64 a0, CVal.int IntKind.i64 a1, CVal.sl a2]), AVal.v (CVal.int IntKind.i64 b)] [] = nf_l_szTy C L a0 a1 a2 b := by kernel_rfl
theorem go_l_szTy (a0 : Int) (a1 : Int) (a2 : List CVal) (b : Int) (R : Ret) (h : nf_l_szTy CC LL a0 a1 a2 b = some R) : CC f_l_szTy [AVal.v (CVal.agg [CVal.int IntKind.i64 a0, CVal.int IntKind.i64 a1, CVal.sl a2]), AVal.v (CVal.int IntKind.i64 b)] [] = some R := fnW (by decide) ((eq_l_szTy CC LL a0 a1 a2 b).trans h)
noncomputable def nf_l_toTerm (C : CallT) (L : LoopT) (a0 : Int) (a1 : Int) (a2 : List UInt8) (a3 : List UInt8) (a40 : Int) (a41 : Int) (a42 : List CVal) (a5 : List CVal) (a6 : List CVal) : Option Ret :=
  (C f_l_toTy [AVal.v (CVal.agg [CVal.int IntKind.i64 a40, CVal.int IntKind.i64 a41, CVal.sl a42])] []).bind fun r =>
    br (CVal.isAggN (3 : Nat) r.1)
      ((r.1.cell (0 : Nat)).bind fun c =>
        (r.1.cell (1 : Nat)).bind fun c_1 =>
          (r.1.cell (2 : Nat)).bind fun c_2 =>
            (C f_l_toTyS [AVal.v (CVal.sl a5)] []).bind fun r =>
              br (r.1.isFlat && true)
                ((C f_l_toTermS [AVal.v (CVal.sl a6)] []).bind fun r_1 =>
                  br (r_1.1.isFlat && true)
                    (some
                      (CVal.agg
                          [CVal.int IntKind.i64 a0, CVal.int IntKind.i64 a1, CVal.str a2, CVal.str a3, c, c_1, c_2, r.1,
                            r_1.1],
                        []))
                    none)
                none)
      none
theorem eq_l_toTerm (C : CallT) (L : LoopT) (a0 : Int) (a1 : Int) (a2 : List UInt8) (a3 : List UInt8) (a40 : Int) (a41 : Int) (a42 : List CVal) (a5 : List CVal) (a6 : List CVal) : evF E N C L f_l_toTerm [AVal.v
    (CVal.agg
      [CVal.int IntKind.i64 a0, CVal.int IntKind.i64 a1, CVal.str a2, CVal.str a3, CVal.int IntKind.i64 a40,
        CVal.int IntKind.i64 a41, CVal.sl a42, CVal.sl a5, CVal.sl a6])] [] = nf_l_toTerm C L a0 a1 a2 a3 a40 a41 a42 a5 a6 := by kernel_rfl
theorem go_l_toTerm (a0 : Int) (a1 : Int) (a2 : List UInt8) (a3 : List UInt8) (a40 : Int) (a41 : Int) (a42 : List CVal) (a5 : List CVal) (a6 : List CVal) (R : Ret) (h : nf_l_toTerm CC LL a0 a1 a2 a3 a40 a41 a42 a5 a6 = some R) : CC f_l_toTerm [AVal.v
    (CVal.agg
      [CVal.int IntKind.i64 a0, CVal.int IntKind.i64 a1, CVal.str a2, CVal.str a3, CVal.int IntKind.i64 a40,
        CVal.int IntKind.i64 a41, CVal.sl a42, CVal.sl a5, CVal.sl a6])] [] = some R := fnW (by decide) ((eq_l_toTerm CC LL a0 a1 a2 a3 a40 a41 a42 a5 a6).trans h)
noncomputable def nf_l_eqPiece (C : CallT) (L : LoopT) (a0 : Int) (a1 : Int) (a2 : Int) (a3 : List CVal) (b0 : Int) (b1 : Int) (b2 : Int) (b3 : List CVal) : Option Ret :=
  br (!decide (a0 = b0)) (some (CVal.bool false, []))
    (br (!decide (a1 = b1)) (some (CVal.bool false, []))
      (br (!decide (a2 = b2)) (some (CVal.bool false, []))
        ((C f_l_eqInsS [AVal.v (CVal.sl a3), AVal.v (CVal.sl b3)] []).bind fun r =>
          r.1.asBool.bind fun b => br (!b) (some (CVal.bool false, [])) (some (CVal.bool true, [])))))
theorem eq_l_eqPiece (C : CallT) (L : LoopT) (a0 : Int) (a1 : Int) (a2 : Int) (a3 : List CVal) (b0 : Int) (b1 : Int) (b2 : Int) (b3 : List CVal) : evF E N C L f_l_eqPiece [AVal.v (CVal.agg [CVal.int IntKind.i64 a0, CVal.int IntKind.i64 a1, CVal.int IntKind.i64 a2, CVal.sl a3]),
  AVal.v (CVal.agg [CVal.int IntKind.i64 b0, CVal.int IntKind.i64 b1, CVal.int IntKind.i64 b2, CVal.sl b3])] [] = nf_l_eqPiece C L a0 a1 a2 a3 b0 b1 b2 b3 := by kernel_rfl
theorem go_l_eqPiece (a0 : Int) (a1 : Int) (a2 : Int) (a3 : List CVal) (b0 : Int) (b1 : Int) (b2 : Int) (b3 : List CVal) (R : Ret) (h : nf_l_eqPiece CC LL a0 a1 a2 a3 b0 b1 b2 b3 = some R) : CC f_l_eqPiece [AVal.v (CVal.agg [CVal.int IntKind.i64 a0, CVal.int IntKind.i64 a1, CVal.int IntKind.i64 a2, CVal.sl a3]),
  AVal.v (CVal.agg [CVal.int IntKind.i64 b0, CVal.int IntKind.i64 b1, CVal.int IntKind.i64 b2, CVal.sl b3])] [] = some R := fnW (by decide) ((eq_l_eqPiece CC LL a0 a1 a2 a3 b0 b1 b2 b3).trans h)
noncomputable def nf_i_SameTy (C : CallT) (L : LoopT) (a0 : Int) (a1 : Int) (a2 : List CVal) (b0 : Int) (b1 : Int) (b2 : List CVal) : Option Ret :=
  (br (decide (a0 = b0))
        (br (decide (a1 = b1))
          ((C f_slices_EqualFunc_Ty [AVal.v (CVal.sl a2), AVal.v (CVal.sl b2), AVal.v (CVal.func f_i_SameTy [])] []).bind
            fun r => (bif true then r.1 else CVal.bool false).asBool.bind fun b => some (b, PUnit.unit))
          (some (false, PUnit.unit)))
        (some (false, PUnit.unit))).bind
    fun y => some (CVal.bool y.1, [])
theorem eq_i_SameTy (C : CallT) (L : LoopT) (a0 : Int) (a1 : Int) (a2 : List CVal) (b0 : Int) (b1 : Int) (b2 : List CVal) : evF E N C L f_i_SameTy [AVal.v (CVal.agg [CVal.int IntKind.i64 a0, CVal.int IntKind.i64 a1, CVal.sl a2]),
  AVal.v (CVal.agg [CVal.int IntKind.i64 b0, CVal.int IntKind.i64 b1, CVal.sl b2])] [] = nf_i_SameTy C L a0 a1 a2 b0 b1 b2 := by kernel_rfl
theorem go_i_SameTy (a0 : Int) (a1 : Int) (a2 : List CVal) (b0 : Int) (b1 : Int) (b2 : List CVal) (R : Ret) (h : nf_i_SameTy CC LL a0 a1 a2 b0 b1 b2 = some R) : CC f_i_SameTy [AVal.v (CVal.agg [CVal.int IntKind.i64 a0, CVal.int IntKind.i64 a1, CVal.sl a2]),
  AVal.v (CVal.agg [CVal.int IntKind.i64 b0, CVal.int IntKind.i64 b1, CVal.sl b2])] [] = some R := fnW (by decide) ((eq_i_SameTy CC LL a0 a1 a2 b0 b1 b2).trans h)
noncomputable def nf_i_IsMono (C : CallT) (L : LoopT) (a0 : Int) (a1 : Int) (a2 : List UInt8) (a3 : List UInt8) (a40 : Int) (a41 : Int) (a42 : List CVal) (a5 : List CVal) (a6 : List CVal) : Option Ret :=
  ((C f_i_TermOk
            [AVal.v
                (CVal.agg
                  [CVal.int IntKind.i64 a0, CVal.int IntKind.i64 a1, CVal.str a2, CVal.str a3, CVal.int IntKind.i64 a40,
                    CVal.int IntKind.i64 a41, CVal.sl a42, CVal.sl a5, CVal.sl a6])]
            []).bind
        fun r =>
        r.1.asBool.bind fun b =>
          br b
            ((C f_i_anyTerm
                  [AVal.v
                      (CVal.agg
                        [CVal.int IntKind.i64 a0, CVal.int IntKind.i64 a1, CVal.str a2, CVal.str a3,
                          CVal.int IntKind.i64 a40, CVal.int IntKind.i64 a41, CVal.sl a42, CVal.sl a5, CVal.sl a6]),
                    AVal.v (CVal.func f_i_IsMono_1 [])]
                  []).bind
              fun r => r.1.asBool.bind fun b => some (!b, PUnit.unit))
            (some (false, PUnit.unit))).bind
    fun y => some (CVal.bool y.1, [])
theorem eq_i_IsMono (C : CallT) (L : LoopT) (a0 : Int) (a1 : Int) (a2 : List UInt8) (a3 : List UInt8) (a40 : Int) (a41 : Int) (a42 : List CVal) (a5 : List CVal) (a6 : List CVal) : evF E N C L f_i_IsMono [AVal.v
    (CVal.agg
      [CVal.int IntKind.i64 a0, CVal.int IntKind.i64 a1, CVal.str a2, CVal.str a3, CVal.int IntKind.i64 a40,
        CVal.int IntKind.i64 a41, CVal.sl a42, CVal.sl a5, CVal.sl a6])] [] = nf_i_IsMono C L a0 a1 a2 a3 a40 a41 a42 a5 a6 := by kernel_rfl
theorem go_i_IsMono (a0 : Int) (a1 : Int) (a2 : List UInt8) (a3 : List UInt8) (a40 : Int) (a41 : Int) (a42 : List CVal) (a5 : List CVal) (a6 : List CVal) (R : Ret) (h : nf_i_IsMono CC LL a0 a1 a2 a3 a40 a41 a42 a5 a6 = some R) : CC f_i_IsMono [AVal.v
    (CVal.agg
      [CVal.int IntKind.i64 a0, CVal.int IntKind.i64 a1, CVal.str a2, CVal.str a3, CVal.int IntKind.i64 a40,
        CVal.int IntKind.i64 a41, CVal.sl a42, CVal.sl a5, CVal.sl a6])] [] = some R := fnW (by decide) ((eq_i_IsMono CC LL a0 a1 a2 a3 a40 a41 a42 a5 a6).trans h)
noncomputable def nf_i_varsOf (C : CallT) (L : LoopT) (a0 : Int) (a1 : Int) (a2 : List CVal) : Option Ret :=
  br (decide (a0 = (3 : Int)))
    ((L f_i_varsOf (0 : Nat) lc_i_varsOf_0 [] k_i_varsOf_0
          ((IntKind.i64.wrap (a1 + (1 : Int)), a2, (↑a2.length : Int), (0 : Int), PUnit.unit), PUnit.unit)).bind
      fun r => loK r (fun r => some r) fun j p => br (j == (0 : Nat)) (some (CVal.int IntKind.i64 p.fst.1, [])) none)
    ((L f_i_varsOf (0 : Nat) lc_i_varsOf_0 [] k_i_varsOf_0
          (((0 : Int), a2, (↑a2.length : Int), (0 : Int), PUnit.unit), PUnit.unit)).bind
      fun r => loK r (fun r => some r) fun j p => br (j == (0 : Nat)) (some (CVal.int IntKind.i64 p.fst.1, [])) none)
theorem eq_i_varsOf (C : CallT) (L : LoopT) (a0 : Int) (a1 : Int) (a2 : List CVal) : evF E N C L f_i_varsOf [AVal.v (CVal.agg [CVal.int IntKind.i64 a0, CVal.int IntKind.i64 a1, CVal.sl a2])] [] = nf_i_varsOf C L a0 a1 a2 := by kernel_rfl
theorem go_i_varsOf (a0 : Int) (a1 : Int) (a2 : List CVal) (R : Ret) (h : nf_i_varsOf CC LL a0 a1 a2 = some R) : CC f_i_varsOf [AVal.v (CVal.agg [CVal.int IntKind.i64 a0, CVal.int IntKind.i64 a1, CVal.sl a2])] [] = some R := fnW (by decide) ((eq_i_varsOf CC LL a0 a1 a2).trans h)
noncomputable def nf_i_guardOf (C : CallT) (L : LoopT) (a0 : Int) (a1 : Int) (a2 : Int) (a3 : List CVal) (b : Int) : Option Ret :=
  (C f_i_in
        [AVal.v (CVal.int IntKind.i64 b), AVal.v (CVal.int IntKind.i64 (0 : Int)),
          AVal.v (CVal.int IntKind.i64 (IntKind.i64.wrap ((↑a3.length : Int) - (1 : Int))))]
        []).bind
    fun r =>
    r.1.asBool.bind fun b_1 =>
      br (!b_1) (some (CVal.int IntKind.i64 (-1 : Int), []))
        (br (decide ((0 : Int) ≤ b) && decide (b ≤ (↑a3.length : Int)) && a3.all (CVal.fits true (7 : Nat)))
          ((L f_i_guardOf (0 : Nat) lc_i_guardOf_0 [] k_i_guardOf_0
                ((PUnit.unit, List.drop (0 : Nat) (List.take b.toNat a3),
                    (↑(List.drop (0 : Nat) (List.take b.toNat a3)).length : Int), (0 : Int), PUnit.unit),
                  [], PUnit.unit)).bind
            fun r =>
            loK r (fun r => some r) fun j p =>
              br (j == (0 : Nat))
                (br (decide ((↑(List.length p.snd.1) : Int) = (0 : Int))) (some (CVal.int IntKind.i64 (-1 : Int), []))
                  (br (decide ((0 : Int) ≤ IntKind.i64.wrap ((↑(List.length p.snd.1) : Int) - (1 : Int))) && true)
                    (br
                      (decide
                          ((IntKind.i64.wrap ((↑(List.length p.snd.1) : Int) - (1 : Int))).toNat < List.length p.snd.1) &&
                        true)
                      (p.snd.1[(IntKind.i64.wrap ((↑(List.length p.snd.1) : Int) - (1 : Int))).toNat]?.bind fun y =>
                        (y.cell (0 : Nat)).bind fun c => some (c, []))
                      none)
                    none))
                none)
          none)
theorem eq_i_guardOf (C : CallT) (L : LoopT) (a0 : Int) (a1 : Int) (a2 : Int) (a3 : List CVal) (b : Int) : evF E N C L f_i_guardOf [AVal.v (CVal.agg [CVal.int IntKind.i64 a0, CVal.int IntKind.i64 a1, CVal.int IntKind.i64 a2, CVal.sl a3]),
  AVal.v (CVal.int IntKind.i64 b)] [] = nf_i_guardOf C L a0 a1 a2 a3 b := by kernel_rfl
theorem go_i_guardOf (a0 : Int) (a1 : Int) (a2 : Int) (a3 : List CVal) (b : Int) (R : Ret) (h : nf_i_guardOf CC LL a0 a1 a2 a3 b = some R) : CC f_i_guardOf [AVal.v (CVal.agg [CVal.int IntKind.i64 a0, CVal.int IntKind.i64 a1, CVal.int IntKind.i64 a2, CVal.sl a3]),
  AVal.v (CVal.int IntKind.i64 b)] [] = some R := fnW (by decide) ((eq_i_guardOf CC LL a0 a1 a2 a3 b).trans h)
noncomputable def nf_slices_ContainsFunc_Ty (C : CallT) (L : LoopT) (a : List CVal) (b : CVal) : Option Ret :=
  (C f_slices_IndexFunc_Ty [AVal.v (CVal.sl a), AVal.v b] []).bind fun r =>
    (CVal.asInt IntKind.i64 r.1).bind fun n => some (CVal.bool (decide ((0 : Int) ≤ n)), [])
theorem eq_slices_ContainsFunc_Ty (C : CallT) (L : LoopT) (a : List CVal) (b : CVal) : evF E N C L f_slices_ContainsFunc_Ty [AVal.v (CVal.sl a), AVal.v b] [] = nf_slices_ContainsFunc_Ty C L a b := by kernel_rfl
theorem go_slices_ContainsFunc_Ty (a : List CVal) (b : CVal) (R : Ret) (h : nf_slices_ContainsFunc_Ty CC LL a b = some R) : CC f_slices_ContainsFunc_Ty [AVal.v (CVal.sl a), AVal.v b] [] = some R := fnW (by decide) ((eq_slices_ContainsFunc_Ty CC LL a b).trans h)
noncomputable def nf_i_anyTerm (C : CallT) (L : LoopT) (a0 : Int) (a1 : Int) (a2 : List UInt8) (a3 : List UInt8) (a40 : Int) (a41 : Int) (a42 : List CVal) (a5 : List CVal) (a6 : List CVal) (b : CVal) : Option Ret :=
  br (b.isFlat && true)
    (((b.cell (0 : Nat)).bind fun c =>
          (C apId
                [AVal.v c,
                  AVal.v
                    (CVal.agg
                      [CVal.int IntKind.i64 a0, CVal.int IntKind.i64 a1, CVal.str a2, CVal.str a3,
                        CVal.int IntKind.i64 a40, CVal.int IntKind.i64 a41, CVal.sl a42, CVal.sl a5, CVal.sl a6])]
                []).bind
            fun r =>
            r.1.asBool.bind fun b_1 =>
              br b_1 (some (true, PUnit.unit))
                ((C f_slices_ContainsFunc_Term [AVal.v (CVal.sl a6), AVal.v (CVal.func f_i_anyTerm_1 [b.fp (0 : Nat)])]
                      []).bind
                  fun r => (bif false then CVal.bool true else r.1).asBool.bind fun b => some (b, PUnit.unit))).bind
      fun y => some (CVal.bool y.1, []))
    none
theorem eq_i_anyTerm (C : CallT) (L : LoopT) (a0 : Int) (a1 : Int) (a2 : List UInt8) (a3 : List UInt8) (a40 : Int) (a41 : Int) (a42 : List CVal) (a5 : List CVal) (a6 : List CVal) (b : CVal) : evF E N C L f_i_anyTerm [AVal.v
    (CVal.agg
      [CVal.int IntKind.i64 a0, CVal.int IntKind.i64 a1, CVal.str a2, CVal.str a3, CVal.int IntKind.i64 a40,
        CVal.int IntKind.i64 a41, CVal.sl a42, CVal.sl a5, CVal.sl a6]),
  AVal.v b] [] = nf_i_anyTerm C L a0 a1 a2 a3 a40 a41 a42 a5 a6 b := by kernel_rfl
theorem go_i_anyTerm (a0 : Int) (a1 : Int) (a2 : List UInt8) (a3 : List UInt8) (a40 : Int) (a41 : Int) (a42 : List CVal) (a5 : List CVal) (a6 : List CVal) (b : CVal) (R : Ret) (h : nf_i_anyTerm CC LL a0 a1 a2 a3 a40 a41 a42 a5 a6 b = some R) : CC f_i_anyTerm [AVal.v
    (CVal.agg
      [CVal.int IntKind.i64 a0, CVal.int IntKind.i64 a1, CVal.str a2, CVal.str a3, CVal.int IntKind.i64 a40,
        CVal.int IntKind.i64 a41, CVal.sl a42, CVal.sl a5, CVal.sl a6]),
  AVal.v b] [] = some R := fnW (by decide) ((eq_i_anyTerm CC LL a0 a1 a2 a3 a40 a41 a42 a5 a6 b).trans h)
noncomputable def nf_s_l1In (C : CallT) (L : LoopT) (a : Int) (b : Int) (c : Int) : Option Ret :=
  (br (decide (b ≤ a)) (some (decide (a ≤ c), PUnit.unit)) (some (false, PUnit.unit))).bind fun y =>
    some (CVal.bool y.1, [])
theorem eq_s_l1In (C : CallT) (L : LoopT) (a : Int) (b : Int) (c : Int) : evF E N C L f_s_l1In [AVal.v (CVal.int IntKind.i64 a), AVal.v (CVal.int IntKind.i64 b), AVal.v (CVal.int IntKind.i64 c)] [] = nf_s_l1In C L a b c := by kernel_rfl
theorem go_s_l1In (a : Int) (b : Int) (c : Int) (R : Ret) (h : nf_s_l1In CC LL a b c = some R) : CC f_s_l1In [AVal.v (CVal.int IntKind.i64 a), AVal.v (CVal.int IntKind.i64 b), AVal.v (CVal.int IntKind.i64 c)] [] = some R := fnW (by decide) ((eq_s_l1In CC LL a b c).trans h)
noncomputable def nf_i_cloneTy (C : CallT) (L : LoopT) (a0 : Int) (a1 : Int) (a2 : List CVal) : Option Ret :=
  (L f_i_cloneTy (0 : Nat) lc_i_cloneTy_0 [] k_i_cloneTy_0
        ((PUnit.unit, PUnit.unit, a2, (↑a2.length : Int), (0 : Int), PUnit.unit), ((0 : Int), (0 : Int), [], PUnit.unit),
          (a0, a1, [], PUnit.unit), PUnit.unit)).bind
    fun r =>
    loK r (fun r => some r) fun j p =>
      br (j == (0 : Nat))
        (some
          (CVal.agg
              [CVal.int IntKind.i64 p.snd.snd.fst.1, CVal.int IntKind.i64 p.snd.snd.fst.snd.1,
                CVal.sl p.snd.snd.fst.snd.snd.1],
            []))
        none
theorem eq_i_cloneTy (C : CallT) (L : LoopT) (a0 : Int) (a1 : Int) (a2 : List CVal) : evF E N C L f_i_cloneTy [AVal.v (CVal.agg [CVal.int IntKind.i64 a0, CVal.int IntKind.i64 a1, CVal.sl a2])] [] = nf_i_cloneTy C L a0 a1 a2 := by kernel_rfl
theorem go_i_cloneTy (a0 : Int) (a1 : Int) (a2 : List CVal) (R : Ret) (h : nf_i_cloneTy CC LL a0 a1 a2 = some R) : CC f_i_cloneTy [AVal.v (CVal.agg [CVal.int IntKind.i64 a0, CVal.int IntKind.i64 a1, CVal.sl a2])] [] = some R := fnW (by decide) ((eq_i_cloneTy CC LL a0 a1 a2).trans h)
noncomputable def nf_i_hasT (C : CallT) (L : LoopT) (a : Int) : Option Ret :=
  (br (decide (a = (4 : Int))) (some (true, PUnit.unit))
        (br (decide (a = (7 : Int))) (some (true, PUnit.unit))
          (br (decide (a = (12 : Int))) (some (true, PUnit.unit)) (some (decide (a = (16 : Int)), PUnit.unit))))).bind
    fun y => some (CVal.bool y.1, [])
theorem eq_i_hasT (C : CallT) (L : LoopT) (a : Int) : evF E N C L f_i_hasT [AVal.v (CVal.int IntKind.i64 a)] [] = nf_i_hasT C L a := by kernel_rfl
theorem go_i_hasT (a : Int) (R : Ret) (h : nf_i_hasT CC LL a = some R) : CC f_i_hasT [AVal.v (CVal.int IntKind.i64 a)] [] = some R := fnW (by decide) ((eq_i_hasT CC LL a).trans h)
noncomputable def nf_i_parts (C : CallT) (L : LoopT) (a : Int) : Option Ret :=
  br (decide (a = (1 : Int))) (some (CVal.int IntKind.i64 (0 : Int), []))
    (br (decide (a = (2 : Int))) (some (CVal.int IntKind.i64 (0 : Int), []))
      (br (decide (a = (3 : Int))) (some (CVal.int IntKind.i64 (0 : Int), []))
        (br (decide (a = (12 : Int))) (some (CVal.int IntKind.i64 (0 : Int), []))
          (br (decide (a = (4 : Int))) (some (CVal.int IntKind.i64 (1 : Int), []))
            (br (decide (a = (10 : Int))) (some (CVal.int IntKind.i64 (1 : Int), []))
              (br (decide (a = (11 : Int))) (some (CVal.int IntKind.i64 (1 : Int), []))
                (br (decide (a = (16 : Int))) (some (CVal.int IntKind.i64 (1 : Int), []))
                  (br (decide (a = (5 : Int))) (some (CVal.int IntKind.i64 (2 : Int), []))
                    (br (decide (a = (6 : Int))) (some (CVal.int IntKind.i64 (2 : Int), []))
                      (br (decide (a = (7 : Int))) (some (CVal.int IntKind.i64 (2 : Int), []))
                        (br (decide (a = (9 : Int))) (some (CVal.int IntKind.i64 (2 : Int), []))
                          (br (decide (a = (13 : Int))) (some (CVal.int IntKind.i64 (2 : Int), []))
                            (br (decide (a = (15 : Int))) (some (CVal.int IntKind.i64 (2 : Int), []))
                              (br (decide (a = (17 : Int))) (some (CVal.int IntKind.i64 (2 : Int), []))
                                (br (decide (a = (8 : Int))) (some (CVal.int IntKind.i64 (3 : Int), []))
                                  (br (decide (a = (14 : Int))) (some (CVal.int IntKind.i64 (3 : Int), []))
                                    (some (CVal.int IntKind.i64 (-1 : Int), []))))))))))))))))))
theorem eq_i_parts (C : CallT) (L : LoopT) (a : Int) : evF E N C L f_i_parts [AVal.v (CVal.int IntKind.i64 a)] [] = nf_i_parts C L a := by kernel_rfl
theorem go_i_parts (a : Int) (R : Ret) (h : nf_i_parts CC LL a = some R) : CC f_i_parts [AVal.v (CVal.int IntKind.i64 a)] [] = some R := fnW (by decide) ((eq_i_parts CC LL a).trans h)
noncomputable def nl_s_SameTerm_2 (C : CallT) (L : LoopT) (x02 : Int) (x10 : Int) (x11 : Int) (x12 : List UInt8) (x13 : List UInt8) (x14 : Int) (x15 : Int) (x16 : List CVal) (x17 : List CVal) (x18 : List CVal) (x20 : Int) (x21 : Int) (x22 : List UInt8) (x23 : List UInt8) (x24 : Int) (x25 : Int) (x26 : List CVal) (x27 : List CVal) (x28 : List CVal) : Option (LO k_s_SameTerm_2.T) :=
  br (decide (x02 < (↑x18.length : Int)))
    (br (decide ((0 : Int) ≤ x02) && true)
      (x18[x02.toNat]?.bind fun y =>
        br (CVal.fits true (9 : Nat) y)
          ((y.sub (0 : Nat) (9 : Nat)).bind fun y =>
            br (decide ((0 : Int) ≤ x02) && true)
              (x28[x02.toNat]?.bind fun y_1 =>
                br (CVal.fits true (9 : Nat) y_1)
                  ((y_1.sub (0 : Nat) (9 : Nat)).bind fun y_2 =>
                    (C f_s_SameTerm [AVal.v y, AVal.v y_2] []).bind fun r =>
                      r.1.asBool.bind fun b =>
                        br (!b) (some (LO.ret (CVal.bool false, [])))
                          (L f_s_SameTerm (2 : Nat) lc_s_SameTerm_2 [] k_s_SameTerm_2
                            ((PUnit.unit, PUnit.unit, IntKind.i64.wrap (x02 + (1 : Int)), PUnit.unit),
                              (x10, x11, x12, x13, x14, x15, x16, x17, x18, PUnit.unit),
                              (x20, x21, x22, x23, x24, x25, x26, x27, x28, PUnit.unit), PUnit.unit)))
                  none)
              none)
          none)
      none)
    (some
      (LO.out (2 : Nat)
        ((PUnit.unit, PUnit.unit, x02, PUnit.unit), (x10, x11, x12, x13, x14, x15, x16, x17, x18, PUnit.unit),
          (x20, x21, x22, x23, x24, x25, x26, x27, x28, PUnit.unit), PUnit.unit)))
theorem el_s_SameTerm_2 (C : CallT) (L : LoopT) (x02 : Int) (x10 : Int) (x11 : Int) (x12 : List UInt8) (x13 : List UInt8) (x14 : Int) (x15 : Int) (x16 : List CVal) (x17 : List CVal) (x18 : List CVal) (x20 : Int) (x21 : Int) (x22 : List UInt8) (x23 : List UInt8) (x24 : Int) (x25 : Int) (x26 : List CVal) (x27 : List CVal) (x28 : List CVal) : evL E N C L f_s_SameTerm 2 lc_s_SameTerm_2 [] k_s_SameTerm_2 (((), (), x02, ()), (x10, x11, x12, x13, x14, x15, x16, x17, x18, ()),
  (x20, x21, x22, x23, x24, x25, x26, x27, x28, ()), ()) = nl_s_SameTerm_2 C L x02 x10 x11 x12 x13 x14 x15 x16 x17 x18 x20 x21 x22 x23 x24 x25 x26 x27 x28 := by kernel_rfl
theorem gl_s_SameTerm_2 (x02 : Int) (x10 : Int) (x11 : Int) (x12 : List UInt8) (x13 : List UInt8) (x14 : Int) (x15 : Int) (x16 : List CVal) (x17 : List CVal) (x18 : List CVal) (x20 : Int) (x21 : Int) (x22 : List UInt8) (x23 : List UInt8) (x24 : Int) (x25 : Int) (x26 : List CVal) (x27 : List CVal) (x28 : List CVal) (R : LO k_s_SameTerm_2.T) (h : nl_s_SameTerm_2 CC LL x02 x10 x11 x12 x13 x14 x15 x16 x17 x18 x20 x21 x22 x23 x24 x25 x26 x27 x28 = some R) : LL f_s_SameTerm 2 lc_s_SameTerm_2 [] k_s_SameTerm_2 (((), (), x02, ()), (x10, x11, x12, x13, x14, x15, x16, x17, x18, ()),
  (x20, x21, x22, x23, x24, x25, x26, x27, x28, ()), ()) = some R := loopW ((el_s_SameTerm_2 CC LL x02 x10 x11 x12 x13 x14 x15 x16 x17 x18 x20 x21 x22 x23 x24 x25 x26 x27 x28).trans h)
noncomputable def nl_i_varsOf_0 (C : CallT) (L : LoopT) (x00 : Int) (x01 : List CVal) (x02 : Int) (x03 : Int) : Option (LO k_i_varsOf_0.T) :=
  br (decide (x03 < x02))
    (br (decide ((0 : Int) ≤ x03) && true)
      (x01[x03.toNat]?.bind fun y =>
        br (CVal.fits true (3 : Nat) y)
          ((y.sub (0 : Nat) (3 : Nat)).bind fun y =>
            br (CVal.isAggN (3 : Nat) y)
              ((y.cell (0 : Nat)).bind fun c =>
                (y.cell (1 : Nat)).bind fun c_1 =>
                  (y.cell (2 : Nat)).bind fun c_2 =>
                    (C f_i_varsOf [AVal.v (CVal.agg [c, c_1, c_2])] []).bind fun r =>
                      (CVal.asInt IntKind.i64 r.1).bind fun n =>
                        L f_i_varsOf (0 : Nat) lc_i_varsOf_0 [] k_i_varsOf_0
                          ((bif decide (x00 < n) then n else x00, x01, x02, IntKind.i64.wrap (x03 + (1 : Int)),
                              PUnit.unit),
                            PUnit.unit))
              none)
          none)
      none)
    (some (LO.out (0 : Nat) ((x00, x01, x02, x03, PUnit.unit), PUnit.unit)))
theorem el_i_varsOf_0 (C : CallT) (L : LoopT) (x00 : Int) (x01 : List CVal) (x02 : Int) (x03 : Int) : evL E N C L f_i_varsOf 0 lc_i_varsOf_0 [] k_i_varsOf_0 ((x00, x01, x02, x03, ()), ()) = nl_i_varsOf_0 C L x00 x01 x02 x03 := by kernel_rfl
theorem gl_i_varsOf_0 (x00 : Int) (x01 : List CVal) (x02 : Int) (x03 : Int) (R : LO k_i_varsOf_0.T) (h : nl_i_varsOf_0 CC LL x00 x01 x02 x03 = some R) : LL f_i_varsOf 0 lc_i_varsOf_0 [] k_i_varsOf_0 ((x00, x01, x02, x03, ()), ()) = some R := loopW ((el_i_varsOf_0 CC LL x00 x01 x02 x03).trans h)
noncomputable def nl_l_eqInsS_0 (C : CallT) (L : LoopT) (x00 : List CVal) (x01 : List CVal) (x02 : Int) : Option (LO k_l_eqInsS_0.T) :=
  br (decide (x02 < (↑x00.length : Int)))
    (br (decide ((0 : Int) ≤ x02) && true)
      (x00[x02.toNat]?.bind fun y =>
        br (CVal.fits true (7 : Nat) y)
          ((y.sub (0 : Nat) (7 : Nat)).bind fun y =>
            br (decide ((0 : Int) ≤ x02) && true)
              (x01[x02.toNat]?.bind fun y_1 =>
                br (CVal.fits true (7 : Nat) y_1)
                  ((y_1.sub (0 : Nat) (7 : Nat)).bind fun y_2 =>
                    (C f_l_eqIns [AVal.v y, AVal.v y_2] []).bind fun r =>
                      r.1.asBool.bind fun b =>
                        br (!b) (some (LO.ret (CVal.bool false, [])))
                          (L f_l_eqInsS (0 : Nat) lc_l_eqInsS_0 [] k_l_eqInsS_0
                            ((x00, x01, IntKind.i64.wrap (x02 + (1 : Int)), PUnit.unit), PUnit.unit)))
                  none)
              none)
          none)
      none)
    (some (LO.out (0 : Nat) ((x00, x01, x02, PUnit.unit), PUnit.unit)))
theorem el_l_eqInsS_0 (C : CallT) (L : LoopT) (x00 : List CVal) (x01 : List CVal) (x02 : Int) : evL E N C L f_l_eqInsS 0 lc_l_eqInsS_0 [] k_l_eqInsS_0 ((x00, x01, x02, ()), ()) = nl_l_eqInsS_0 C L x00 x01 x02 := by kernel_rfl
theorem gl_l_eqInsS_0 (x00 : List CVal) (x01 : List CVal) (x02 : Int) (R : LO k_l_eqInsS_0.T) (h : nl_l_eqInsS_0 CC LL x00 x01 x02 = some R) : LL f_l_eqInsS 0 lc_l_eqInsS_0 [] k_l_eqInsS_0 ((x00, x01, x02, ()), ()) = some R := loopW ((el_l_eqInsS_0 CC LL x00 x01 x02).trans h)
noncomputable def nl_s_l2Look_0 (C : CallT) (L : LoopT) (x00 : Int) (x03 : Int) (x10 : Int) (x20 : Int) (x21 : Int) (x22 : List UInt8) (x23 : List UInt8) (x24 : Int) (x25 : Int) (x26 : List CVal) (x27 : List CVal) (x28 : List CVal) : Option (LO k_s_l2Look_0.T) :=
  br (decide (x03 < (↑x28.length : Int)))
    (br (decide ((0 : Int) ≤ x03) && true)
      (x28[x03.toNat]?.bind fun y =>
        br (CVal.fits true (9 : Nat) y)
          ((y.sub (0 : Nat) (9 : Nat)).bind fun y =>
            (C f_s_l2Look
                  [AVal.v y, AVal.v (CVal.int IntKind.i64 (IntKind.i64.wrap (x00 - (1 : Int)))),
                    AVal.lptr (0 : Nat) (0 : Nat)]
                  [PB.mk false (0 : Nat) [CVal.int IntKind.i64 x10]]).bind
              fun r =>
              r.2[(0 : Nat)]?.bind fun y =>
                br (y.length == (1 : Nat))
                  (y[(0 : Nat)]?.bind fun y =>
                    r.1.asBool.bind fun b =>
                      br (!b) (some (LO.ret (CVal.bool false, [[y]])))
                        ((CVal.asInt IntKind.i64 y).bind fun n =>
                          L f_s_l2Look (0 : Nat) lc_s_l2Look_0 [none] k_s_l2Look_0
                            ((x00, PUnit.unit, PUnit.unit, IntKind.i64.wrap (x03 + (1 : Int)), PUnit.unit),
                              (n, PUnit.unit), (x20, x21, x22, x23, x24, x25, x26, x27, x28, PUnit.unit), PUnit.unit)))
                  none)
          none)
      none)
    (some
      (LO.out (0 : Nat)
        ((x00, PUnit.unit, PUnit.unit, x03, PUnit.unit), (x10, PUnit.unit),
          (x20, x21, x22, x23, x24, x25, x26, x27, x28, PUnit.unit), PUnit.unit)))
theorem el_s_l2Look_0 (C : CallT) (L : LoopT) (x00 : Int) (x03 : Int) (x10 : Int) (x20 : Int) (x21 : Int) (x22 : List UInt8) (x23 : List UInt8) (x24 : Int) (x25 : Int) (x26 : List CVal) (x27 : List CVal) (x28 : List CVal) : evL E N C L f_s_l2Look 0 lc_s_l2Look_0 [none] k_s_l2Look_0 ((x00, (), (), x03, ()), (x10, ()), (x20, x21, x22, x23, x24, x25, x26, x27, x28, ()), ()) = nl_s_l2Look_0 C L x00 x03 x10 x20 x21 x22 x23 x24 x25 x26 x27 x28 := by kernel_rfl
theorem gl_s_l2Look_0 (x00 : Int) (x03 : Int) (x10 : Int) (x20 : Int) (x21 : Int) (x22 : List UInt8) (x23 : List UInt8) (x24 : Int) (x25 : Int) (x26 : List CVal) (x27 : List CVal) (x28 : List CVal) (R : LO k_s_l2Look_0.T) (h : nl_s_l2Look_0 CC LL x00 x03 x10 x20 x21 x22 x23 x24 x25 x26 x27 x28 = some R) : LL f_s_l2Look 0 lc_s_l2Look_0 [none] k_s_l2Look_0 ((x00, (), (), x03, ()), (x10, ()), (x20, x21, x22, x23, x24, x25, x26, x27, x28, ()), ()) = some R := loopW ((el_s_l2Look_0 CC LL x00 x03 x10 x20 x21 x22 x23 x24 x25 x26 x27 x28).trans h)
noncomputable def nl_i_cloneTy_0 (C : CallT) (L : LoopT) (x02 : List CVal) (x03 : Int) (x04 : Int) (x10 : Int) (x11 : Int) (x12 : List CVal) (x20 : Int) (x21 : Int) (x22 : List CVal) : Option (LO k_i_cloneTy_0.T) :=
  br (decide (x04 < x03))
    (br (decide ((0 : Int) ≤ x04) && true)
      (x02[x04.toNat]?.bind fun y =>
        br (CVal.fits true (3 : Nat) y)
          ((y.sub (0 : Nat) (3 : Nat)).bind fun y =>
            br (CVal.isAggN (3 : Nat) y)
              ((y.cell (0 : Nat)).bind fun c =>
                (y.cell (1 : Nat)).bind fun c_1 =>
                  (y.cell (2 : Nat)).bind fun c_2 =>
                    (C f_i_cloneTy [AVal.v (CVal.agg [c, c_1, c_2])] []).bind fun r =>
                      br ([r.1].all (CVal.fits true (3 : Nat))) none none)
              none)
          none)
      none)
    (some
      (LO.out (0 : Nat)
        ((PUnit.unit, PUnit.unit, x02, x03, x04, PUnit.unit), (x10, x11, x12, PUnit.unit), (x20, x21, x22, PUnit.unit),
          PUnit.unit)))
theorem el_i_cloneTy_0 (C : CallT) (L : LoopT) (x02 : List CVal) (x03 : Int) (x04 : Int) (x10 : Int) (x11 : Int) (x12 : List CVal) (x20 : Int) (x21 : Int) (x22 : List CVal) : evL E N C L f_i_cloneTy 0 lc_i_cloneTy_0 [] k_i_cloneTy_0 (((), (), x02, x03, x04, ()), (x10, x11, x12, ()), (x20, x21, x22, ()), ()) = nl_i_cloneTy_0 C L x02 x03 x04 x10 x11 x12 x20 x21 x22 := by kernel_rfl
theorem gl_i_cloneTy_0 (x02 : List CVal) (x03 : Int) (x04 : Int) (x10 : Int) (x11 : Int) (x12 : List CVal) (x20 : Int) (x21 : Int) (x22 : List CVal) (R : LO k_i_cloneTy_0.T) (h : nl_i_cloneTy_0 CC LL x02 x03 x04 x10 x11 x12 x20 x21 x22 = some R) : LL f_i_cloneTy 0 lc_i_cloneTy_0 [] k_i_cloneTy_0 (((), (), x02, x03, x04, ()), (x10, x11, x12, ()), (x20, x21, x22, ()), ()) = some R := loopW ((el_i_cloneTy_0 CC LL x02 x03 x04 x10 x11 x12 x20 x21 x22).trans h)
end Go.Proofs.Ytdbgiclddcphfaa.Abs
