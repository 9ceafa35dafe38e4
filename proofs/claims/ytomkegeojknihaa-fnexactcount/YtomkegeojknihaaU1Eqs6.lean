/- What the functions come to in the abstract machine. -/
import Derived.Test.YtomkegeojknihaaU1Ann
import Derived.KernelRfl
set_option linter.unusedVariables false
set_option maxRecDepth 100000
namespace Go.Proofs.Ytomkegeojknihaa.Abs
open Go Go.Proofs
noncomputable def nf_l_eqCode (C : CallT) (L : LoopT) (a0 : List CVal) (a10 : Int) (a11 : Int) (a12 : Int) (a13 : List CVal) (b0 : List CVal) (b10 : Int) (b11 : Int) (b12 : Int) (b13 : List CVal) : Option Ret :=
  (C f_l_eqPieceS [AVal.v (CVal.sl a0), AVal.v (CVal.sl b0)] []).bind fun r =>
    r.1.asBool.bind fun b =>
      br (!b) (some (CVal.bool false, []))
        ((C f_l_eqPiece
              [AVal.v
                  (CVal.agg [CVal.int IntKind.i64 a10, CVal.int IntKind.i64 a11, CVal.int IntKind.i64 a12, CVal.sl a13]),
                AVal.v
                  (CVal.agg [CVal.int IntKind.i64 b10, CVal.int IntKind.i64 b11, CVal.int IntKind.i64 b12, CVal.sl b13])]
              []).bind
          fun r => r.1.asBool.bind fun b => br (!b) (some (CVal.bool false, [])) (some (CVal.bool true, [])))
theorem eq_l_eqCode (C : CallT) (L : LoopT) (a0 : List CVal) (a10 : Int) (a11 : Int) (a12 : Int) (a13 : List CVal) (b0 : List CVal) (b10 : Int) (b11 : Int) (b12 : Int) (b13 : List CVal) : evF E N C L f_l_eqCode [AVal.v
    (CVal.agg [CVal.sl a0, CVal.int IntKind.i64 a10, CVal.int IntKind.i64 a11, CVal.int IntKind.i64 a12, CVal.sl a13]),
  AVal.v
    (CVal.agg [CVal.sl b0, CVal.int IntKind.i64 b10, CVal.int IntKind.i64 b11, CVal.int IntKind.i64 b12, CVal.sl b13])] [] = nf_l_eqCode C L a0 a10 a11 a12 a13 b0 b10 b11 b12 b13 := by kernel_rfl
theorem go_l_eqCode (a0 : List CVal) (a10 : Int) (a11 : Int) (a12 : Int) (a13 : List CVal) (b0 : List CVal) (b10 : Int) (b11 : Int) (b12 : Int) (b13 : List CVal) (R : Ret) (h : nf_l_eqCode CC LL a0 a10 a11 a12 a13 b0 b10 b11 b12 b13 = some R) : CC f_l_eqCode [AVal.v
    (CVal.agg [CVal.sl a0, CVal.int IntKind.i64 a10, CVal.int IntKind.i64 a11, CVal.int IntKind.i64 a12, CVal.sl a13]),
  AVal.v
    (CVal.agg [CVal.sl b0, CVal.int IntKind.i64 b10, CVal.int IntKind.i64 b11, CVal.int IntKind.i64 b12, CVal.sl b13])] [] = some R := fnW (by decide) rfl ((eq_l_eqCode CC LL a0 a10 a11 a12 a13 b0 b10 b11 b12 b13).trans h)
noncomputable def nf_s_l9Lams (C : CallT) (L : LoopT) (a0 : List CVal) (a10 : Int) (a11 : Int) (a12 : Int) (a13 : List CVal) (b0 : Int) (b1 : Int) (b2 : Int) (b3 : List CVal) : Option Ret :=
  (L f_s_l9Lams (0 : Nat) lc_s_l9Lams_0 [] k_s_l9Lams_0
        (((CVal.agg
                  [CVal.sl a0, CVal.int IntKind.i64 a10, CVal.int IntKind.i64 a11, CVal.int IntKind.i64 a12,
                    CVal.sl a13]).fp
              (0 : Nat),
            PUnit.unit, (0 : Int), PUnit.unit),
          (b0, b1, b2, b3, PUnit.unit), PUnit.unit)).bind
    fun r => loK r (fun r => some r) fun j p => br (j == (0 : Nat)) (some (CVal.bool true, [])) none
theorem eq_s_l9Lams (C : CallT) (L : LoopT) (a0 : List CVal) (a10 : Int) (a11 : Int) (a12 : Int) (a13 : List CVal) (b0 : Int) (b1 : Int) (b2 : Int) (b3 : List CVal) : evF E N C L f_s_l9Lams [AVal.v
    (CVal.agg [CVal.sl a0, CVal.int IntKind.i64 a10, CVal.int IntKind.i64 a11, CVal.int IntKind.i64 a12, CVal.sl a13]),
  AVal.v (CVal.agg [CVal.int IntKind.i64 b0, CVal.int IntKind.i64 b1, CVal.int IntKind.i64 b2, CVal.sl b3])] [] = nf_s_l9Lams C L a0 a10 a11 a12 a13 b0 b1 b2 b3 := by kernel_rfl
theorem go_s_l9Lams (a0 : List CVal) (a10 : Int) (a11 : Int) (a12 : Int) (a13 : List CVal) (b0 : Int) (b1 : Int) (b2 : Int) (b3 : List CVal) (R : Ret) (h : nf_s_l9Lams CC LL a0 a10 a11 a12 a13 b0 b1 b2 b3 = some R) : CC f_s_l9Lams [AVal.v
    (CVal.agg [CVal.sl a0, CVal.int IntKind.i64 a10, CVal.int IntKind.i64 a11, CVal.int IntKind.i64 a12, CVal.sl a13]),
  AVal.v (CVal.agg [CVal.int IntKind.i64 b0, CVal.int IntKind.i64 b1, CVal.int IntKind.i64 b2, CVal.sl b3])] [] = some R := fnW (by decide) rfl ((eq_s_l9Lams CC LL a0 a10 a11 a12 a13 b0 b1 b2 b3).trans h)
noncomputable def nf_s_l1In (C : CallT) (L : LoopT) (a : Int) (b : Int) (c : Int) : Option Ret :=
  (br (decide (b ≤ a)) (some (decide (a ≤ c), PUnit.unit)) (some (false, PUnit.unit))).bind fun y =>
    some (CVal.bool y.1, [])
theorem eq_s_l1In (C : CallT) (L : LoopT) (a : Int) (b : Int) (c : Int) : evF E N C L f_s_l1In [AVal.v (CVal.int IntKind.i64 a), AVal.v (CVal.int IntKind.i64 b), AVal.v (CVal.int IntKind.i64 c)] [] = nf_s_l1In C L a b c := by kernel_rfl
theorem go_s_l1In (a : Int) (b : Int) (c : Int) (R : Ret) (h : nf_s_l1In CC LL a b c = some R) : CC f_s_l1In [AVal.v (CVal.int IntKind.i64 a), AVal.v (CVal.int IntKind.i64 b), AVal.v (CVal.int IntKind.i64 c)] [] = some R := fnW (by decide) rfl ((eq_s_l1In CC LL a b c).trans h)
noncomputable def nf_l_szIns (C : CallT) (L : LoopT) (a0 : Int) (a1 : Int) (a2 : Int) (a3 : Int) (a4 : Int) (a5 : List CVal) (a6 : Int) (b : Int) : Option Ret :=
  (C f_l_szIntS [AVal.v (CVal.sl a5), AVal.v (CVal.int IntKind.i64 b)] []).bind fun r =>
    (CVal.asInt IntKind.i64 r.1).bind fun n =>
      br (decide (n < (0 : Int))) (some (CVal.int IntKind.i64 (-1 : Int), [])) (some (r.1, []))
theorem eq_l_szIns (C : CallT) (L : LoopT) (a0 : Int) (a1 : Int) (a2 : Int) (a3 : Int) (a4 : Int) (a5 : List CVal) (a6 : Int) (b : Int) : evF E N C L f_l_szIns [AVal.v
    (CVal.agg
      [CVal.int IntKind.i64 a0, CVal.int IntKind.i64 a1, CVal.int IntKind.i64 a2, CVal.int IntKind.i64 a3,
        CVal.int IntKind.i64 a4, CVal.sl a5, CVal.int IntKind.i64 a6]),
  AVal.v (CVal.int IntKind.i64 b)] [] = nf_l_szIns C L a0 a1 a2 a3 a4 a5 a6 b := by kernel_rfl
theorem go_l_szIns (a0 : Int) (a1 : Int) (a2 : Int) (a3 : Int) (a4 : Int) (a5 : List CVal) (a6 : Int) (b : Int) (R : Ret) (h : nf_l_szIns CC LL a0 a1 a2 a3 a4 a5 a6 b = some R) : CC f_l_szIns [AVal.v
    (CVal.agg
      [CVal.int IntKind.i64 a0, CVal.int IntKind.i64 a1, CVal.int IntKind.i64 a2, CVal.int IntKind.i64 a3,
        CVal.int IntKind.i64 a4, CVal.sl a5, CVal.int IntKind.i64 a6]),
  AVal.v (CVal.int IntKind.i64 b)] [] = some R := fnW (by decide) rfl ((eq_l_szIns CC LL a0 a1 a2 a3 a4 a5 a6 b).trans h)
noncomputable def nf_l_szIntS (C : CallT) (L : LoopT) (a : List CVal) (b : Int) : Option Ret :=
  br (decide (IntKind.i64.wrap (b - (↑a.length : Int)) < (0 : Int))) (some (CVal.int IntKind.i64 (-1 : Int), []))
    (some (CVal.int IntKind.i64 (IntKind.i64.wrap (b - (↑a.length : Int))), []))
theorem eq_l_szIntS (C : CallT) (L : LoopT) (a : List CVal) (b : Int) : evF E N C L f_l_szIntS [AVal.v (CVal.sl a), AVal.v (CVal.int IntKind.i64 b)] [] = nf_l_szIntS C L a b := by kernel_rfl
theorem go_l_szIntS (a : List CVal) (b : Int) (R : Ret) (h : nf_l_szIntS CC LL a b = some R) : CC f_l_szIntS [AVal.v (CVal.sl a), AVal.v (CVal.int IntKind.i64 b)] [] = some R := fnW (by decide) rfl ((eq_l_szIntS CC LL a b).trans h)
noncomputable def nf_slices_IndexFunc_Piece (C : CallT) (L : LoopT) (a : List CVal) (b : CVal) : Option Ret :=
  (L f_slices_IndexFunc_Piece (0 : Nat) lc_slices_IndexFunc_Piece_0 [] k_slices_IndexFunc_Piece_0
        ((a, b, (↑a.length : Int), (0 : Int), PUnit.unit), PUnit.unit)).bind
    fun r => loK r (fun r => some r) fun j p => br (j == (0 : Nat)) (some (CVal.int IntKind.i64 (-1 : Int), [])) none
theorem eq_slices_IndexFunc_Piece (C : CallT) (L : LoopT) (a : List CVal) (b : CVal) : evF E N C L f_slices_IndexFunc_Piece [AVal.v (CVal.sl a), AVal.v b] [] = nf_slices_IndexFunc_Piece C L a b := by kernel_rfl
theorem go_slices_IndexFunc_Piece (a : List CVal) (b : CVal) (R : Ret) (h : nf_slices_IndexFunc_Piece CC LL a b = some R) : CC f_slices_IndexFunc_Piece [AVal.v (CVal.sl a), AVal.v b] [] = some R := fnW (by decide) rfl ((eq_slices_IndexFunc_Piece CC LL a b).trans h)
noncomputable def nl_s_Count_0 (C : CallT) (L : LoopT) (x01 : Int) (x02 : Int) (x10 : List CVal) (x11 : Int) (x12 : Int) (x13 : Int) (x14 : List CVal) : Option (LO k_s_Count_0.T) :=
  br (decide (x02 < (↑x10.length : Int)))
    (br (decide ((0 : Int) ≤ x02) && true)
      (x10[x02.toNat]?.bind fun y =>
        br (CVal.fits true (4 : Nat) y)
          ((y.cell (3 : Nat)).bind fun c =>
            c.asSl.bind fun xs =>
              L f_s_Count (0 : Nat) lc_s_Count_0 [] k_s_Count_0
                ((PUnit.unit, IntKind.i64.wrap (x01 + (↑xs.length : Int)), IntKind.i64.wrap (x02 + (1 : Int)),
                    PUnit.unit),
                  (x10, x11, x12, x13, x14, PUnit.unit), PUnit.unit))
          none)
      none)
    (some (LO.out (0 : Nat) ((PUnit.unit, x01, x02, PUnit.unit), (x10, x11, x12, x13, x14, PUnit.unit), PUnit.unit)))
theorem el_s_Count_0 (C : CallT) (L : LoopT) (x01 : Int) (x02 : Int) (x10 : List CVal) (x11 : Int) (x12 : Int) (x13 : Int) (x14 : List CVal) : evL E N C L f_s_Count 0 lc_s_Count_0 [] k_s_Count_0 (((), x01, x02, ()), (x10, x11, x12, x13, x14, ()), ()) = nl_s_Count_0 C L x01 x02 x10 x11 x12 x13 x14 := by kernel_rfl
theorem gl_s_Count_0 (x01 : Int) (x02 : Int) (x10 : List CVal) (x11 : Int) (x12 : Int) (x13 : Int) (x14 : List CVal) (R : LO k_s_Count_0.T) (h : nl_s_Count_0 CC LL x01 x02 x10 x11 x12 x13 x14 = some R) : LL f_s_Count 0 lc_s_Count_0 [] k_s_Count_0 (((), x01, x02, ()), (x10, x11, x12, x13, x14, ()), ()) = some R := loopW ((el_s_Count_0 CC LL x01 x02 x10 x11 x12 x13 x14).trans h)
noncomputable def nl_l_szInsS_0 (C : CallT) (L : LoopT) (x00 : List CVal) (x01 : Int) (x02 : Int) : Option (LO k_l_szInsS_0.T) :=
  br (decide (x02 < (↑x00.length : Int)))
    (br (decide ((0 : Int) ≤ x02) && true)
      (x00[x02.toNat]?.bind fun y =>
        br (CVal.fits true (7 : Nat) y)
          ((y.sub (0 : Nat) (7 : Nat)).bind fun y =>
            (C f_l_szIns [AVal.v y, AVal.v (CVal.int IntKind.i64 x01)] []).bind fun r =>
              (CVal.asInt IntKind.i64 r.1).bind fun n =>
                br (decide (n < (0 : Int))) (some (LO.ret (CVal.int IntKind.i64 (-1 : Int), [])))
                  ((CVal.asInt IntKind.i64 r.1).bind fun n =>
                    L f_l_szInsS (0 : Nat) lc_l_szInsS_0 [] k_l_szInsS_0
                      ((x00, n, IntKind.i64.wrap (x02 + (1 : Int)), PUnit.unit), PUnit.unit)))
          none)
      none)
    (some (LO.out (0 : Nat) ((x00, x01, x02, PUnit.unit), PUnit.unit)))
theorem el_l_szInsS_0 (C : CallT) (L : LoopT) (x00 : List CVal) (x01 : Int) (x02 : Int) : evL E N C L f_l_szInsS 0 lc_l_szInsS_0 [] k_l_szInsS_0 ((x00, x01, x02, ()), ()) = nl_l_szInsS_0 C L x00 x01 x02 := by kernel_rfl
theorem gl_l_szInsS_0 (x00 : List CVal) (x01 : Int) (x02 : Int) (R : LO k_l_szInsS_0.T) (h : nl_l_szInsS_0 CC LL x00 x01 x02 = some R) : LL f_l_szInsS 0 lc_l_szInsS_0 [] k_l_szInsS_0 ((x00, x01, x02, ()), ()) = some R := loopW ((el_l_szInsS_0 CC LL x00 x01 x02).trans h)
noncomputable def nl_i_insOk_0 (C : CallT) (L : LoopT) (x01 : List CVal) (x02 : Int) (x03 : Int) (x10 : Int) (x11 : Int) (x12 : Int) (x13 : Int) (x14 : Int) (x15 : List CVal) (x16 : Int) : Option (LO k_i_insOk_0.T) :=
  br (decide (x03 < x02))
    (br (decide ((0 : Int) ≤ x03) && true)
      (x01[x03.toNat]?.bind fun y =>
        br (CVal.fits false (1 : Nat) y)
          ((y.cell (0 : Nat)).bind fun c =>
            (br (!decide (x10 = (14 : Int))) (some (true, PUnit.unit))
                  (br (decide ((200 : Int) < (↑x15.length : Int))) (some (true, PUnit.unit))
                    (br (decide ((0 : Int) < x03))
                      (br (decide ((0 : Int) ≤ IntKind.i64.wrap (x03 - (1 : Int))) && true)
                        (x15[(IntKind.i64.wrap (x03 - (1 : Int))).toNat]?.bind fun y =>
                          br (CVal.fits false (1 : Nat) y)
                            ((y.cell (0 : Nat)).bind fun c_1 =>
                              (CVal.asInt IntKind.i64 c_1).bind fun n =>
                                (CVal.asInt IntKind.i64 c).bind fun n_1 => some (decide (n_1 ≤ n), PUnit.unit))
                            none)
                        none)
                      (some (false, PUnit.unit))))).bind
              fun y =>
              br y.1 (some (LO.ret (CVal.bool false, [])))
                (L f_i_insOk (0 : Nat) lc_i_insOk_0 [] k_i_insOk_0
                  ((PUnit.unit, x01, x02, IntKind.i64.wrap (x03 + (1 : Int)), PUnit.unit),
                    (x10, x11, x12, x13, x14, x15, x16, PUnit.unit), PUnit.unit)))
          none)
      none)
    (some
      (LO.out (0 : Nat)
        ((PUnit.unit, x01, x02, x03, PUnit.unit), (x10, x11, x12, x13, x14, x15, x16, PUnit.unit), PUnit.unit)))
theorem el_i_insOk_0 (C : CallT) (L : LoopT) (x01 : List CVal) (x02 : Int) (x03 : Int) (x10 : Int) (x11 : Int) (x12 : Int) (x13 : Int) (x14 : Int) (x15 : List CVal) (x16 : Int) : evL E N C L f_i_insOk 0 lc_i_insOk_0 [] k_i_insOk_0 (((), x01, x02, x03, ()), (x10, x11, x12, x13, x14, x15, x16, ()), ()) = nl_i_insOk_0 C L x01 x02 x03 x10 x11 x12 x13 x14 x15 x16 := by kernel_rfl
theorem gl_i_insOk_0 (x01 : List CVal) (x02 : Int) (x03 : Int) (x10 : Int) (x11 : Int) (x12 : Int) (x13 : Int) (x14 : Int) (x15 : List CVal) (x16 : Int) (R : LO k_i_insOk_0.T) (h : nl_i_insOk_0 CC LL x01 x02 x03 x10 x11 x12 x13 x14 x15 x16 = some R) : LL f_i_insOk 0 lc_i_insOk_0 [] k_i_insOk_0 (((), x01, x02, x03, ()), (x10, x11, x12, x13, x14, x15, x16, ()), ()) = some R := loopW ((el_i_insOk_0 CC LL x01 x02 x03 x10 x11 x12 x13 x14 x15 x16).trans h)
end Go.Proofs.Ytomkegeojknihaa.Abs
