/- What the functions come to in the abstract machine. -/
import Derived.Test.YtomkegeojknihaaU1Ann
import Derived.KernelRfl
set_option linter.unusedVariables false
set_option maxRecDepth 100000
namespace Go.Proofs.Ytomkegeojknihaa.Abs
open Go Go.Proofs
noncomputable def nf_l_szCode (C : CallT) (L : LoopT) (a0 : List CVal) (a10 : Int) (a11 : Int) (a12 : Int) (a13 : List CVal) (b : Int) : Option Ret :=
  (C f_l_szPieceS [AVal.v (CVal.sl a0), AVal.v (CVal.int IntKind.i64 b)] []).bind fun r =>
    (CVal.asInt IntKind.i64 r.1).bind fun n =>
      br (decide (n < (0 : Int))) (some (CVal.int IntKind.i64 (-1 : Int), []))
        ((C f_l_szPiece
              [AVal.v
                  (CVal.agg [CVal.int IntKind.i64 a10, CVal.int IntKind.i64 a11, CVal.int IntKind.i64 a12, CVal.sl a13]),
                AVal.v r.1]
              []).bind
          fun r =>
          (CVal.asInt IntKind.i64 r.1).bind fun n =>
            br (decide (n < (0 : Int))) (some (CVal.int IntKind.i64 (-1 : Int), [])) (some (r.1, [])))
theorem eq_l_szCode (C : CallT) (L : LoopT) (a0 : List CVal) (a10 : Int) (a11 : Int) (a12 : Int) (a13 : List CVal) (b : Int) : evF E N C L f_l_szCode [AVal.v
    (CVal.agg [CVal.sl a0, CVal.int IntKind.i64 a10, CVal.int IntKind.i64 a11, CVal.int IntKind.i64 a12, CVal.sl a13]),
  AVal.v (CVal.int IntKind.i64 b)] [] = nf_l_szCode C L a0 a10 a11 a12 a13 b := by kernel_rfl
theorem go_l_szCode (a0 : List CVal) (a10 : Int) (a11 : Int) (a12 : Int) (a13 : List CVal) (b : Int) (R : Ret) (h : nf_l_szCode CC LL a0 a10 a11 a12 a13 b = some R) : CC f_l_szCode [AVal.v
    (CVal.agg [CVal.sl a0, CVal.int IntKind.i64 a10, CVal.int IntKind.i64 a11, CVal.int IntKind.i64 a12, CVal.sl a13]),
  AVal.v (CVal.int IntKind.i64 b)] [] = some R := fnW (by decide) rfl ((eq_l_szCode CC LL a0 a10 a11 a12 a13 b).trans h)
noncomputable def nf_l_szPiece (C : CallT) (L : LoopT) (a0 : Int) (a1 : Int) (a2 : Int) (a3 : List CVal) (b : Int) : Option Ret :=
  (C f_l_szInsS [AVal.v (CVal.sl a3), AVal.v (CVal.int IntKind.i64 b)] []).bind fun r =>
    (CVal.asInt IntKind.i64 r.1).bind fun n =>
      br (decide (n < (0 : Int))) (some (CVal.int IntKind.i64 (-1 : Int), [])) (some (r.1, []))
theorem eq_l_szPiece (C : CallT) (L : LoopT) (a0 : Int) (a1 : Int) (a2 : Int) (a3 : List CVal) (b : Int) : evF E N C L f_l_szPiece [AVal.v (CVal.agg [CVal.int IntKind.i64 a0, CVal.int IntKind.i64 a1, CVal.int IntKind.i64 a2, CVal.sl a3]),
  AVal.v (CVal.int IntKind.i64 b)] [] = nf_l_szPiece C L a0 a1 a2 a3 b := by kernel_rfl
theorem go_l_szPiece (a0 : Int) (a1 : Int) (a2 : Int) (a3 : List CVal) (b : Int) (R : Ret) (h : nf_l_szPiece CC LL a0 a1 a2 a3 b = some R) : CC f_l_szPiece [AVal.v (CVal.agg [CVal.int IntKind.i64 a0, CVal.int IntKind.i64 a1, CVal.int IntKind.i64 a2, CVal.sl a3]),
  AVal.v (CVal.int IntKind.i64 b)] [] = some R := fnW (by decide) rfl ((eq_l_szPiece CC LL a0 a1 a2 a3 b).trans h)
noncomputable def nf_l_eqPieceS (C : CallT) (L : LoopT) (a : List CVal) (b : List CVal) : Option Ret :=
  br (!decide ((↑a.length : Int) = (↑b.length : Int))) (some (CVal.bool false, []))
    ((L f_l_eqPieceS (0 : Nat) lc_l_eqPieceS_0 [] k_l_eqPieceS_0 ((a, b, (0 : Int), PUnit.unit), PUnit.unit)).bind
      fun r => loK r (fun r => some r) fun j p => br (j == (0 : Nat)) (some (CVal.bool true, [])) none)
theorem eq_l_eqPieceS (C : CallT) (L : LoopT) (a : List CVal) (b : List CVal) : evF E N C L f_l_eqPieceS [AVal.v (CVal.sl a), AVal.v (CVal.sl b)] [] = nf_l_eqPieceS C L a b := by kernel_rfl
theorem go_l_eqPieceS (a : List CVal) (b : List CVal) (R : Ret) (h : nf_l_eqPieceS CC LL a b = some R) : CC f_l_eqPieceS [AVal.v (CVal.sl a), AVal.v (CVal.sl b)] [] = some R := fnW (by decide) rfl ((eq_l_eqPieceS CC LL a b).trans h)
noncomputable def nf_slices_ContainsFunc_Ins (C : CallT) (L : LoopT) (a : List CVal) (b : CVal) : Option Ret :=
  (C f_slices_IndexFunc_Ins [AVal.v (CVal.sl a), AVal.v b] []).bind fun r =>
    (CVal.asInt IntKind.i64 r.1).bind fun n => some (CVal.bool (decide ((0 : Int) ≤ n)), [])
theorem eq_slices_ContainsFunc_Ins (C : CallT) (L : LoopT) (a : List CVal) (b : CVal) : evF E N C L f_slices_ContainsFunc_Ins [AVal.v (CVal.sl a), AVal.v b] [] = nf_slices_ContainsFunc_Ins C L a b := by kernel_rfl
theorem go_slices_ContainsFunc_Ins (a : List CVal) (b : CVal) (R : Ret) (h : nf_slices_ContainsFunc_Ins CC LL a b = some R) : CC f_slices_ContainsFunc_Ins [AVal.v (CVal.sl a), AVal.v b] [] = some R := fnW (by decide) rfl ((eq_slices_ContainsFunc_Ins CC LL a b).trans h)
noncomputable def nf_slices_IndexFunc_Ins (C : CallT) (L : LoopT) (a : List CVal) (b : CVal) : Option Ret :=
  (L f_slices_IndexFunc_Ins (0 : Nat) lc_slices_IndexFunc_Ins_0 [] k_slices_IndexFunc_Ins_0
        ((a, b, (↑a.length : Int), (0 : Int), PUnit.unit), PUnit.unit)).bind
    fun r => loK r (fun r => some r) fun j p => br (j == (0 : Nat)) (some (CVal.int IntKind.i64 (-1 : Int), [])) none
theorem eq_slices_IndexFunc_Ins (C : CallT) (L : LoopT) (a : List CVal) (b : CVal) : evF E N C L f_slices_IndexFunc_Ins [AVal.v (CVal.sl a), AVal.v b] [] = nf_slices_IndexFunc_Ins C L a b := by kernel_rfl
theorem go_slices_IndexFunc_Ins (a : List CVal) (b : CVal) (R : Ret) (h : nf_slices_IndexFunc_Ins CC LL a b = some R) : CC f_slices_IndexFunc_Ins [AVal.v (CVal.sl a), AVal.v b] [] = some R := fnW (by decide) rfl ((eq_slices_IndexFunc_Ins CC LL a b).trans h)
noncomputable def nf_i_hasPart (C : CallT) (L : LoopT) (a : Int) (b : Int) : Option Ret :=
  (C f_i_insForm [AVal.v (CVal.int IntKind.i64 a)] []).bind fun r =>
    r.1.asTup.bind fun y =>
      y[(0 : Nat)]?.bind fun y =>
        r.1.asTup.bind fun y_1 =>
          y_1[(1 : Nat)]?.bind fun y_2 =>
            y.asStr.bind fun s =>
              br (decide (s.length ≤ (4294967296 : Nat)))
                ((C f_slices_Contains_byte [AVal.v (CVal.sl (bytesC s)), AVal.v (CVal.int IntKind.u8 b)] []).bind fun r =>
                  some (r.1, []))
                none
theorem eq_i_hasPart (C : CallT) (L : LoopT) (a : Int) (b : Int) : evF E N C L f_i_hasPart [AVal.v (CVal.int IntKind.i64 a), AVal.v (CVal.int IntKind.u8 b)] [] = nf_i_hasPart C L a b := by kernel_rfl
theorem go_i_hasPart (a : Int) (b : Int) (R : Ret) (h : nf_i_hasPart CC LL a b = some R) : CC f_i_hasPart [AVal.v (CVal.int IntKind.i64 a), AVal.v (CVal.int IntKind.u8 b)] [] = some R := fnW (by decide) rfl ((eq_i_hasPart CC LL a b).trans h)
noncomputable def nf_slices_IndexFunc_int (C : CallT) (L : LoopT) (a : List CVal) (b : CVal) : Option Ret :=
  (L f_slices_IndexFunc_int (0 : Nat) lc_slices_IndexFunc_int_0 [] k_slices_IndexFunc_int_0
        ((a, b, (↑a.length : Int), (0 : Int), PUnit.unit), PUnit.unit)).bind
    fun r => loK r (fun r => some r) fun j p => br (j == (0 : Nat)) (some (CVal.int IntKind.i64 (-1 : Int), [])) none
theorem eq_slices_IndexFunc_int (C : CallT) (L : LoopT) (a : List CVal) (b : CVal) : evF E N C L f_slices_IndexFunc_int [AVal.v (CVal.sl a), AVal.v b] [] = nf_slices_IndexFunc_int C L a b := by kernel_rfl
theorem go_slices_IndexFunc_int (a : List CVal) (b : CVal) (R : Ret) (h : nf_slices_IndexFunc_int CC LL a b = some R) : CC f_slices_IndexFunc_int [AVal.v (CVal.sl a), AVal.v b] [] = some R := fnW (by decide) rfl ((eq_slices_IndexFunc_int CC LL a b).trans h)
noncomputable def nl_s_l9Piece_0 (C : CallT) (L : LoopT) (x00 : CVal) (x01 : Int) (x02 : Int) : Option (LO k_s_l9Piece_0.T) :=
  br (decide (x02 < x01))
    (x00.asFp.bind fun y =>
      (y.1.sub y.2 (4 : Nat)).bind fun y =>
        x00.asFp.bind fun y_1 =>
          (y_1.1.cell (y_1.2 + (3 : Nat))).bind fun c =>
            br (decide ((0 : Int) ≤ x02) && true)
              (c.asSl.bind fun xs =>
                xs[x02.toNat]?.bind fun y_2 =>
                  br (CVal.fits true (7 : Nat) y_2)
                    ((y_2.sub (0 : Nat) (7 : Nat)).bind fun y_3 =>
                      (C f_s_l9Ins [AVal.v y, AVal.v y_3] []).bind fun r =>
                        r.1.asBool.bind fun b =>
                          br (!b) (some (LO.ret (CVal.bool false, [])))
                            (L f_s_l9Piece (0 : Nat) lc_s_l9Piece_0 [] k_s_l9Piece_0
                              ((x00, x01, IntKind.i64.wrap (x02 + (1 : Int)), PUnit.unit), PUnit.unit)))
                    none)
              none)
    (some (LO.out (0 : Nat) ((x00, x01, x02, PUnit.unit), PUnit.unit)))
theorem el_s_l9Piece_0 (C : CallT) (L : LoopT) (x00 : CVal) (x01 : Int) (x02 : Int) : evL E N C L f_s_l9Piece 0 lc_s_l9Piece_0 [] k_s_l9Piece_0 ((x00, x01, x02, ()), ()) = nl_s_l9Piece_0 C L x00 x01 x02 := by kernel_rfl
theorem gl_s_l9Piece_0 (x00 : CVal) (x01 : Int) (x02 : Int) (R : LO k_s_l9Piece_0.T) (h : nl_s_l9Piece_0 CC LL x00 x01 x02 = some R) : LL f_s_l9Piece 0 lc_s_l9Piece_0 [] k_s_l9Piece_0 ((x00, x01, x02, ()), ()) = some R := loopW ((el_s_l9Piece_0 CC LL x00 x01 x02).trans h)
noncomputable def nl_s_l9Fun_0 (C : CallT) (L : LoopT) (x00 : Int) (x01 : CVal) (x02 : Int) : Option (LO k_s_l9Fun_0.T) :=
  x01.asFp.bind fun y =>
    (y.1.cell (y.2 + (0 : Nat))).bind fun c =>
      c.asSl.bind fun xs =>
        br (decide (x02 < (↑xs.length : Int)))
          (x01.asFp.bind fun y =>
            (y.1.cell (y.2 + (0 : Nat))).bind fun c =>
              br (decide ((0 : Int) ≤ x02) && true)
                (c.asSl.bind fun xs =>
                  xs[x02.toNat]?.bind fun y =>
                    br (CVal.fits true (4 : Nat) y)
                      ((y.cell (0 : Nat)).bind fun c =>
                        (CVal.asInt IntKind.i64 c).bind fun n =>
                          br (decide (n = x00)) (some (LO.ret (CVal.int IntKind.i64 x02, [])))
                            (L f_s_l9Fun (0 : Nat) lc_s_l9Fun_0 [] k_s_l9Fun_0
                              ((x00, x01, IntKind.i64.wrap (x02 + (1 : Int)), PUnit.unit), PUnit.unit)))
                      none)
                none)
          (some (LO.out (0 : Nat) ((x00, x01, x02, PUnit.unit), PUnit.unit)))
theorem el_s_l9Fun_0 (C : CallT) (L : LoopT) (x00 : Int) (x01 : CVal) (x02 : Int) : evL E N C L f_s_l9Fun 0 lc_s_l9Fun_0 [] k_s_l9Fun_0 ((x00, x01, x02, ()), ()) = nl_s_l9Fun_0 C L x00 x01 x02 := by kernel_rfl
theorem gl_s_l9Fun_0 (x00 : Int) (x01 : CVal) (x02 : Int) (R : LO k_s_l9Fun_0.T) (h : nl_s_l9Fun_0 CC LL x00 x01 x02 = some R) : LL f_s_l9Fun 0 lc_s_l9Fun_0 [] k_s_l9Fun_0 ((x00, x01, x02, ()), ()) = some R := loopW ((el_s_l9Fun_0 CC LL x00 x01 x02).trans h)
noncomputable def nl_slices_IndexFunc_int_0 (C : CallT) (L : LoopT) (x00 : List CVal) (x01 : CVal) (x02 : Int) (x03 : Int) : Option (LO k_slices_IndexFunc_int_0.T) :=
  br (decide (x03 < x02))
    (br (decide ((0 : Int) ≤ x03) && true)
      (x00[x03.toNat]?.bind fun y =>
        br (CVal.fits false (1 : Nat) y)
          ((y.cell (0 : Nat)).bind fun c =>
            (C apId [AVal.v x01, AVal.v c] []).bind fun r =>
              r.1.asBool.bind fun b =>
                br b (some (LO.ret (CVal.int IntKind.i64 x03, [])))
                  (L f_slices_IndexFunc_int (0 : Nat) lc_slices_IndexFunc_int_0 [] k_slices_IndexFunc_int_0
                    ((x00, x01, x02, IntKind.i64.wrap (x03 + (1 : Int)), PUnit.unit), PUnit.unit)))
          none)
      none)
    (some (LO.out (0 : Nat) ((x00, x01, x02, x03, PUnit.unit), PUnit.unit)))
theorem el_slices_IndexFunc_int_0 (C : CallT) (L : LoopT) (x00 : List CVal) (x01 : CVal) (x02 : Int) (x03 : Int) : evL E N C L f_slices_IndexFunc_int 0 lc_slices_IndexFunc_int_0 [] k_slices_IndexFunc_int_0 ((x00, x01, x02, x03, ()), ()) = nl_slices_IndexFunc_int_0 C L x00 x01 x02 x03 := by kernel_rfl
theorem gl_slices_IndexFunc_int_0 (x00 : List CVal) (x01 : CVal) (x02 : Int) (x03 : Int) (R : LO k_slices_IndexFunc_int_0.T) (h : nl_slices_IndexFunc_int_0 CC LL x00 x01 x02 x03 = some R) : LL f_slices_IndexFunc_int 0 lc_slices_IndexFunc_int_0 [] k_slices_IndexFunc_int_0 ((x00, x01, x02, x03, ()), ()) = some R := loopW ((el_slices_IndexFunc_int_0 CC LL x00 x01 x02 x03).trans h)
end Go.Proofs.Ytomkegeojknihaa.Abs
