/- What the functions come to in the abstract machine. -/
import Derived.Test.YtomkegeojknihaaDoorV1Ann
import Derived.KernelRfl
set_option linter.unusedVariables false
set_option maxRecDepth 100000
namespace Go.Proofs.YtomkegeojknihaaDoor.Abs
open Go Go.Proofs
noncomputable def nf_l_FnExactTyText (C : CallT) (L : LoopT) (a0 : Int) (a1 : Int) (a2 : List CVal) : Option Ret :=
  (C f_l_szTy
        [AVal.v (CVal.agg [CVal.int IntKind.i64 a0, CVal.int IntKind.i64 a1, CVal.sl a2]),
          AVal.v (CVal.int IntKind.i64 (1048576 : Int))]
        []).bind
    fun r =>
    (CVal.asInt IntKind.i64 r.1).bind fun n =>
      br (decide (n < (0 : Int))) (some (CVal.bool true, []))
        ((C f_l_toTy [AVal.v (CVal.agg [CVal.int IntKind.i64 a0, CVal.int IntKind.i64 a1, CVal.sl a2])] []).bind fun r =>
          (C f_s_TyText [AVal.v r.1] []).bind fun r =>
            (C f_l_toTy [AVal.v (CVal.agg [CVal.int IntKind.i64 a0, CVal.int IntKind.i64 a1, CVal.sl a2])] []).bind
              fun r_1 =>
              br (CVal.isAggN (3 : Nat) r_1.1)
                ((r_1.1.cell (0 : Nat)).bind fun c =>
                  (r_1.1.cell (1 : Nat)).bind fun c_1 =>
                    (r_1.1.cell (2 : Nat)).bind fun c_2 =>
                      (C f_i_TyText [AVal.v (CVal.agg [c, c_1, c_2])] []).bind fun r_2 =>
                        r_2.1.asStr.bind fun s =>
                          r.1.asStr.bind fun s_1 =>
                            br (!decide (s = s_1)) (some (CVal.bool false, []))
                              ((C f_l_toTy
                                    [AVal.v (CVal.agg [CVal.int IntKind.i64 a0, CVal.int IntKind.i64 a1, CVal.sl a2])]
                                    []).bind
                                fun r =>
                                (C f_l_eqTy [AVal.v (CVal.agg [c, c_1, c_2]), AVal.v r.1] []).bind fun r =>
                                  r.1.asBool.bind fun b =>
                                    br (!b) (some (CVal.bool false, [])) (some (CVal.bool true, []))))
                none)
theorem eq_l_FnExactTyText (C : CallT) (L : LoopT) (a0 : Int) (a1 : Int) (a2 : List CVal) : evF E N C L f_l_FnExactTyText [AVal.v (CVal.agg [CVal.int IntKind.i64 a0, CVal.int IntKind.i64 a1, CVal.sl a2])] [] = nf_l_FnExactTyText C L a0 a1 a2 := by kernel_rfl
theorem go_l_FnExactTyText (a0 : Int) (a1 : Int) (a2 : List CVal) (R : Ret) (h : nf_l_FnExactTyText CC LL a0 a1 a2 = some R) : CC f_l_FnExactTyText [AVal.v (CVal.agg [CVal.int IntKind.i64 a0, CVal.int IntKind.i64 a1, CVal.sl a2])] [] = some R := fnW (by decide) rfl ((eq_l_FnExactTyText CC LL a0 a1 a2).trans h)
noncomputable def nf_i_InsText (C : CallT) (L : LoopT) (a0 : Int) (a1 : Int) (a2 : Int) (a3 : Int) (a4 : Int) (a5 : List CVal) (a6 : Int) : Option Ret :=
  br (decide ((6 : Nat) + a5.length ≤ (4294967296 : Nat)) && true && a5.all (CVal.fits false (1 : Nat)))
    ((L f_i_InsText (0 : Nat) lc_i_InsText_0 [] k_i_InsText_0
          (([], PUnit.unit,
              (↑(CVal.int IntKind.i64 a0 ::
                      CVal.int IntKind.i64 a1 ::
                        CVal.int IntKind.i64 a2 ::
                          CVal.int IntKind.i64 a3 :: CVal.int IntKind.i64 a4 :: CVal.int IntKind.i64 a6 :: a5).length :
                Int),
              (0 : Int), PUnit.unit),
            CVal.int IntKind.i64 a0 ::
              CVal.int IntKind.i64 a1 ::
                CVal.int IntKind.i64 a2 ::
                  CVal.int IntKind.i64 a3 :: CVal.int IntKind.i64 a4 :: CVal.int IntKind.i64 a6 :: a5,
            PUnit.unit)).bind
      fun r => loK r (fun r => some r) fun j p => br (j == (0 : Nat)) (some (CVal.str p.fst.1, [])) none)
    none
theorem eq_i_InsText (C : CallT) (L : LoopT) (a0 : Int) (a1 : Int) (a2 : Int) (a3 : Int) (a4 : Int) (a5 : List CVal) (a6 : Int) : evF E N C L f_i_InsText [AVal.v
    (CVal.agg
      [CVal.int IntKind.i64 a0, CVal.int IntKind.i64 a1, CVal.int IntKind.i64 a2, CVal.int IntKind.i64 a3,
        CVal.int IntKind.i64 a4, CVal.sl a5, CVal.int IntKind.i64 a6])] [] = nf_i_InsText C L a0 a1 a2 a3 a4 a5 a6 := by kernel_rfl
theorem go_i_InsText (a0 : Int) (a1 : Int) (a2 : Int) (a3 : Int) (a4 : Int) (a5 : List CVal) (a6 : Int) (R : Ret) (h : nf_i_InsText CC LL a0 a1 a2 a3 a4 a5 a6 = some R) : CC f_i_InsText [AVal.v
    (CVal.agg
      [CVal.int IntKind.i64 a0, CVal.int IntKind.i64 a1, CVal.int IntKind.i64 a2, CVal.int IntKind.i64 a3,
        CVal.int IntKind.i64 a4, CVal.sl a5, CVal.int IntKind.i64 a6])] [] = some R := fnW (by decide) rfl ((eq_i_InsText CC LL a0 a1 a2 a3 a4 a5 a6).trans h)
noncomputable def nf_s_TyText (C : CallT) (L : LoopT) (a0 : Int) (a1 : Int) (a2 : List CVal) : Option Ret :=
  (C f_s_TyOk [AVal.v (CVal.agg [CVal.int IntKind.i64 a0, CVal.int IntKind.i64 a1, CVal.sl a2])] []).bind fun r =>
    r.1.asBool.bind fun b =>
      br (!b) (some (CVal.str [], []))
        ((C f_s_l1Text [AVal.v (CVal.agg [CVal.int IntKind.i64 a0, CVal.int IntKind.i64 a1, CVal.sl a2])] []).bind
          fun r => some (r.1, []))
theorem eq_s_TyText (C : CallT) (L : LoopT) (a0 : Int) (a1 : Int) (a2 : List CVal) : evF E N C L f_s_TyText [AVal.v (CVal.agg [CVal.int IntKind.i64 a0, CVal.int IntKind.i64 a1, CVal.sl a2])] [] = nf_s_TyText C L a0 a1 a2 := by kernel_rfl
theorem go_s_TyText (a0 : Int) (a1 : Int) (a2 : List CVal) (R : Ret) (h : nf_s_TyText CC LL a0 a1 a2 = some R) : CC f_s_TyText [AVal.v (CVal.agg [CVal.int IntKind.i64 a0, CVal.int IntKind.i64 a1, CVal.sl a2])] [] = some R := fnW (by decide) rfl ((eq_s_TyText CC LL a0 a1 a2).trans h)
noncomputable def nf_l_toIntS (C : CallT) (L : LoopT) (a : List CVal) : Option Ret :=
  br (decide ((↑a.length : Int) = (↑a.length : Int)) && decide ((↑a.length : Int) ≤ (1048576 : Int)))
    ((L f_l_toIntS (0 : Nat) lc_l_toIntS_0 [] k_l_toIntS_0
          ((a, PUnit.unit, (0 : Int), PUnit.unit),
            List.replicate (↑a.length : Int).toNat (CVal.int IntKind.i64 (0 : Int)), PUnit.unit)).bind
      fun r => loK r (fun r => some r) fun j p => br (j == (0 : Nat)) (some (CVal.sl p.snd.1, [])) none)
    none
theorem eq_l_toIntS (C : CallT) (L : LoopT) (a : List CVal) : evF E N C L f_l_toIntS [AVal.v (CVal.sl a)] [] = nf_l_toIntS C L a := by kernel_rfl
theorem go_l_toIntS (a : List CVal) (R : Ret) (h : nf_l_toIntS CC LL a = some R) : CC f_l_toIntS [AVal.v (CVal.sl a)] [] = some R := fnW (by decide) rfl ((eq_l_toIntS CC LL a).trans h)
noncomputable def nf_l_toTyS (C : CallT) (L : LoopT) (a : List CVal) : Option Ret :=
  br (decide ((↑a.length : Int) = (↑a.length : Int)) && decide ((↑a.length : Int) ≤ (1048576 : Int)))
    ((L f_l_toTyS (0 : Nat) lc_l_toTyS_0 [] k_l_toTyS_0
          ((a, PUnit.unit, (0 : Int), PUnit.unit),
            List.replicate (↑a.length : Int).toNat
              (CVal.agg [CVal.int IntKind.i64 (0 : Int), CVal.int IntKind.i64 (0 : Int), CVal.sl []]),
            PUnit.unit)).bind
      fun r => loK r (fun r => some r) fun j p => br (j == (0 : Nat)) (some (CVal.sl p.snd.1, [])) none)
    none
theorem eq_l_toTyS (C : CallT) (L : LoopT) (a : List CVal) : evF E N C L f_l_toTyS [AVal.v (CVal.sl a)] [] = nf_l_toTyS C L a := by kernel_rfl
theorem go_l_toTyS (a : List CVal) (R : Ret) (h : nf_l_toTyS CC LL a = some R) : CC f_l_toTyS [AVal.v (CVal.sl a)] [] = some R := fnW (by decide) rfl ((eq_l_toTyS CC LL a).trans h)
noncomputable def nf_i_tyTokens (C : CallT) (L : LoopT) (a : List CVal) (b0 : Int) (b1 : Int) (b2 : List CVal) : Option Ret :=
  br (decide ((0 : Int) ≤ b0) && true)
    (br (decide (b0.toNat < (7 : Nat)) && true)
      ([CVal.str [], CVal.str [(105 : UInt8)], CVal.str [(98 : UInt8)], CVal.str [(118 : UInt8)],
              CVal.str [(102 : UInt8)], CVal.str [(112 : UInt8)], CVal.str [(108 : UInt8)]][b0.toNat]?.bind
        fun y =>
        (y.cell (0 : Nat)).bind fun c =>
          br (decide (b0 = (3 : Int)))
            ((C f_strconv_Itoa [AVal.v (CVal.int IntKind.i64 b1)] []).bind fun r =>
              c.asStr.bind fun s =>
                r.1.asStr.bind fun s_1 =>
                  br (decide (s.length + s_1.length ≤ (1152921504606846976 : Nat)))
                    (br (decide (a.length + (1 : Nat) ≤ (4294967296 : Nat)) && true && true)
                      ((L f_i_tyTokens (0 : Nat) lc_i_tyTokens_0 [some (1 : Nat)] k_i_tyTokens_0
                            ((PUnit.unit, b2, (↑b2.length : Int), (0 : Int), PUnit.unit), a ++ [CVal.str (s ++ s_1)],
                              PUnit.unit)).bind
                        fun r =>
                        loK r (fun r => some r) fun j p => br (j == (0 : Nat)) (some (CVal.nilp, [p.snd.1])) none)
                      none)
                    none)
            (br ([c].all (CVal.fits false (1 : Nat)))
              (br (decide (a.length + (1 : Nat) ≤ (4294967296 : Nat)) && true && [c].all (CVal.fits false (1 : Nat)))
                ((L f_i_tyTokens (0 : Nat) lc_i_tyTokens_0 [some (1 : Nat)] k_i_tyTokens_0
                      ((PUnit.unit, b2, (↑b2.length : Int), (0 : Int), PUnit.unit), a ++ [c], PUnit.unit)).bind
                  fun r => loK r (fun r => some r) fun j p => br (j == (0 : Nat)) (some (CVal.nilp, [p.snd.1])) none)
                none)
              none))
      none)
    none
theorem eq_i_tyTokens (C : CallT) (L : LoopT) (a : List CVal) (b0 : Int) (b1 : Int) (b2 : List CVal) : evF E N C L f_i_tyTokens [AVal.lref (0 : Nat) (0 : Nat), AVal.v (CVal.agg [CVal.int IntKind.i64 b0, CVal.int IntKind.i64 b1, CVal.sl b2])] [PB.mk true (1 : Nat) a] = nf_i_tyTokens C L a b0 b1 b2 := by kernel_rfl
theorem go_i_tyTokens (a : List CVal) (b0 : Int) (b1 : Int) (b2 : List CVal) (R : Ret) (h : nf_i_tyTokens CC LL a b0 b1 b2 = some R) : CC f_i_tyTokens [AVal.lref (0 : Nat) (0 : Nat), AVal.v (CVal.agg [CVal.int IntKind.i64 b0, CVal.int IntKind.i64 b1, CVal.sl b2])] [PB.mk true (1 : Nat) a] = some R := fnW (by decide) rfl ((eq_i_tyTokens CC LL a b0 b1 b2).trans h)
noncomputable def nf_i_measure (C : CallT) (L : LoopT) (a0 : Int) (a1 : Int) (a2 : List CVal) : Option Ret :=
  ((C f_i_tyParts [AVal.v (CVal.int IntKind.i64 a0)] []).bind fun r =>
        (CVal.asInt IntKind.i64 r.1).bind fun n =>
          br (!decide ((↑a2.length : Int) = n)) (some (true, PUnit.unit))
            (br (!decide (a1 = (0 : Int)))
              (br (!decide (a0 = (3 : Int))) (some (true, PUnit.unit)) (some (!decide (a1 = (1 : Int)), PUnit.unit)))
              (some (false, PUnit.unit)))).bind
    fun y =>
    br y.1 (some (CVal.tup [CVal.int IntKind.i64 (0 : Int), CVal.int IntKind.i64 (0 : Int), CVal.bool false], []))
      ((L f_i_measure (0 : Nat) lc_i_measure_0 [] k_i_measure_0
            (((0 : Int), (1 : Int), a2, (↑a2.length : Int), (0 : Int), PUnit.unit), PUnit.unit)).bind
        fun r =>
        loK r (fun r => some r) fun j p =>
          br (j == (0 : Nat))
            (some
              (CVal.tup
                  [CVal.int IntKind.i64 (IntKind.i64.wrap (p.fst.1 + (1 : Int))), CVal.int IntKind.i64 p.fst.snd.1,
                    CVal.bool true],
                []))
            none)
theorem eq_i_measure (C : CallT) (L : LoopT) (a0 : Int) (a1 : Int) (a2 : List CVal) : evF E N C L f_i_measure [AVal.v (CVal.agg [CVal.int IntKind.i64 a0, CVal.int IntKind.i64 a1, CVal.sl a2])] [] = nf_i_measure C L a0 a1 a2 := by kernel_rfl
theorem go_i_measure (a0 : Int) (a1 : Int) (a2 : List CVal) (R : Ret) (h : nf_i_measure CC LL a0 a1 a2 = some R) : CC f_i_measure [AVal.v (CVal.agg [CVal.int IntKind.i64 a0, CVal.int IntKind.i64 a1, CVal.sl a2])] [] = some R := fnW (by decide) rfl ((eq_i_measure CC LL a0 a1 a2).trans h)
noncomputable def nl_s_InsText_0 (C : CallT) (L : LoopT) (x01 : List UInt8) (x02 : Int) (x10 : Int) (x11 : Int) (x12 : Int) (x13 : Int) (x14 : Int) (x15 : List CVal) (x16 : Int) : Option (LO k_s_InsText_0.T) :=
  br (decide (x02 < (↑x15.length : Int)))
    (br (decide (x01.length + (1 : Nat) ≤ (1152921504606846976 : Nat)))
      (br (decide ((0 : Int) ≤ x02) && true)
        (x15[x02.toNat]?.bind fun y =>
          br (CVal.fits false (1 : Nat) y)
            ((y.cell (0 : Nat)).bind fun c =>
              (C f_s_l9Int [AVal.v c] []).bind fun r =>
                r.1.asStr.bind fun s =>
                  br (decide ((x01 ++ [(32 : UInt8)]).length + s.length ≤ (1152921504606846976 : Nat)))
                    (L f_s_InsText (0 : Nat) lc_s_InsText_0 [] k_s_InsText_0
                      ((PUnit.unit, x01 ++ [(32 : UInt8)] ++ s, IntKind.i64.wrap (x02 + (1 : Int)), PUnit.unit),
                        (x10, x11, x12, x13, x14, x15, x16, PUnit.unit), PUnit.unit))
                    none)
            none)
        none)
      none)
    (some
      (LO.out (0 : Nat)
        ((PUnit.unit, x01, x02, PUnit.unit), (x10, x11, x12, x13, x14, x15, x16, PUnit.unit), PUnit.unit)))
theorem el_s_InsText_0 (C : CallT) (L : LoopT) (x01 : List UInt8) (x02 : Int) (x10 : Int) (x11 : Int) (x12 : Int) (x13 : Int) (x14 : Int) (x15 : List CVal) (x16 : Int) : evL E N C L f_s_InsText 0 lc_s_InsText_0 [] k_s_InsText_0 (((), x01, x02, ()), (x10, x11, x12, x13, x14, x15, x16, ()), ()) = nl_s_InsText_0 C L x01 x02 x10 x11 x12 x13 x14 x15 x16 := by kernel_rfl
theorem gl_s_InsText_0 (x01 : List UInt8) (x02 : Int) (x10 : Int) (x11 : Int) (x12 : Int) (x13 : Int) (x14 : Int) (x15 : List CVal) (x16 : Int) (R : LO k_s_InsText_0.T) (h : nl_s_InsText_0 CC LL x01 x02 x10 x11 x12 x13 x14 x15 x16 = some R) : LL f_s_InsText 0 lc_s_InsText_0 [] k_s_InsText_0 (((), x01, x02, ()), (x10, x11, x12, x13, x14, x15, x16, ()), ()) = some R := loopW ((el_s_InsText_0 CC LL x01 x02 x10 x11 x12 x13 x14 x15 x16).trans h)
noncomputable def nl_l_szTyS_0 (C : CallT) (L : LoopT) (x00 : List CVal) (x01 : Int) (x02 : Int) : Option (LO k_l_szTyS_0.T) :=
  br (decide (x02 < (↑x00.length : Int)))
    (br (decide ((0 : Int) ≤ x02) && true)
      (x00[x02.toNat]?.bind fun y =>
        br (CVal.fits true (3 : Nat) y)
          ((y.sub (0 : Nat) (3 : Nat)).bind fun y =>
            (C f_l_szTy [AVal.v y, AVal.v (CVal.int IntKind.i64 x01)] []).bind fun r =>
              (CVal.asInt IntKind.i64 r.1).bind fun n =>
                br (decide (n < (0 : Int))) (some (LO.ret (CVal.int IntKind.i64 (-1 : Int), [])))
                  ((CVal.asInt IntKind.i64 r.1).bind fun n =>
                    L f_l_szTyS (0 : Nat) lc_l_szTyS_0 [] k_l_szTyS_0
                      ((x00, n, IntKind.i64.wrap (x02 + (1 : Int)), PUnit.unit), PUnit.unit)))
          none)
      none)
    (some (LO.out (0 : Nat) ((x00, x01, x02, PUnit.unit), PUnit.unit)))
theorem el_l_szTyS_0 (C : CallT) (L : LoopT) (x00 : List CVal) (x01 : Int) (x02 : Int) : evL E N C L f_l_szTyS 0 lc_l_szTyS_0 [] k_l_szTyS_0 ((x00, x01, x02, ()), ()) = nl_l_szTyS_0 C L x00 x01 x02 := by kernel_rfl
theorem gl_l_szTyS_0 (x00 : List CVal) (x01 : Int) (x02 : Int) (R : LO k_l_szTyS_0.T) (h : nl_l_szTyS_0 CC LL x00 x01 x02 = some R) : LL f_l_szTyS 0 lc_l_szTyS_0 [] k_l_szTyS_0 ((x00, x01, x02, ()), ()) = some R := loopW ((el_l_szTyS_0 CC LL x00 x01 x02).trans h)
noncomputable def nl_l_eqTyS_0 (C : CallT) (L : LoopT) (x00 : List CVal) (x01 : List CVal) (x02 : Int) : Option (LO k_l_eqTyS_0.T) :=
  br (decide (x02 < (↑x00.length : Int)))
    (br (decide ((0 : Int) ≤ x02) && true)
      (x00[x02.toNat]?.bind fun y =>
        br (CVal.fits true (3 : Nat) y)
          ((y.sub (0 : Nat) (3 : Nat)).bind fun y =>
            br (decide ((0 : Int) ≤ x02) && true)
              (x01[x02.toNat]?.bind fun y_1 =>
                br (CVal.fits true (3 : Nat) y_1)
                  ((y_1.sub (0 : Nat) (3 : Nat)).bind fun y_2 =>
                    (C f_l_eqTy [AVal.v y, AVal.v y_2] []).bind fun r =>
                      r.1.asBool.bind fun b =>
                        br (!b) (some (LO.ret (CVal.bool false, [])))
                          (L f_l_eqTyS (0 : Nat) lc_l_eqTyS_0 [] k_l_eqTyS_0
                            ((x00, x01, IntKind.i64.wrap (x02 + (1 : Int)), PUnit.unit), PUnit.unit)))
                  none)
              none)
          none)
      none)
    (some (LO.out (0 : Nat) ((x00, x01, x02, PUnit.unit), PUnit.unit)))
theorem el_l_eqTyS_0 (C : CallT) (L : LoopT) (x00 : List CVal) (x01 : List CVal) (x02 : Int) : evL E N C L f_l_eqTyS 0 lc_l_eqTyS_0 [] k_l_eqTyS_0 ((x00, x01, x02, ()), ()) = nl_l_eqTyS_0 C L x00 x01 x02 := by kernel_rfl
theorem gl_l_eqTyS_0 (x00 : List CVal) (x01 : List CVal) (x02 : Int) (R : LO k_l_eqTyS_0.T) (h : nl_l_eqTyS_0 CC LL x00 x01 x02 = some R) : LL f_l_eqTyS 0 lc_l_eqTyS_0 [] k_l_eqTyS_0 ((x00, x01, x02, ()), ()) = some R := loopW ((el_l_eqTyS_0 CC LL x00 x01 x02).trans h)
end Go.Proofs.YtomkegeojknihaaDoor.Abs
