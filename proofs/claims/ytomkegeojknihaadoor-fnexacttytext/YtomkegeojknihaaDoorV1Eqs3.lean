/- What the functions come to in the abstract machine. -/
import Derived.Test.YtomkegeojknihaaDoorV1Ann
import Derived.KernelRfl
set_option linter.unusedVariables false
set_option maxRecDepth 100000
namespace Go.Proofs.YtomkegeojknihaaDoor.Abs
open Go Go.Proofs
noncomputable def nf_l_toIns (C : CallT) (L : LoopT) (a0 : Int) (a1 : Int) (a2 : Int) (a3 : Int) (a4 : Int) (a5 : List CVal) (a6 : Int) : Option Ret :=
  (C f_l_toIntS [AVal.v (CVal.sl a5)] []).bind fun r =>
    br (r.1.isFlat && true)
      (some
        (CVal.agg
            [CVal.int IntKind.i64 a0, CVal.int IntKind.i64 a1, CVal.int IntKind.i64 a2, CVal.int IntKind.i64 a3,
              CVal.int IntKind.i64 a4, r.1, CVal.int IntKind.i64 a6],
          []))
      none
theorem eq_l_toIns (C : CallT) (L : LoopT) (a0 : Int) (a1 : Int) (a2 : Int) (a3 : Int) (a4 : Int) (a5 : List CVal) (a6 : Int) : evF E N C L f_l_toIns [AVal.v
    (CVal.agg
      [CVal.int IntKind.i64 a0, CVal.int IntKind.i64 a1, CVal.int IntKind.i64 a2, CVal.int IntKind.i64 a3,
        CVal.int IntKind.i64 a4, CVal.sl a5, CVal.int IntKind.i64 a6])] [] = nf_l_toIns C L a0 a1 a2 a3 a4 a5 a6 := by kernel_rfl
theorem go_l_toIns (a0 : Int) (a1 : Int) (a2 : Int) (a3 : Int) (a4 : Int) (a5 : List CVal) (a6 : Int) (R : Ret) (h : nf_l_toIns CC LL a0 a1 a2 a3 a4 a5 a6 = some R) : CC f_l_toIns [AVal.v
    (CVal.agg
      [CVal.int IntKind.i64 a0, CVal.int IntKind.i64 a1, CVal.int IntKind.i64 a2, CVal.int IntKind.i64 a3,
        CVal.int IntKind.i64 a4, CVal.sl a5, CVal.int IntKind.i64 a6])] [] = some R := fnW (by decide) rfl ((eq_l_toIns CC LL a0 a1 a2 a3 a4 a5 a6).trans h)
noncomputable def nf_l_szTy (C : CallT) (L : LoopT) (a0 : Int) (a1 : Int) (a2 : List CVal) (b : Int) : Option Ret :=
  (C f_l_szTyS [AVal.v (CVal.sl a2), AVal.v (CVal.int IntKind.i64 b)] []).bind fun r =>
    (CVal.asInt IntKind.i64 r.1).bind fun n =>
      br (decide (n < (0 : Int))) (some (CVal.int IntKind.i64 (-1 : Int), [])) (some (r.1, []))
theorem eq_l_szTy (C : CallT) (L : LoopT) (a0 : Int) (a1 : Int) (a2 : List CVal) (b : Int) : evF E N C L f_l_szTy [AVal.v (CVal.agg [CVal.int IntKind.i64 a0, CVal.int IntKind.i64 a1, CVal.sl a2]), AVal.v (CVal.int IntKind.i64 b)] [] = nf_l_szTy C L a0 a1 a2 b := by kernel_rfl
theorem go_l_szTy (a0 : Int) (a1 : Int) (a2 : List CVal) (b : Int) (R : Ret) (h : nf_l_szTy CC LL a0 a1 a2 b = some R) : CC f_l_szTy [AVal.v (CVal.agg [CVal.int IntKind.i64 a0, CVal.int IntKind.i64 a1, CVal.sl a2]), AVal.v (CVal.int IntKind.i64 b)] [] = some R := fnW (by decide) rfl ((eq_l_szTy CC LL a0 a1 a2 b).trans h)
noncomputable def nf_l_eqTy (C : CallT) (L : LoopT) (a0 : Int) (a1 : Int) (a2 : List CVal) (b0 : Int) (b1 : Int) (b2 : List CVal) : Option Ret :=
  br (!decide (a0 = b0)) (some (CVal.bool false, []))
    (br (!decide (a1 = b1)) (some (CVal.bool false, []))
      ((C f_l_eqTyS [AVal.v (CVal.sl a2), AVal.v (CVal.sl b2)] []).bind fun r =>
        r.1.asBool.bind fun b => br (!b) (some (CVal.bool false, [])) (some (CVal.bool true, []))))
theorem eq_l_eqTy (C : CallT) (L : LoopT) (a0 : Int) (a1 : Int) (a2 : List CVal) (b0 : Int) (b1 : Int) (b2 : List CVal) : evF E N C L f_l_eqTy [AVal.v (CVal.agg [CVal.int IntKind.i64 a0, CVal.int IntKind.i64 a1, CVal.sl a2]),
  AVal.v (CVal.agg [CVal.int IntKind.i64 b0, CVal.int IntKind.i64 b1, CVal.sl b2])] [] = nf_l_eqTy C L a0 a1 a2 b0 b1 b2 := by kernel_rfl
theorem go_l_eqTy (a0 : Int) (a1 : Int) (a2 : List CVal) (b0 : Int) (b1 : Int) (b2 : List CVal) (R : Ret) (h : nf_l_eqTy CC LL a0 a1 a2 b0 b1 b2 = some R) : CC f_l_eqTy [AVal.v (CVal.agg [CVal.int IntKind.i64 a0, CVal.int IntKind.i64 a1, CVal.sl a2]),
  AVal.v (CVal.agg [CVal.int IntKind.i64 b0, CVal.int IntKind.i64 b1, CVal.sl b2])] [] = some R := fnW (by decide) rfl ((eq_l_eqTy CC LL a0 a1 a2 b0 b1 b2).trans h)
noncomputable def nf_l_eqIntS (C : CallT) (L : LoopT) (a : List CVal) (b : List CVal) : Option Ret :=
  br (!decide ((↑a.length : Int) = (↑b.length : Int))) (some (CVal.bool false, []))
    ((L f_l_eqIntS (0 : Nat) lc_l_eqIntS_0 [] k_l_eqIntS_0 ((a, b, (0 : Int), PUnit.unit), PUnit.unit)).bind fun r =>
      loK r (fun r => some r) fun j p => br (j == (0 : Nat)) (some (CVal.bool true, [])) none)
theorem eq_l_eqIntS (C : CallT) (L : LoopT) (a : List CVal) (b : List CVal) : evF E N C L f_l_eqIntS [AVal.v (CVal.sl a), AVal.v (CVal.sl b)] [] = nf_l_eqIntS C L a b := by kernel_rfl
theorem go_l_eqIntS (a : List CVal) (b : List CVal) (R : Ret) (h : nf_l_eqIntS CC LL a b = some R) : CC f_l_eqIntS [AVal.v (CVal.sl a), AVal.v (CVal.sl b)] [] = some R := fnW (by decide) rfl ((eq_l_eqIntS CC LL a b).trans h)
noncomputable def nf_s_l1Text (C : CallT) (L : LoopT) (a0 : Int) (a1 : Int) (a2 : List CVal) : Option Ret :=
  br (decide ((0 : Int) ≤ a0) && true)
    (br (decide (a0.toNat < (7 : Nat)) && true)
      ([CVal.str [], CVal.str [(105 : UInt8)], CVal.str [(98 : UInt8)], CVal.str [(118 : UInt8)],
              CVal.str [(102 : UInt8)], CVal.str [(112 : UInt8)], CVal.str [(108 : UInt8)]][a0.toNat]?.bind
        fun y =>
        (y.cell (0 : Nat)).bind fun c =>
          br (decide (a0 = (3 : Int)))
            (c.asStr.bind fun s =>
              br (decide (s.length + (1 : Nat) ≤ (1152921504606846976 : Nat)))
                ((L f_s_l1Text (0 : Nat) lc_s_l1Text_0 [] k_s_l1Text_0
                      ((PUnit.unit, s ++ [UInt8.ofNat (IntKind.u8.wrap (IntKind.i64.wrap ((48 : Int) + a1))).toNat],
                          (0 : Int), PUnit.unit),
                        (a0, a1, a2, PUnit.unit), PUnit.unit)).bind
                  fun r => loK r (fun r => some r) fun j p => br (j == (0 : Nat)) (some (CVal.str p.fst.snd.1, [])) none)
                none)
            (c.asStr.bind fun s =>
              (L f_s_l1Text (0 : Nat) lc_s_l1Text_0 [] k_s_l1Text_0
                    ((PUnit.unit, s, (0 : Int), PUnit.unit), (a0, a1, a2, PUnit.unit), PUnit.unit)).bind
                fun r => loK r (fun r => some r) fun j p => br (j == (0 : Nat)) (some (CVal.str p.fst.snd.1, [])) none))
      none)
    none
theorem eq_s_l1Text (C : CallT) (L : LoopT) (a0 : Int) (a1 : Int) (a2 : List CVal) : evF E N C L f_s_l1Text [AVal.v (CVal.agg [CVal.int IntKind.i64 a0, CVal.int IntKind.i64 a1, CVal.sl a2])] [] = nf_s_l1Text C L a0 a1 a2 := by kernel_rfl
theorem go_s_l1Text (a0 : Int) (a1 : Int) (a2 : List CVal) (R : Ret) (h : nf_s_l1Text CC LL a0 a1 a2 = some R) : CC f_s_l1Text [AVal.v (CVal.agg [CVal.int IntKind.i64 a0, CVal.int IntKind.i64 a1, CVal.sl a2])] [] = some R := fnW (by decide) rfl ((eq_s_l1Text CC LL a0 a1 a2).trans h)
noncomputable def nf_s_l2Int (C : CallT) (L : LoopT) (a : Int) : Option Ret :=
  br (decide (a < (0 : Int)))
    ((C f_s_l2Int [AVal.v (CVal.int IntKind.i64 (IntKind.i64.wrap ((0 : Int) - a)))] []).bind fun r =>
      r.1.asStr.bind fun s =>
        br (decide ((1 : Nat) + s.length ≤ (1152921504606846976 : Nat))) (some (CVal.str ([(45 : UInt8)] ++ s), [])) none)
    (br (decide (a < (10 : Int)))
      (some (CVal.str [UInt8.ofNat (IntKind.u8.wrap (IntKind.i64.wrap ((48 : Int) + a))).toNat], []))
      ((C f_s_l2Int [AVal.v (CVal.int IntKind.i64 (IntKind.i64.wrap (a.tdiv (10 : Int))))] []).bind fun r =>
        r.1.asStr.bind fun s =>
          br (decide (s.length + (1 : Nat) ≤ (1152921504606846976 : Nat)))
            (some
              (CVal.str (s ++ [UInt8.ofNat (IntKind.u8.wrap (IntKind.i64.wrap ((48 : Int) + a.tmod (10 : Int)))).toNat]),
                []))
            none))
theorem eq_s_l2Int (C : CallT) (L : LoopT) (a : Int) : evF E N C L f_s_l2Int [AVal.v (CVal.int IntKind.i64 a)] [] = nf_s_l2Int C L a := by kernel_rfl
theorem go_s_l2Int (a : Int) (R : Ret) (h : nf_s_l2Int CC LL a = some R) : CC f_s_l2Int [AVal.v (CVal.int IntKind.i64 a)] [] = some R := fnW (by decide) rfl ((eq_s_l2Int CC LL a).trans h)
noncomputable def nf_s_l1In (C : CallT) (L : LoopT) (a : Int) (b : Int) (c : Int) : Option Ret :=
  (br (decide (b ≤ a)) (some (decide (a ≤ c), PUnit.unit)) (some (false, PUnit.unit))).bind fun y =>
    some (CVal.bool y.1, [])
theorem eq_s_l1In (C : CallT) (L : LoopT) (a : Int) (b : Int) (c : Int) : evF E N C L f_s_l1In [AVal.v (CVal.int IntKind.i64 a), AVal.v (CVal.int IntKind.i64 b), AVal.v (CVal.int IntKind.i64 c)] [] = nf_s_l1In C L a b c := by kernel_rfl
theorem go_s_l1In (a : Int) (b : Int) (c : Int) (R : Ret) (h : nf_s_l1In CC LL a b c = some R) : CC f_s_l1In [AVal.v (CVal.int IntKind.i64 a), AVal.v (CVal.int IntKind.i64 b), AVal.v (CVal.int IntKind.i64 c)] [] = some R := fnW (by decide) rfl ((eq_s_l1In CC LL a b c).trans h)
noncomputable def nl_l_toIntS_0 (C : CallT) (L : LoopT) (x00 : List CVal) (x02 : Int) (x1 : List CVal) : Option (LO k_l_toIntS_0.T) :=
  br (decide (x02 < (↑x00.length : Int)))
    (br (decide ((0 : Int) ≤ x02) && true)
      (x00[x02.toNat]?.bind fun y =>
        br (CVal.fits false (1 : Nat) y)
          ((y.cell (0 : Nat)).bind fun c =>
            br (decide ((0 : Int) ≤ x02) && true)
              (br (decide (x02.toNat < x1.length) && true)
                (x1[x02.toNat]?.bind fun y =>
                  br (CVal.fits false (1 : Nat) c)
                    (br (CVal.fits false (1 : Nat) y)
                      (L f_l_toIntS (0 : Nat) lc_l_toIntS_0 [] k_l_toIntS_0
                        ((x00, PUnit.unit, IntKind.i64.wrap (x02 + (1 : Int)), PUnit.unit), x1.set x02.toNat c,
                          PUnit.unit))
                      (br (y.isAgg && decide ((0 : Nat) + c.cells.length ≤ y.cells.length))
                        (L f_l_toIntS (0 : Nat) lc_l_toIntS_0 [] k_l_toIntS_0
                          ((x00, PUnit.unit, IntKind.i64.wrap (x02 + (1 : Int)), PUnit.unit),
                            x1.set x02.toNat (CVal.agg (splice y.cells (0 : Nat) c.cells)), PUnit.unit))
                        none))
                    none)
                none)
              none)
          none)
      none)
    (some (LO.out (0 : Nat) ((x00, PUnit.unit, x02, PUnit.unit), x1, PUnit.unit)))
theorem el_l_toIntS_0 (C : CallT) (L : LoopT) (x00 : List CVal) (x02 : Int) (x1 : List CVal) : evL E N C L f_l_toIntS 0 lc_l_toIntS_0 [] k_l_toIntS_0 ((x00, (), x02, ()), x1, ()) = nl_l_toIntS_0 C L x00 x02 x1 := by kernel_rfl
theorem gl_l_toIntS_0 (x00 : List CVal) (x02 : Int) (x1 : List CVal) (R : LO k_l_toIntS_0.T) (h : nl_l_toIntS_0 CC LL x00 x02 x1 = some R) : LL f_l_toIntS 0 lc_l_toIntS_0 [] k_l_toIntS_0 ((x00, (), x02, ()), x1, ()) = some R := loopW ((el_l_toIntS_0 CC LL x00 x02 x1).trans h)
noncomputable def nl_s_l1Text_0 (C : CallT) (L : LoopT) (x01 : List UInt8) (x02 : Int) (x10 : Int) (x11 : Int) (x12 : List CVal) : Option (LO k_s_l1Text_0.T) :=
  br (decide (x02 < (↑x12.length : Int)))
    (br (decide (x01.length + (1 : Nat) ≤ (1152921504606846976 : Nat)))
      (br (decide ((0 : Int) ≤ x02) && true)
        (x12[x02.toNat]?.bind fun y =>
          br (CVal.fits true (3 : Nat) y)
            ((y.sub (0 : Nat) (3 : Nat)).bind fun y =>
              (C f_s_l1Text [AVal.v y] []).bind fun r =>
                r.1.asStr.bind fun s =>
                  br (decide ((x01 ++ [(32 : UInt8)]).length + s.length ≤ (1152921504606846976 : Nat)))
                    (L f_s_l1Text (0 : Nat) lc_s_l1Text_0 [] k_s_l1Text_0
                      ((PUnit.unit, x01 ++ [(32 : UInt8)] ++ s, IntKind.i64.wrap (x02 + (1 : Int)), PUnit.unit),
                        (x10, x11, x12, PUnit.unit), PUnit.unit))
                    none)
            none)
        none)
      none)
    (some (LO.out (0 : Nat) ((PUnit.unit, x01, x02, PUnit.unit), (x10, x11, x12, PUnit.unit), PUnit.unit)))
theorem el_s_l1Text_0 (C : CallT) (L : LoopT) (x01 : List UInt8) (x02 : Int) (x10 : Int) (x11 : Int) (x12 : List CVal) : evL E N C L f_s_l1Text 0 lc_s_l1Text_0 [] k_s_l1Text_0 (((), x01, x02, ()), (x10, x11, x12, ()), ()) = nl_s_l1Text_0 C L x01 x02 x10 x11 x12 := by kernel_rfl
theorem gl_s_l1Text_0 (x01 : List UInt8) (x02 : Int) (x10 : Int) (x11 : Int) (x12 : List CVal) (R : LO k_s_l1Text_0.T) (h : nl_s_l1Text_0 CC LL x01 x02 x10 x11 x12 = some R) : LL f_s_l1Text 0 lc_s_l1Text_0 [] k_s_l1Text_0 (((), x01, x02, ()), (x10, x11, x12, ()), ()) = some R := loopW ((el_s_l1Text_0 CC LL x01 x02 x10 x11 x12).trans h)
noncomputable def nl_i_measure_0 (C : CallT) (L : LoopT) (x00 : Int) (x01 : Int) (x02 : List CVal) (x03 : Int) (x04 : Int) : Option (LO k_i_measure_0.T) :=
  br (decide (x04 < x03))
    (br (decide ((0 : Int) ≤ x04) && true)
      (x02[x04.toNat]?.bind fun y =>
        br (CVal.fits true (3 : Nat) y)
          ((y.sub (0 : Nat) (3 : Nat)).bind fun y =>
            br (CVal.isAggN (3 : Nat) y)
              ((y.cell (0 : Nat)).bind fun c =>
                (y.cell (1 : Nat)).bind fun c_1 =>
                  (y.cell (2 : Nat)).bind fun c_2 =>
                    (C f_i_measure [AVal.v (CVal.agg [c, c_1, c_2])] []).bind fun r =>
                      r.1.asTup.bind fun y =>
                        y[(0 : Nat)]?.bind fun y =>
                          r.1.asTup.bind fun y_1 =>
                            y_1[(1 : Nat)]?.bind fun y_2 =>
                              r.1.asTup.bind fun y_3 =>
                                y_3[(2 : Nat)]?.bind fun y_4 =>
                                  y_4.asBool.bind fun b =>
                                    br (!b)
                                      (some
                                        (LO.ret
                                          (CVal.tup
                                              [CVal.int IntKind.i64 (0 : Int), CVal.int IntKind.i64 (0 : Int),
                                                CVal.bool false],
                                            [])))
                                      ((CVal.asInt IntKind.i64 y).bind fun n =>
                                        (CVal.asInt IntKind.i64 y_2).bind fun n_1 =>
                                          L f_i_measure (0 : Nat) lc_i_measure_0 [] k_i_measure_0
                                            ((bif decide (x00 < n) then n else x00, IntKind.i64.wrap (x01 + n_1), x02,
                                                x03, IntKind.i64.wrap (x04 + (1 : Int)), PUnit.unit),
                                              PUnit.unit)))
              none)
          none)
      none)
    (some (LO.out (0 : Nat) ((x00, x01, x02, x03, x04, PUnit.unit), PUnit.unit)))
theorem el_i_measure_0 (C : CallT) (L : LoopT) (x00 : Int) (x01 : Int) (x02 : List CVal) (x03 : Int) (x04 : Int) : evL E N C L f_i_measure 0 lc_i_measure_0 [] k_i_measure_0 ((x00, x01, x02, x03, x04, ()), ()) = nl_i_measure_0 C L x00 x01 x02 x03 x04 := by kernel_rfl
theorem gl_i_measure_0 (x00 : Int) (x01 : Int) (x02 : List CVal) (x03 : Int) (x04 : Int) (R : LO k_i_measure_0.T) (h : nl_i_measure_0 CC LL x00 x01 x02 x03 x04 = some R) : LL f_i_measure 0 lc_i_measure_0 [] k_i_measure_0 ((x00, x01, x02, x03, x04, ()), ()) = some R := loopW ((el_i_measure_0 CC LL x00 x01 x02 x03 x04).trans h)
end Go.Proofs.YtomkegeojknihaaDoor.Abs
