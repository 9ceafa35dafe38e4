/- Texts for the law FnExactSameTy. -/
import Derived.Test.YtlgonbonnjkekaaTyAnn
import Derived.KernelRfl
set_option linter.unusedVariables false
set_option maxRecDepth 100000
namespace Go.Proofs.Ytlgonbonnjkekaa.Abs
open Go Go.Proofs
/-- FnExactSameTy -/
noncomputable def nf5 (C : CallT) (L : LoopT) (a0 : Int) (a1 : Int) (a2 : List CVal) (b0 : Int) (b1 : Int) (b2 : List CVal) : Option Ret :=
  (C (13 : Nat)
        [AVal.v (CVal.agg [CVal.int Go.IntKind.i64 a0, CVal.int Go.IntKind.i64 a1, CVal.sl a2]),
          AVal.v (CVal.int Go.IntKind.i64 (1048576 : Int))]
        []).bind
    fun r =>
    (CVal.asInt Go.IntKind.i64 r.1).bind fun n =>
      br (decide (n < (0 : Int))) (some (CVal.bool true, []))
        ((C (13 : Nat)
              [AVal.v (CVal.agg [CVal.int Go.IntKind.i64 b0, CVal.int Go.IntKind.i64 b1, CVal.sl b2]), AVal.v r.1]
              []).bind
          fun r =>
          (CVal.asInt Go.IntKind.i64 r.1).bind fun n =>
            br (decide (n < (0 : Int))) (some (CVal.bool true, []))
              ((C (15 : Nat) [AVal.v (CVal.agg [CVal.int Go.IntKind.i64 a0, CVal.int Go.IntKind.i64 a1, CVal.sl a2])]
                    []).bind
                fun r =>
                (C (15 : Nat) [AVal.v (CVal.agg [CVal.int Go.IntKind.i64 b0, CVal.int Go.IntKind.i64 b1, CVal.sl b2])]
                      []).bind
                  fun r_1 =>
                  (C (14 : Nat) [AVal.v r.1, AVal.v r_1.1] []).bind fun r =>
                    (C (15 : Nat) [AVal.v (CVal.agg [CVal.int Go.IntKind.i64 a0, CVal.int Go.IntKind.i64 a1, CVal.sl a2])]
                          []).bind
                      fun r_2 =>
                      br (CVal.isAggN (3 : Nat) r_2.1)
                        ((r_2.1.cell (0 : Nat)).bind fun c =>
                          (r_2.1.cell (1 : Nat)).bind fun c_1 =>
                            (r_2.1.cell (2 : Nat)).bind fun c_2 =>
                              (C (15 : Nat)
                                    [AVal.v
                                        (CVal.agg [CVal.int Go.IntKind.i64 b0, CVal.int Go.IntKind.i64 b1, CVal.sl b2])]
                                    []).bind
                                fun r_3 =>
                                br (CVal.isAggN (3 : Nat) r_3.1)
                                  ((r_3.1.cell (0 : Nat)).bind fun c_3 =>
                                    (r_3.1.cell (1 : Nat)).bind fun c_4 =>
                                      (r_3.1.cell (2 : Nat)).bind fun c_5 =>
                                        (C (16 : Nat) [AVal.v (CVal.agg [c, c_1, c_2]), AVal.v (CVal.agg [c_3, c_4, c_5])]
                                              []).bind
                                          fun r_4 =>
                                          r_4.1.asBool.bind fun b =>
                                            r.1.asBool.bind fun b_1 =>
                                              br (!b == b_1) (some (CVal.bool false, []))
                                                ((C (15 : Nat)
                                                      [AVal.v
                                                          (CVal.agg
                                                            [CVal.int Go.IntKind.i64 a0, CVal.int Go.IntKind.i64 a1,
                                                              CVal.sl a2])]
                                                      []).bind
                                                  fun r =>
                                                  (C (17 : Nat) [AVal.v (CVal.agg [c, c_1, c_2]), AVal.v r.1] []).bind
                                                    fun r =>
                                                    r.1.asBool.bind fun b =>
                                                      br (!b) (some (CVal.bool false, []))
                                                        ((C (15 : Nat)
                                                              [AVal.v
                                                                  (CVal.agg
                                                                    [CVal.int Go.IntKind.i64 b0,
                                                                      CVal.int Go.IntKind.i64 b1, CVal.sl b2])]
                                                              []).bind
                                                          fun r =>
                                                          (C (17 : Nat) [AVal.v (CVal.agg [c_3, c_4, c_5]), AVal.v r.1]
                                                                []).bind
                                                            fun r =>
                                                            r.1.asBool.bind fun b =>
                                                              br (!b) (some (CVal.bool false, []))
                                                                (some (CVal.bool true, [])))))
                                  none)
                        none))
theorem eq5 (C : CallT) (L : LoopT) (a0 : Int) (a1 : Int) (a2 : List CVal) (b0 : Int) (b1 : Int) (b2 : List CVal) : evF E N C L 5 [AVal.v (CVal.agg [CVal.int Go.IntKind.i64 a0, CVal.int Go.IntKind.i64 a1, CVal.sl a2]),
  AVal.v (CVal.agg [CVal.int Go.IntKind.i64 b0, CVal.int Go.IntKind.i64 b1, CVal.sl b2])] [] = nf5 C L a0 a1 a2 b0 b1 b2 := by kernel_rfl
/-- szTy -/
noncomputable def nf13 (C : CallT) (L : LoopT) (a0 : Int) (a1 : Int) (a2 : List CVal) (b : Int) : Option Ret :=
  (C (27 : Nat) [AVal.v (CVal.sl a2), AVal.v (CVal.int Go.IntKind.i64 b)] []).bind fun r =>
    (CVal.asInt Go.IntKind.i64 r.1).bind fun n =>
      br (decide (n < (0 : Int))) (some (CVal.int Go.IntKind.i64 (-1 : Int), [])) (some (r.1, []))
theorem eq13 (C : CallT) (L : LoopT) (a0 : Int) (a1 : Int) (a2 : List CVal) (b : Int) : evF E N C L 13 [AVal.v (CVal.agg [CVal.int Go.IntKind.i64 a0, CVal.int Go.IntKind.i64 a1, CVal.sl a2]),
  AVal.v (CVal.int Go.IntKind.i64 b)] [] = nf13 C L a0 a1 a2 b := by kernel_rfl
/-- spec.SameTy -/
noncomputable def nf14 (C : CallT) (L : LoopT) (a0 : Int) (a1 : Int) (a2 : List CVal) (b0 : Int) (b1 : Int) (b2 : List CVal) : Option Ret :=
  (br (!decide (a0 = b0)) (some (true, PUnit.unit))
        (br (!decide (a1 = b1)) (some (true, PUnit.unit))
          (some (!decide ((↑a2.length : Int) = (↑b2.length : Int)), PUnit.unit)))).bind
    fun y =>
    br y.1 (some (CVal.bool false, []))
      ((L (14 : Nat) (0 : Nat) (loopCode Try.prog (14 : Nat) (0 : Nat)) [] k14_0
            ((PUnit.unit, PUnit.unit, (0 : Int), PUnit.unit), (a0, a1, a2, PUnit.unit), (b0, b1, b2, PUnit.unit),
              PUnit.unit)).bind
        fun r => loK r (fun r => some r) fun j p => br (j == (0 : Nat)) (some (CVal.bool true, [])) none)
theorem eq14 (C : CallT) (L : LoopT) (a0 : Int) (a1 : Int) (a2 : List CVal) (b0 : Int) (b1 : Int) (b2 : List CVal) : evF E N C L 14 [AVal.v (CVal.agg [CVal.int Go.IntKind.i64 a0, CVal.int Go.IntKind.i64 a1, CVal.sl a2]),
  AVal.v (CVal.agg [CVal.int Go.IntKind.i64 b0, CVal.int Go.IntKind.i64 b1, CVal.sl b2])] [] = nf14 C L a0 a1 a2 b0 b1 b2 := by kernel_rfl
/-- toTy -/
noncomputable def nf15 (C : CallT) (L : LoopT) (a0 : Int) (a1 : Int) (a2 : List CVal) : Option Ret :=
  (C (28 : Nat) [AVal.v (CVal.sl a2)] []).bind fun r =>
    br (r.1.isFlat && true) (some (CVal.agg [CVal.int Go.IntKind.i64 a0, CVal.int Go.IntKind.i64 a1, r.1], [])) none
theorem eq15 (C : CallT) (L : LoopT) (a0 : Int) (a1 : Int) (a2 : List CVal) : evF E N C L 15 [AVal.v (CVal.agg [CVal.int Go.IntKind.i64 a0, CVal.int Go.IntKind.i64 a1, CVal.sl a2])] [] = nf15 C L a0 a1 a2 := by kernel_rfl
/-- impl.SameTy -/
noncomputable def nf16 (C : CallT) (L : LoopT) (a0 : Int) (a1 : Int) (a2 : List CVal) (b0 : Int) (b1 : Int) (b2 : List CVal) : Option Ret :=
  (br (decide (a0 = b0))
        (br (decide (a1 = b1))
          ((C (29 : Nat) [AVal.v (CVal.sl a2), AVal.v (CVal.sl b2), AVal.v (CVal.func (16 : Nat) [])] []).bind fun r =>
            (bif true then r.1 else CVal.bool false).asBool.bind fun b => some (b, PUnit.unit))
          (some (false, PUnit.unit)))
        (some (false, PUnit.unit))).bind
    fun y => some (CVal.bool y.1, [])
theorem eq16 (C : CallT) (L : LoopT) (a0 : Int) (a1 : Int) (a2 : List CVal) (b0 : Int) (b1 : Int) (b2 : List CVal) : evF E N C L 16 [AVal.v (CVal.agg [CVal.int Go.IntKind.i64 a0, CVal.int Go.IntKind.i64 a1, CVal.sl a2]),
  AVal.v (CVal.agg [CVal.int Go.IntKind.i64 b0, CVal.int Go.IntKind.i64 b1, CVal.sl b2])] [] = nf16 C L a0 a1 a2 b0 b1 b2 := by kernel_rfl
/-- eqTy -/
noncomputable def nf17 (C : CallT) (L : LoopT) (a0 : Int) (a1 : Int) (a2 : List CVal) (b0 : Int) (b1 : Int) (b2 : List CVal) : Option Ret :=
  br (!decide (a0 = b0)) (some (CVal.bool false, []))
    (br (!decide (a1 = b1)) (some (CVal.bool false, []))
      ((C (30 : Nat) [AVal.v (CVal.sl a2), AVal.v (CVal.sl b2)] []).bind fun r =>
        r.1.asBool.bind fun b => br (!b) (some (CVal.bool false, [])) (some (CVal.bool true, []))))
theorem eq17 (C : CallT) (L : LoopT) (a0 : Int) (a1 : Int) (a2 : List CVal) (b0 : Int) (b1 : Int) (b2 : List CVal) : evF E N C L 17 [AVal.v (CVal.agg [CVal.int Go.IntKind.i64 a0, CVal.int Go.IntKind.i64 a1, CVal.sl a2]),
  AVal.v (CVal.agg [CVal.int Go.IntKind.i64 b0, CVal.int Go.IntKind.i64 b1, CVal.sl b2])] [] = nf17 C L a0 a1 a2 b0 b1 b2 := by kernel_rfl
/-- szTyS -/
noncomputable def nf27 (C : CallT) (L : LoopT) (a : List CVal) (b : Int) : Option Ret :=
  br (decide (Go.IntKind.i64.wrap (b - (↑a.length : Int)) < (0 : Int))) (some (CVal.int Go.IntKind.i64 (-1 : Int), []))
    ((L (27 : Nat) (0 : Nat) (loopCode Try.prog (27 : Nat) (0 : Nat)) [] k27_0
          ((a, Go.IntKind.i64.wrap (b - (↑a.length : Int)), (0 : Int), PUnit.unit), PUnit.unit)).bind
      fun r =>
      loK r (fun r => some r) fun j p => br (j == (0 : Nat)) (some (CVal.int Go.IntKind.i64 p.fst.snd.1, [])) none)
theorem eq27 (C : CallT) (L : LoopT) (a : List CVal) (b : Int) : evF E N C L 27 [AVal.v (CVal.sl a), AVal.v (CVal.int Go.IntKind.i64 b)] [] = nf27 C L a b := by kernel_rfl
/-- toTyS -/
noncomputable def nf28 (C : CallT) (L : LoopT) (a : List CVal) : Option Ret :=
  br (decide ((↑a.length : Int) = (↑a.length : Int)) && decide ((↑a.length : Int) ≤ (1048576 : Int)))
    ((L (28 : Nat) (0 : Nat) (loopCode Try.prog (28 : Nat) (0 : Nat)) [] k28_0
          ((a, PUnit.unit, (0 : Int), PUnit.unit),
            List.replicate (↑a.length : Int).toNat
              (CVal.agg [CVal.int Go.IntKind.i64 (0 : Int), CVal.int Go.IntKind.i64 (0 : Int), CVal.sl []]),
            PUnit.unit)).bind
      fun r => loK r (fun r => some r) fun j p => br (j == (0 : Nat)) (some (CVal.sl p.snd.1, [])) none)
    none
theorem eq28 (C : CallT) (L : LoopT) (a : List CVal) : evF E N C L 28 [AVal.v (CVal.sl a)] [] = nf28 C L a := by kernel_rfl
/-- EqualFunc -/
noncomputable def nf29 (C : CallT) (L : LoopT) (a : List CVal) (b : List CVal) : Option Ret :=
  br (!decide ((↑a.length : Int) = (↑b.length : Int))) (some (CVal.bool false, []))
    ((L (29 : Nat) (0 : Nat) (loopCode Try.prog (29 : Nat) (0 : Nat)) [] k29_0
          ((b, PUnit.unit, a, (↑a.length : Int), (0 : Int), PUnit.unit), PUnit.unit)).bind
      fun r => loK r (fun r => some r) fun j p => br (j == (0 : Nat)) (some (CVal.bool true, [])) none)
theorem eq29 (C : CallT) (L : LoopT) (a : List CVal) (b : List CVal) : evF E N C L 29 [AVal.v (CVal.sl a), AVal.v (CVal.sl b), AVal.v (CVal.func (16 : Nat) [])] [] = nf29 C L a b := by kernel_rfl
/-- eqTyS -/
noncomputable def nf30 (C : CallT) (L : LoopT) (a : List CVal) (b : List CVal) : Option Ret :=
  br (!decide ((↑a.length : Int) = (↑b.length : Int))) (some (CVal.bool false, []))
    ((L (30 : Nat) (0 : Nat) (loopCode Try.prog (30 : Nat) (0 : Nat)) [] k30_0
          ((a, b, (0 : Int), PUnit.unit), PUnit.unit)).bind
      fun r => loK r (fun r => some r) fun j p => br (j == (0 : Nat)) (some (CVal.bool true, [])) none)
theorem eq30 (C : CallT) (L : LoopT) (a : List CVal) (b : List CVal) : evF E N C L 30 [AVal.v (CVal.sl a), AVal.v (CVal.sl b)] [] = nf30 C L a b := by kernel_rfl
noncomputable def nl14_0 (C : CallT) (L : LoopT) (x02 : Int) (x10 : Int) (x11 : Int) (x12 : List CVal) (x20 : Int) (x21 : Int) (x22 : List CVal) : Option (LO Go.Proofs.Ytlgonbonnjkekaa.Abs.k14_0.T) :=
  br (decide (x02 < (↑x12.length : Int)))
    (br (decide ((0 : Int) ≤ x02) && true)
      (x12[x02.toNat]?.bind fun y =>
        br (CVal.fits true (3 : Nat) y)
          ((y.sub (nat_lit 0) (3 : Nat)).bind fun y =>
            br (decide ((0 : Int) ≤ x02) && true)
              (x22[x02.toNat]?.bind fun y_1 =>
                br (CVal.fits true (3 : Nat) y_1)
                  ((y_1.sub (nat_lit 0) (3 : Nat)).bind fun y_2 =>
                    (C (14 : Nat) [AVal.v y, AVal.v y_2] []).bind fun r =>
                      r.1.asBool.bind fun b =>
                        br (!b) (some (LO.ret (CVal.bool false, [])))
                          (L (14 : Nat) (0 : Nat) (loopCode Try.prog (14 : Nat) (0 : Nat)) [] k14_0
                            ((PUnit.unit, PUnit.unit, Go.IntKind.i64.wrap (x02 + (1 : Int)), PUnit.unit),
                              (x10, x11, x12, PUnit.unit), (x20, x21, x22, PUnit.unit), PUnit.unit)))
                  none)
              none)
          none)
      none)
    (some
      (LO.out (0 : Nat)
        ((PUnit.unit, PUnit.unit, x02, PUnit.unit), (x10, x11, x12, PUnit.unit), (x20, x21, x22, PUnit.unit),
          PUnit.unit)))
theorem el14_0 (C : CallT) (L : LoopT) (x02 : Int) (x10 : Int) (x11 : Int) (x12 : List CVal) (x20 : Int) (x21 : Int) (x22 : List CVal) : evL E N C L 14 0 (loopCode Go.Proofs.Try.prog 14 0) [] Go.Proofs.Ytlgonbonnjkekaa.Abs.k14_0 (((), (), x02, ()), (x10, x11, x12, ()), (x20, x21, x22, ()), ()) = nl14_0 C L x02 x10 x11 x12 x20 x21 x22 := by kernel_rfl
noncomputable def nl27_0 (C : CallT) (L : LoopT) (x00 : List CVal) (x01 : Int) (x02 : Int) : Option (LO Go.Proofs.Ytlgonbonnjkekaa.Abs.k27_0.T) :=
  br (decide (x02 < (↑x00.length : Int)))
    (br (decide ((0 : Int) ≤ x02) && true)
      (x00[x02.toNat]?.bind fun y =>
        br (CVal.fits true (3 : Nat) y)
          ((y.sub (nat_lit 0) (3 : Nat)).bind fun y =>
            (C (13 : Nat) [AVal.v y, AVal.v (CVal.int Go.IntKind.i64 x01)] []).bind fun r =>
              (CVal.asInt Go.IntKind.i64 r.1).bind fun n =>
                br (decide (n < (0 : Int))) (some (LO.ret (CVal.int Go.IntKind.i64 (-1 : Int), [])))
                  ((CVal.asInt Go.IntKind.i64 r.1).bind fun n =>
                    L (27 : Nat) (0 : Nat) (loopCode Try.prog (27 : Nat) (0 : Nat)) [] k27_0
                      ((x00, n, Go.IntKind.i64.wrap (x02 + (1 : Int)), PUnit.unit), PUnit.unit)))
          none)
      none)
    (some (LO.out (0 : Nat) ((x00, x01, x02, PUnit.unit), PUnit.unit)))
theorem el27_0 (C : CallT) (L : LoopT) (x00 : List CVal) (x01 : Int) (x02 : Int) : evL E N C L 27 0 (loopCode Go.Proofs.Try.prog 27 0) [] Go.Proofs.Ytlgonbonnjkekaa.Abs.k27_0 ((x00, x01, x02, ()), ()) = nl27_0 C L x00 x01 x02 := by kernel_rfl
noncomputable def nl28_0 (C : CallT) (L : LoopT) (x00 : List CVal) (x02 : Int) (x1 : List CVal) : Option (LO Go.Proofs.Ytlgonbonnjkekaa.Abs.k28_0.T) :=
  br (decide (x02 < (↑x00.length : Int)))
    (br (decide ((0 : Int) ≤ x02) && true)
      (x00[x02.toNat]?.bind fun y =>
        br (CVal.fits true (3 : Nat) y)
          ((y.sub (nat_lit 0) (3 : Nat)).bind fun y =>
            (C (15 : Nat) [AVal.v y] []).bind fun r =>
              br (decide ((0 : Int) ≤ x02) && true)
                (br (decide (x02.toNat < x1.length) && true)
                  (x1[x02.toNat]?.bind fun y =>
                    br (CVal.fits true (3 : Nat) r.1)
                      (br (CVal.fits true (3 : Nat) y)
                        (L (28 : Nat) (0 : Nat) (loopCode Try.prog (28 : Nat) (0 : Nat)) [] k28_0
                          ((x00, PUnit.unit, Go.IntKind.i64.wrap (x02 + (1 : Int)), PUnit.unit), x1.set x02.toNat r.1,
                            PUnit.unit))
                        (br (y.isAgg && decide ((0 : Nat) + r.1.cells.length ≤ y.cells.length))
                          (L (28 : Nat) (0 : Nat) (loopCode Try.prog (28 : Nat) (0 : Nat)) [] k28_0
                            ((x00, PUnit.unit, Go.IntKind.i64.wrap (x02 + (1 : Int)), PUnit.unit),
                              x1.set x02.toNat (CVal.agg (splice y.cells (0 : Nat) r.1.cells)), PUnit.unit))
                          none))
                      none)
                  none)
                none)
          none)
      none)
    (some (LO.out (0 : Nat) ((x00, PUnit.unit, x02, PUnit.unit), x1, PUnit.unit)))
theorem el28_0 (C : CallT) (L : LoopT) (x00 : List CVal) (x02 : Int) (x1 : List CVal) : evL E N C L 28 0 (loopCode Go.Proofs.Try.prog 28 0) [] Go.Proofs.Ytlgonbonnjkekaa.Abs.k28_0 ((x00, (), x02, ()), x1, ()) = nl28_0 C L x00 x02 x1 := by kernel_rfl
noncomputable def nl29_0 (C : CallT) (L : LoopT) (x00 : List CVal) (x02 : List CVal) (x03 : Int) (x04 : Int) : Option (LO Go.Proofs.Ytlgonbonnjkekaa.Abs.k29_0.T) :=
  br (decide (x04 < x03))
    (br (decide ((0 : Int) ≤ x04) && true)
      (x02[x04.toNat]?.bind fun y =>
        br (CVal.fits true (3 : Nat) y)
          ((y.sub (nat_lit 0) (3 : Nat)).bind fun y =>
            br (CVal.isAggN (3 : Nat) y)
              ((y.cell (0 : Nat)).bind fun c =>
                (y.cell (1 : Nat)).bind fun c_1 =>
                  (y.cell (2 : Nat)).bind fun c_2 =>
                    br (decide ((0 : Int) ≤ x04) && true)
                      (x00[x04.toNat]?.bind fun y =>
                        br (CVal.fits true (3 : Nat) y)
                          ((y.sub (nat_lit 0) (3 : Nat)).bind fun y =>
                            br (CVal.isAggN (3 : Nat) y)
                              ((y.cell (0 : Nat)).bind fun c_3 =>
                                (y.cell (1 : Nat)).bind fun c_4 =>
                                  (y.cell (2 : Nat)).bind fun c_5 =>
                                    (C (16 : Nat) [AVal.v (CVal.agg [c, c_1, c_2]), AVal.v (CVal.agg [c_3, c_4, c_5])]
                                          []).bind
                                      fun r =>
                                      r.1.asBool.bind fun b =>
                                        br (!b) (some (LO.ret (CVal.bool false, [])))
                                          (L (29 : Nat) (0 : Nat) (loopCode Try.prog (29 : Nat) (0 : Nat)) [] k29_0
                                            ((x00, PUnit.unit, x02, x03, Go.IntKind.i64.wrap (x04 + (1 : Int)),
                                                PUnit.unit),
                                              PUnit.unit)))
                              none)
                          none)
                      none)
              none)
          none)
      none)
    (some (LO.out (0 : Nat) ((x00, PUnit.unit, x02, x03, x04, PUnit.unit), PUnit.unit)))
theorem el29_0 (C : CallT) (L : LoopT) (x00 : List CVal) (x02 : List CVal) (x03 : Int) (x04 : Int) : evL E N C L 29 0 (loopCode Go.Proofs.Try.prog 29 0) [] Go.Proofs.Ytlgonbonnjkekaa.Abs.k29_0 ((x00, (), x02, x03, x04, ()), ()) = nl29_0 C L x00 x02 x03 x04 := by kernel_rfl
noncomputable def nl30_0 (C : CallT) (L : LoopT) (x00 : List CVal) (x01 : List CVal) (x02 : Int) : Option (LO Go.Proofs.Ytlgonbonnjkekaa.Abs.k30_0.T) :=
  br (decide (x02 < (↑x00.length : Int)))
    (br (decide ((0 : Int) ≤ x02) && true)
      (x00[x02.toNat]?.bind fun y =>
        br (CVal.fits true (3 : Nat) y)
          ((y.sub (nat_lit 0) (3 : Nat)).bind fun y =>
            br (decide ((0 : Int) ≤ x02) && true)
              (x01[x02.toNat]?.bind fun y_1 =>
                br (CVal.fits true (3 : Nat) y_1)
                  ((y_1.sub (nat_lit 0) (3 : Nat)).bind fun y_2 =>
                    (C (17 : Nat) [AVal.v y, AVal.v y_2] []).bind fun r =>
                      r.1.asBool.bind fun b =>
                        br (!b) (some (LO.ret (CVal.bool false, [])))
                          (L (30 : Nat) (0 : Nat) (loopCode Try.prog (30 : Nat) (0 : Nat)) [] k30_0
                            ((x00, x01, Go.IntKind.i64.wrap (x02 + (1 : Int)), PUnit.unit), PUnit.unit)))
                  none)
              none)
          none)
      none)
    (some (LO.out (0 : Nat) ((x00, x01, x02, PUnit.unit), PUnit.unit)))
theorem el30_0 (C : CallT) (L : LoopT) (x00 : List CVal) (x01 : List CVal) (x02 : Int) : evL E N C L 30 0 (loopCode Go.Proofs.Try.prog 30 0) [] Go.Proofs.Ytlgonbonnjkekaa.Abs.k30_0 ((x00, x01, x02, ()), ()) = nl30_0 C L x00 x01 x02 := by kernel_rfl
end Go.Proofs.Ytlgonbonnjkekaa.Abs
